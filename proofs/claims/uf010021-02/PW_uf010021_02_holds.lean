import PyProof.Rows.All
import Wide.All
import OpenK.AllK
import Wide.FinOn
import PySem.Value
import PyProof.Cells
import PyProof.CompFree
import PyProof.StationsW
import PyProof.RulesTry
import PyProof.TupleIter
import OpenK.KCall
import PyProof.NoPylong
import PyProof.Rows.IntRules
import PyProof.Rows.RuleB_sub
import PyProof.Rows.RuleB_mul
import PyProof.Rows.RuleB_mod
import PyProof.Rows.RuleB_floordiv
import PyProof.Rows.RuleB_pow
import PyProof.Rows.TupAdd
import PyProof.Rows.ListMul
import PyProof.ListMulAny
import PyProof.FitsBits
import PyProof.EqLayable
import PyProof.P3In
import PyProof.IsRules
import PyProof.PureInt
import PyProof.Rows.RuleC_int
import PyProof.Rows.SeqSlice
import PyProof.SliceMore
import PyProof.ListIndexNeg
import PyProof.LetGo
import PyProof.Rows.TupSub
import PyProof.WalksMore
import PyProof.RangeFor
import PyProof.ConsumeWalk
import PyProof.TupleOfSeq
import PyProof.TupleCall
import PyProof.ListCopy
import PyProof.CallStr
import PyProof.Conv_int_bool
import PyProof.ListRange
import KE.KRevIter
import KE.KIsAll
import PyProof.Rows.StrJoin2
import PyProof.SeqWrite
import PyProof.ExcArgsOwn
import KE.KTryMore
import PyProof.MakeMany
import PyProof.CallType
import PyProof.CallRoads
import PyProof.FactsAll.str_0
import PyProof.FactsAll.str_5
import PyProof.FactsAll.list_0
import PyProof.FactsAll.list_3
import PyProof.FactsAll.list_4
import PyProof.ForRange
import PyProof.CompMap
import PyProof.ExcAttrAll.ValueError
import PyProof.CompUse
import PyProof.Rows.TupAssign
import PyProof.ForAny
import PyProof.ExcBaseAll.ValueError
import PyProof.NsDelKeeps
import PyProof.RulesAs
import OpenK.KWalk
import PyProof.Rows.Top
import PyProof.Rows.TupIn
import Wide.BridgeG
import Wide.Loose
import Open.Head
import PySem.Challenge.RW_uf010021_02
set_option Elab.async false
set_option bootstrap.genMatcherCode false
set_option genSizeOf false
set_option linter.unusedSimpArgs false
set_option linter.unusedVariables false

namespace Mine

theorem hold {G : Prop} (h : ∀ X : Prop, (G → X) → X) : G := h G id

/-- values: lists and tuples that nobody changes any more stand by value; a thing that may change is a cell -/
inductive V where
  | undef
  | none
  | bool (b : Bool)
  | int (i : Int)
  | str (s : String)
  | tup (vs : List V)
  | lst (vs : List V)
  | ref (i : Nat)
  | exc (c : String)
  | dct
deriving Inhabited

inductive Cell where
  | list (vs : List V)
  | dict (es : List (V × V))
deriving Inhabited

abbrev H := List Cell

noncomputable instance : DecidableEq V := fun _ _ => Classical.propDecidable _
noncomputable instance : DecidableEq Cell := fun _ _ => Classical.propDecidable _

/-- results -/
inductive R (α : Type) where
  | ok (a : α) (h : H)
  | err (c : String) (h : H)
  | bad

noncomputable def R.bind {α β : Type} (r : R α) (f : α → H → R β) : R β :=
  match r with
  | .ok a h => f a h
  | .err c h => .err c h
  | .bad => .bad

@[simp] theorem R.bind_ok {α β : Type} (a : α) (h : H) (f : α → H → R β) : (R.ok a h).bind f = f a h := rfl
@[simp] theorem R.bind_err {α β : Type} (c : String) (h : H) (f : α → H → R β) : (R.err c h).bind f = .err c h := rfl
@[simp] theorem R.bind_bad {α β : Type} (f : α → H → R β) : (R.bad).bind f = .bad := rfl

noncomputable def R.opt {α : Type} (o : Option α) (h : H) : R α :=
  match o with
  | some a => .ok a h
  | none => .bad
@[simp] theorem R.opt_some {α : Type} (a : α) (h : H) : R.opt (some a) h = .ok a h := rfl
@[simp] theorem R.opt_none {α : Type} (h : H) : R.opt (none : Option α) h = .bad := rfl

-- replace cells by what they hold
mutual
noncomputable def V.mapRef (g : Nat → Option V) : V → Option V
  | .tup vs => (V.mapRefs g vs).map .tup
  | .lst vs => (V.mapRefs g vs).map .lst
  | .ref i => g i
  | .undef => some .undef
  | .none => some .none
  | .bool b => some (.bool b)
  | .int i => some (.int i)
  | .str s => some (.str s)
  | .exc c => some (.exc c)
  | .dct => some .dct
noncomputable def V.mapRefs (g : Nat → Option V) : List V → Option (List V)
  | [] => some []
  | v :: vs => (V.mapRef g v).bind fun v' => (V.mapRefs g vs).map (v' :: ·)
end

noncomputable def frzAt : Nat → Nat → H → Nat → Option V
  | 0, n, _, i => if i < n then some (.ref i) else Option.none
  | k + 1, n, h, i =>
    if i < n then some (.ref i)
    else match h[i]? with
      | some (.list vs) => (V.mapRefs (frzAt k n h) vs).map .lst
      | _ => Option.none

/-- cells from n on are told by value -/
noncomputable def frz (n : Nat) (h : H) (v : V) : Option V := V.mapRef (frzAt 4 n h) v

-- no cells in it
mutual
noncomputable def V.plain : V → Bool
  | .tup vs => V.plains vs
  | .lst vs => V.plains vs
  | .ref _ => false
  | _ => true
noncomputable def V.plains : List V → Bool
  | [] => true
  | v :: vs => V.plain v && V.plains vs
end

mutual
theorem mapRef_plain (g : Nat → Option V) : ∀ v : V, v.plain = true → V.mapRef g v = some v
  | .tup vs, h => by simp only [V.plain] at h; simp [V.mapRef, mapRefs_plain g vs h]
  | .lst vs, h => by simp only [V.plain] at h; simp [V.mapRef, mapRefs_plain g vs h]
  | .ref _, h => by simp [V.plain] at h
  | .undef, _ => rfl
  | .none, _ => rfl
  | .bool _, _ => rfl
  | .int _, _ => rfl
  | .str _, _ => rfl
  | .exc _, _ => rfl
  | .dct, _ => rfl
theorem mapRefs_plain (g : Nat → Option V) : ∀ vs : List V, V.plains vs = true → V.mapRefs g vs = some vs
  | [], _ => rfl
  | v :: vs, h => by
    simp only [V.plains, Bool.and_eq_true] at h
    simp [V.mapRefs, mapRef_plain g v h.1, mapRefs_plain g vs h.2]
end

/-- the items of a list or a tuple -/
noncomputable def items (h : H) : V → Option (List V)
  | .lst vs => some vs
  | .tup vs => some vs
  | .ref i => match h[i]? with
    | some (.list vs) => some vs
    | _ => Option.none
  | _ => Option.none

/-- the items of a list -/
noncomputable def litems (h : H) : V → Option (List V)
  | .lst vs => some vs
  | .ref i => match h[i]? with
    | some (.list vs) => some vs
    | _ => Option.none
  | _ => Option.none

-- Python's == on things without cells
mutual
noncomputable def peq : V → V → Bool
  | .none, .none => true
  | .bool a, .bool b => a == b
  | .bool a, .int b => (if a then 1 else 0) == b
  | .int a, .bool b => a == (if b then 1 else 0)
  | .int a, .int b => a == b
  | .str a, .str b => a == b
  | .tup a, .tup b => peqs a b
  | .lst a, .lst b => peqs a b
  | _, _ => false
noncomputable def peqs : List V → List V → Bool
  | [], [] => true
  | a :: as, b :: bs => peq a b && peqs as bs
  | _, _ => false
end
theorem peq_none : peq .none .none = true := rfl
theorem peq_bool (a b : Bool) : peq (.bool a) (.bool b) = (a == b) := rfl
theorem peq_int (a b : Int) : peq (.int a) (.int b) = (a == b) := rfl
theorem peq_str (a b : String) : peq (.str a) (.str b) = (a == b) := rfl
theorem peq_tup (a b : List V) : peq (.tup a) (.tup b) = peqs a b := rfl
theorem peq_lst (a b : List V) : peq (.lst a) (.lst b) = peqs a b := rfl
theorem peqs_cons (a b : V) (as bs : List V) : peqs (a :: as) (b :: bs) = (peq a b && peqs as bs) := rfl

/-- things that == is told of here: not too deep, no cells, no dicts -/
noncomputable def V.ok : Nat → V → Bool
  | 0, _ => false
  | n + 1, v => match v with
    | .undef => false
    | .exc _ => false
    | .ref _ => false
    | .dct => false
    | .tup vs => vs.all (V.ok n)
    | .lst vs => vs.all (V.ok n)
    | _ => true

noncomputable def pyEq (h : H) (a b : V) : Option Bool :=
  match frz 0 h a, frz 0 h b with
  | some a, some b => if V.ok 8 a && V.ok 8 b then some (peq a b) else Option.none
  | _, _ => Option.none

noncomputable def asInts : List V → Option (List Int)
  | [] => some []
  | .int i :: vs => (asInts vs).map (i :: ·)
  | _ => Option.none

noncomputable def lexLt : List Int → List Int → Bool
  | [], [] => false
  | [], _ :: _ => true
  | _ :: _, [] => false
  | a :: as, b :: bs => if a = b then lexLt as bs else decide (a < b)

noncomputable def pyLt : V → V → Option Bool
  | .int a, .int b => some (decide (a < b))
  | _, _ => Option.none

inductive Cop where
  | eq | ne | lt | le | gt | ge | is | isNot | isin | notIn
deriving DecidableEq

/-- the things of a list or a tuple, none a cell -/
noncomputable def plainItems : V → Option (List V)
  | .lst vs => some vs
  | .tup vs => some vs
  | _ => Option.none

noncomputable def isIn (h : H) (a b : V) : Option Bool :=
  match frz 0 h a, frz 0 h b with
  | some a, some b => if V.ok 8 a && V.ok 8 b then (plainItems b).map fun vs => vs.any fun y => peq y a else Option.none
  | _, _ => Option.none

noncomputable def keyOk : V → Bool
  | .int _ => true
  | .tup vs => (asInts vs).isSome
  | _ => false

noncomputable def dfind (k : V) : List (V × V) → Option V
  | [] => Option.none
  | (k', v) :: es => if k = k' then some v else dfind k es

noncomputable def dput (k v : V) : List (V × V) → List (V × V)
  | [] => [(k, v)]
  | (k', v') :: es => if k = k' then (k', v) :: es else (k', v') :: dput k v es

noncomputable def pyIn (h : H) (a b : V) : Option Bool :=
  match b with
  | .ref i => match h[i]? with
    | some (.dict es) => if keyOk a then some (dfind a es).isSome else Option.none
    | _ => isIn h a b
  | _ => isIn h a b

/-- identity with None or a bool alone -/
noncomputable def pyIs (a b : V) : Option Bool :=
  match b with
  | .none => match a with
    | .none => some true
    | .undef => Option.none
    | _ => some false
  | .bool y => match a with
    | .bool x => some (x == y)
    | _ => Option.none
  | _ => Option.none

noncomputable def pyCmp (op : Cop) (h : H) (a b : V) : Option Bool :=
  match op with
  | .eq => pyEq h a b
  | .ne => (pyEq h a b).map (!·)
  | .lt => pyLt a b
  | .gt => pyLt b a
  | .le => (pyLt b a).map (!·)
  | .ge => (pyLt a b).map (!·)
  | .is => pyIs a b
  | .isNot => (pyIs a b).map (!·)
  | .isin => pyIn h a b
  | .notIn => (pyIn h a b).map (!·)

inductive Bop where
  | add | sub | mul | fdiv | mod | pow
deriving DecidableEq

noncomputable def rep {α : Type} (vs : List α) (n : Int) : List α := (List.replicate n.toNat vs).flatten

/-- a list, a tuple of no more items than are spoken of -/
noncomputable def mkL (vs : List V) : Option V := if vs.length ≤ 1000000 then some (.lst vs) else Option.none
noncomputable def mkT (vs : List V) : Option V := if vs.length ≤ 1000000 then some (.tup vs) else Option.none

noncomputable def int2 (f : Int → Int → Option V) (a b : V) : Option V :=
  match a with
  | .int x => match b with
    | .int y => f x y
    | _ => Option.none
  | _ => Option.none
noncomputable def pyAdd (h : H) (a b : V) : Option V :=
  match a with
  | .int x => match b with
    | .int y => some (.int (x + y))
    | _ => Option.none
  | .tup x => match b with
    | .tup y => mkT (x ++ y)
    | _ => Option.none
  | a => (litems h a).bind fun x => (litems h b).bind fun y => mkL (x ++ y)
noncomputable def pyMul (h : H) (a b : V) : Option V :=
  match b with
  | .int n => match a with
    | .int x => if x.natAbs < 9223372036854775808 ∨ n.natAbs < 9223372036854775808 then some (.int (x * n)) else Option.none
    | a => if -1000000 < n ∧ n < 1000000 then (litems h a).bind fun vs => mkL (rep vs n) else Option.none
  | _ => Option.none
noncomputable def pyBin (op : Bop) (h : H) (a b : V) : Option V :=
  match op with
  | .add => pyAdd h a b
  | .sub => int2 (fun x y => some (.int (x - y))) a b
  | .mul => pyMul h a b
  | .fdiv => int2 (fun x y => if y = 0 then Option.none else some (.int (x.fdiv y))) a b
  | .mod => int2 (fun x y => if y = 0 then Option.none else some (.int (x.fmod y))) a b
  | .pow => int2 (fun x y => if x = 10 ∧ y = 20 then some (.int 100000000000000000000) else Option.none) a b
theorem int2_cases (f : Int → Int → Option V) (a b : V) : int2 f a b = Option.none ∨ ∃ x y, a = .int x ∧ b = .int y := by
  cases a with
  | int x => cases b with
    | int y => exact .inr ⟨x, y, rfl, rfl⟩
    | _ => exact .inl rfl
  | _ => exact .inl rfl
theorem pyAdd_cases (h : H) (a b : V) : pyAdd h a b = Option.none ∨ (∃ x y, a = .int x ∧ b = .int y) ∨ (∃ x y, a = .tup x ∧ b = .tup y) ∨ ∃ x y, litems h a = some x ∧ litems h b = some y ∧ pyAdd h a b = mkL (x ++ y) := by
  have go : pyAdd h a b = ((litems h a).bind fun x => (litems h b).bind fun y => mkL (x ++ y)) → pyAdd h a b = Option.none ∨ ∃ x y, litems h a = some x ∧ litems h b = some y ∧ pyAdd h a b = mkL (x ++ y) := fun e => by
    rw [e]
    cases litems h a with
    | none => exact .inl rfl
    | some x => cases litems h b with
      | none => exact .inl rfl
      | some y => exact .inr ⟨x, y, rfl, rfl, rfl⟩
  cases a with
  | int x => cases b with
    | int y => exact .inr (.inl ⟨x, y, rfl, rfl⟩)
    | _ => exact .inl rfl
  | tup x => cases b with
    | tup y => exact .inr (.inr (.inl ⟨x, y, rfl, rfl⟩))
    | _ => exact .inl rfl
  | _ => exact (go rfl).imp id fun h => .inr (.inr h)
theorem pyMul_cases (h : H) (a b : V) : pyMul h a b = Option.none ∨ (∃ x y, a = .int x ∧ b = .int y) ∨ ∃ n, b = .int n ∧ pyMul h a b = if -1000000 < n ∧ n < 1000000 then (litems h a).bind fun vs => mkL (rep vs n) else Option.none := by
  cases b with
  | int n => cases a with
    | int x => exact .inr (.inl ⟨x, n, rfl, rfl⟩)
    | _ => exact .inr (.inr ⟨n, rfl, rfl⟩)
  | _ => exact .inl rfl

/-- an index as Python reads it -/
noncomputable def place (n : Nat) (i : Int) : Option Nat :=
  if 0 ≤ i then (if i < n then some i.toNat else Option.none)
  else if 0 ≤ i + n then some (i + n).toNat else Option.none

noncomputable def pyIdx (h : H) (a i : V) : Option V :=
  match a with
  | .ref r => match h[r]? with
    | some (.dict es) => if keyOk i then dfind i es else Option.none
    | some (.list vs) => match i with
      | .int k => (place vs.length k).bind fun j => vs[j]?
      | _ => Option.none
    | none => Option.none
  | .lst vs => match i with
    | .int k => (place vs.length k).bind fun j => vs[j]?
    | _ => Option.none
  | .tup vs => match i with
    | .int k => (place vs.length k).bind fun j => vs[j]?
    | _ => Option.none
  | _ => Option.none

/-- a bound of a slice, as Python cuts it -/
noncomputable def cut (n : Nat) (i : Int) : Nat :=
  if i < 0 then (i + n).toNat else min i.toNat n

noncomputable def slc {α : Type} (vs : List α) (lo hi : Option Int) : List α :=
  let a := match lo with | some i => cut vs.length i | none => 0
  let b := match hi with | some i => cut vs.length i | none => vs.length
  (vs.take b).drop a

noncomputable def asInt? : V → Option Int
  | .int i => some i
  | _ => Option.none

noncomputable def pySlice (h : H) (a : V) (lo hi : Option V) : Option V :=
  match lo.mapM asInt?, hi.mapM asInt? with
  | some lo, some hi =>
    match a with
    | .tup _ => Option.none
    | _ => (litems h a).map fun vs => .lst (slc vs lo hi)
  | _, _ => Option.none

inductive Ty where
  | int | bool | list | tuple | valueError
  | own (c : String)
deriving DecidableEq

/-- the text's own exceptions; the first is the base of the others -/
noncomputable def excNames : List String := ["RingError", "BadSize", "BadWord", "BadBook", "BadRing", "NoWord", "NoRing", "NoJoin"]

noncomputable def isExc (c : String) (t : Ty) : Option Bool :=
  if excNames.contains c then
    match t with
    | .own d => if excNames.contains d then some (c == d || d == "RingError") else Option.none
    | .valueError => some true
    | _ => Option.none
  else Option.none

noncomputable def isTy (h : H) (v : V) (t : Ty) : Option Bool :=
  match v with
  | .undef => Option.none
  | .exc _ => Option.none
  | .ref i => match h[i]? with
    | some (.list _) => some (t == .list)
    | some (.dict _) => some false
    | none => Option.none
  | .lst _ => some (t == .list)
  | .tup _ => some (t == .tuple)
  | .bool _ => some (t == .bool || t == .int)
  | .int _ => some (t == .int)
  | _ => some false

noncomputable def isTys (h : H) (v : V) : List Ty → Option Bool
  | [] => some false
  | t :: ts => match isTy h v t with
    | some true => some true
    | some false => isTys h v ts
    | none => Option.none

noncomputable def truthy : V → Option Bool
  | .bool b => some b
  | _ => Option.none

inductive Bf where
  | len | list | tuple | sorted | min | sum | any | all | int | str | listRev | listRange
deriving DecidableEq

/-- those that go through their argument (list and tuple of a list are shown under a handler too) -/
noncomputable def Bf.walks : Bf → Bool
  | .sorted | .min | .sum | .any | .all | .listRev | .listRange => true
  | _ => false
/-- those that are shown so far -/
noncomputable def Bf.ready : Bf → Bool
  | .len | .list | .tuple | .int | .all | .any | .str | .listRev => true
  | _ => false

/-- stable: the later of two equal ones goes behind -/
noncomputable def isort {α : Type} (lt : α → α → Bool) : List α → List α
  | [] => []
  | x :: xs => insertBy' lt x (isort lt xs)
where
  insertBy' (lt : α → α → Bool) (x : α) : List α → List α
    | [] => [x]
    | y :: ys => if lt y x then y :: insertBy' lt x ys else x :: y :: ys

noncomputable def V.ints (l : List Int) : V := .lst (l.map .int)
noncomputable def V.words (l : List (List Int)) : V := .lst (l.map V.ints)

/-- each with its key -/
noncomputable def keyed {α : Type} (f : V → Option α) : List V → Option (List (α × V))
  | [] => some []
  | v :: vs => (f v).bind fun a => (keyed f vs).map ((a, v) :: ·)
noncomputable def keyL (h : H) (v : V) : Option (List Int) := (litems h v).bind asInts
noncomputable def keyT : V → Option (List Int)
  | .tup vs => asInts vs
  | _ => Option.none
noncomputable def keyI : V → Option Int
  | .int i => some i
  | _ => Option.none
/-- sorted by keys; told only where equal keys are of one thing -/
noncomputable def sortBy {α : Type} [DecidableEq α] (lt : α → α → Bool) (l : List (α × V)) : Option (List V) :=
  if l.all (fun p => l.all fun q => decide (p.1 = q.1 → p.2 = q.2)) then some ((isort (fun a b => lt a.1 b.1) l).map (·.2)) else Option.none
noncomputable def sortVs (h : H) (vs : List V) : Option (List V) :=
  match keyed keyI vs with
  | some l => sortBy (fun a b => decide (a < b)) l
  | none => match keyed (keyL h) vs with
    | some l => sortBy lexLt l
    | none => match keyed keyT vs with
      | some l => sortBy lexLt l
      | none => Option.none
noncomputable def minVs (h : H) (vs : List V) : Option V :=
  match keyed (keyL h) vs with
  | some l => (sortBy lexLt l).bind List.head?
  | none => Option.none

noncomputable def asBools : List V → Option (List Bool)
  | [] => some []
  | .bool b :: r => (asBools r).map (b :: ·)
  | _ => Option.none

noncomputable def upto (n : Int) : List V := (List.range n.toNat).map fun (i : Nat) => .int (i : Int)
noncomputable def fromTo (a b : Int) : List V := (List.range (b - a).toNat).map fun (i : Nat) => .int (a + (i : Int))
/-- range(a, b, k), k > 0 -/
noncomputable def fromBy (a b k : Int) : List V := (List.range ((b - a + k - 1).fdiv k).toNat).map fun (i : Nat) => .int (a + (i : Int) * k)
/-- range(a, b, -1) -/
noncomputable def downTo (a b : Int) : List V := (List.range (a - b).toNat).map fun (i : Nat) => .int (a - (i : Int))

noncomputable def bf (f : Bf) (h : H) (v : V) : Option V :=
  match f with
  | .len => match v with
    | .ref i => match h[i]? with
      | some (.list vs) => some (.int vs.length)
      | some (.dict es) => some (.int es.length)
      | none => Option.none
    | _ => (items h v).map fun vs => .int vs.length
  | .list => (items h v).map .lst
  | .tuple => (items h v).map .tup
  | .listRev => (litems h v).map fun vs => .lst vs.reverse
  | .sorted => match v with
    | .ref i => match h[i]? with
      | some (.list vs) => (sortVs h vs).map .lst
      | some (.dict es) => (sortVs h (es.map (·.1))).map .lst
      | none => Option.none
    | _ => (items h v).bind fun vs => (sortVs h vs).map .lst
  | .min => (litems h v).bind (minVs h)
  | .sum => (litems h v).bind fun vs => (asInts vs).map fun l => .int l.sum
  | .any => (litems h v).bind fun vs => (asBools vs).map fun bs => .bool (bs.any id)
  | .all => (litems h v).bind fun vs => (asBools vs).map fun bs => .bool (bs.all id)
  | .int => match v with
    | .bool b => some (.int (if b then 1 else 0))
    | _ => Option.none
  | .str => match v with
    | .int i => if 0 ≤ i ∧ i < 100 then some (.str (toString i)) else Option.none
    | _ => Option.none
  | .listRange => match v with
    | .int n => mkL (upto n)
    | _ => Option.none

/-- a cell that a loop goes through: it is not to change meanwhile -/
abbrev Watch := Option (Nat × Cell)
noncomputable def Watch.ok (w : Watch) (h : H) : Bool :=
  match w with
  | none => true
  | some (i, c) => decide (h[i]? = some c)
@[simp] theorem Watch.ok_none (h : H) : Watch.ok none h = true := rfl

/-- what a loop goes through -/
noncomputable def iterOf (h : H) : V → Option (List V × Watch)
  | .lst vs => some (vs, Option.none)
  | .tup vs => some (vs, Option.none)
  | .ref i => match h[i]? with
    | some (.list vs) => some (vs, some (i, .list vs))
    | some (.dict es) => some (es.map (·.1), some (i, .dict es))
    | none => Option.none
  | _ => Option.none

noncomputable def joinStrs : List V → Option String
  | [] => some ""
  | .str s :: r => if s.toList.length ≤ 10 then (joinStrs r).map (s ++ ·) else Option.none
  | _ => Option.none

set_option genInjectivity false in
mutual
inductive PE where
  | none | bool (b : Bool) | int (i : Int) | str (s : String)
  | var (i : Nat)
  | glob (g : String) (i : Int)
  | bin (op : Bop) (a b : PE)
  | neg (i : Int)
  | not (a : PE)
  | and (es : List PE) | or (es : List PE)
  | ite (t a b : PE)
  | cmp (op : Cop) (a b : PE)
  | cmp2 (op1 op2 : Cop) (a b c : PE)
  | list (es : List PE) | tup (es : List PE) | dict0
  | idx (a i : PE)
  | slice (a : PE) (lo hi : Option PE)
  | rev (a : PE)
  | isinst (a : PE) (ts : List Ty)
  | isexc (x : Nat) (t : Ty)        -- isinstance of the caught exception
  | callX (f : String) (x : Nat)    -- a call with the caught exception
  | bf (f : Bf) (a : PE)
  | join0 (a : PE)
  | comp (elt : PE) (x : Nat) (it : PIt) (cond : Option PE)
  | call (keep : Bool) (f : String) (args : List PE)
  | own (a : PE)                    -- a fresh list, as a cell
  | newDict (es : List (PE × PE))   -- a dict display, as a cell
  | append (o a : PE) | extend (o a : PE) | clear (o : PE) | remove (o a : PE)
  | pop (o : PE) | popAt (o i : PE)
  | get (o k d : PE) | setdef (o k d : PE)
  | setdefL (o k : PE)              -- setdefault(k, [])
inductive PIt where
  | seq (e : PE)
  | range1 (a : PE) | range2 (a b : PE) | range3 (a b c : PE)
  | enum (e : PE)
end

set_option genInjectivity false in
inductive PS where
  | expr (e : PE)
  | asg (x : Nat) (e : PE)
  | asgT (xs : List Nat) (e : PE)
  | setIdx (o i e : PE)
  | setIdx2 (o1 i1 o2 i2 e1 e2 : PE)
  | ret (e : PE)
  | ifs (t : PE) (a b : List PS)
  | for1 (x : Nat) (it : PIt) (body : List PS)
  | for2 (x y : Nat) (it : PIt) (body : List PS)
  | while (t : PE) (body : List PS)
  | raise (c : String)
  | try (body : List PS) (c : String) (x : Nat) (handler : List PS)
  | pass
  | frz (x : Nat)                   -- the cell of a name is told by value from here on

structure FnDef where
  arity : Nat
  slots : Nat
  body : List PS

abbrev Tab := String → Option FnDef
abbrev Fn := Bool → String → List V → H → R V

/-- a call whose own cells are dropped -/
noncomputable def pcall (h : H) (r : R V) : R V :=
  match r with
  | .ok v h' => if h'.take h.length = h then R.opt (Mine.frz h.length h' v) h else .bad
  | .err c h' => if h'.take h.length = h then .err c h else .bad
  | .bad => .bad

noncomputable def seti (h : H) (o i v : V) : Option H :=
  match o with
  | .ref r => match h[r]? with
    | some (.list vs) => match i with
      | .int k => (place vs.length k).map fun j => h.set r (.list (vs.set j v))
      | _ => Option.none
    | some (.dict es) => if keyOk i then some (h.set r (.dict (dput i v es))) else Option.none
    | none => Option.none
  | _ => Option.none

noncomputable def eraseEq (h : H) (a : V) : List V → Option (List V)
  | [] => Option.none
  | b :: bs => match pyEq h b a with
    | some true => some bs
    | some false => (eraseEq h a bs).map (b :: ·)
    | none => Option.none

noncomputable def onList (h : H) (o : V) (f : List V → Option (V × List V)) : R V :=
  match o with
  | .ref r => match h[r]? with
    | some (.list vs) => match f vs with
      | some (v, vs') => if vs'.length ≤ 1000000 then .ok v (h.set r (.list vs')) else .bad
      | none => .bad
    | _ => .bad
  | _ => .bad

/-- a list cell -/
noncomputable def lcell (h : H) (o : V) : Bool :=
  match o with
  | .ref r => match h[r]? with
    | some (.list _) => true
    | _ => false
  | _ => false

noncomputable def onDict (h : H) (o k : V) (f : Nat → List (V × V) → R V) : R V :=
  match o with
  | .ref r => match h[r]? with
    | some (.dict es) => if keyOk k then f r es else .bad
    | _ => .bad
  | _ => .bad

noncomputable def enumFrom (n : Nat) : List V → List V
  | [] => []
  | v :: vs => .tup [.int n, v] :: enumFrom (n + 1) vs

/-- what a comprehension gathers -/
noncomputable def compL (w : Watch) (elt : V → H → R V) (cond : V → H → R V) : List V → H → R (List V)
  | [], h => if w.ok h then .ok [] h else .bad
  | x :: xs, h => if w.ok h then (cond x h).bind fun b h => match truthy b with
    | some true => (elt x h).bind fun v h => (compL w elt cond xs h).bind fun vs h => .ok (v :: vs) h
    | some false => compL w elt cond xs h
    | none => .bad
    else .bad

mutual
noncomputable def evE (q : Bool) (F : Fn) (ρ : List V) : PE → H → R V
  | .none, h => .ok .none h
  | .bool b, h => .ok (.bool b) h
  | .int i, h => .ok (.int i) h
  | .str s, h => .ok (.str s) h
  | .var i, h => match ρ[i]? with
    | some .undef => .bad
    | some (.exc _) => .bad
    | some v => .ok v h
    | Option.none => .bad
  | .glob _ i, h => .ok (.int i) h
  | .bin op a b, h => (evE q F ρ a h).bind fun x h => (evE q F ρ b h).bind fun y h => R.opt (pyBin op h x y) h
  | .neg i, h => .ok (.int (-i)) h
  | .not a, h => (evE q F ρ a h).bind fun x h => match truthy x with
    | some b => .ok (.bool (!b)) h
    | Option.none => .bad
  | .and es, h => evAnd q F ρ es h
  | .or es, h => evOr q F ρ es h
  | .ite t a b, h => (evE q F ρ t h).bind fun x h => match truthy x with
    | some true => evE q F ρ a h
    | some false => evE q F ρ b h
    | Option.none => .bad
  | .cmp op a b, h => (evE q F ρ a h).bind fun x h => (evE q F ρ b h).bind fun y h => R.opt ((pyCmp op h x y).map .bool) h
  | .cmp2 op1 op2 a b c, h => (evE q F ρ a h).bind fun x h => (evE q F ρ b h).bind fun y h => match pyCmp op1 h x y with
    | some true => (evE q F ρ c h).bind fun z h => R.opt ((pyCmp op2 h y z).map .bool) h
    | some false => .ok (.bool false) h
    | Option.none => .bad
  | .list es, h => (evEs q F ρ es h).bind fun vs h => R.opt (mkL vs) h
  | .tup es, h => (evEs q F ρ es h).bind fun vs h => R.opt (mkT vs) h
  | .dict0, h => .ok .dct h
  | .idx a i, h => (evE q F ρ a h).bind fun x h => (evE q F ρ i h).bind fun y h => R.opt (pyIdx h x y) h
  | .slice a lo hi, h => (evE q F ρ a h).bind fun x h => (evO q F ρ lo h).bind fun l h => (evO q F ρ hi h).bind fun u h => R.opt (pySlice h x l u) h
  | .rev _, _ => .bad
  | .isinst a ts, h => (evE q F ρ a h).bind fun x h => R.opt ((isTys h x ts).map .bool) h
  | .isexc x t, h => match ρ[x]? with
    | some (.exc c) => R.opt ((isExc c t).map .bool) h
    | _ => .bad
  | .callX f x, h => match ρ[x]? with
    | some (.exc c) => pcall h (F q f [.exc c] h)
    | _ => .bad
  | .bf f a, h => if (!q && f.walks) || !f.ready then .bad else (evE q F ρ a h).bind fun x h => R.opt (Mine.bf f h x) h
  | .join0 a, h => if !q then .bad else (evE q F ρ a h).bind fun x h => R.opt ((litems h x).bind fun vs => (joinStrs vs).map .str) h
  | .comp elt x it cond, h => if !q then .bad else (evIt q F ρ it h).bind fun vs h =>
      match compL vs.2 (fun v h => evE q F (ρ.set x v) elt h) (fun v h => evC q F (ρ.set x v) cond h) vs.1 h with
      | .ok r h => R.opt (mkL r) h
      | _ => .bad
  | .call k f args, h => (evEs q F ρ args h).bind fun vs h => if k then F q f vs h else pcall h (F q f vs h)
  | .own a, h => (evE q F ρ a h).bind fun x h => match x with
    | .lst vs => .ok (.ref h.length) (h ++ [.list vs])
    | _ => .bad
  | .newDict es, h => (evPs q F ρ es h).bind fun ps h => .ok (.ref h.length) (h ++ [.dict ps])
  | .append o a, h => (evE q F ρ o h).bind fun x h => if lcell h x then (evE q F ρ a h).bind fun y h => onList h x fun vs => some (.none, vs ++ [y]) else .bad
  | .extend o a, h => (evE q F ρ o h).bind fun x h => if lcell h x then (evE q F ρ a h).bind fun y h => match y with
    | .lst ws => onList h x fun vs => some (.none, vs ++ ws)
    | _ => .bad
    else .bad
  | .clear o, h => (evE q F ρ o h).bind fun x h => onList h x fun _ => some (.none, [])
  | .remove o a, h => (evE q F ρ o h).bind fun x h => if lcell h x then (evE q F ρ a h).bind fun y h => onList h x fun vs => (eraseEq h y vs).map fun r => (.none, r) else .bad
  | .pop o, h => (evE q F ρ o h).bind fun x h => onList h x fun vs => (vs.getLast?).map fun v => (v, vs.dropLast)
  | .popAt o i, h => (evE q F ρ o h).bind fun x h => if lcell h x then (evE q F ρ i h).bind fun y h => match y with
    | .int k => onList h x fun vs => (place vs.length k).bind fun j => (vs[j]?).map fun v => (v, vs.eraseIdx j)
    | _ => .bad
    else .bad
  | .get o k d, h => (evE q F ρ o h).bind fun x h => (evE q F ρ k h).bind fun y h => (evE q F ρ d h).bind fun z h =>
      onDict h x y fun _ es => .ok ((dfind y es).getD z) h
  | .setdef o k d, h => (evE q F ρ o h).bind fun x h => (evE q F ρ k h).bind fun y h => (evE q F ρ d h).bind fun z h =>
      onDict h x y fun r es => match dfind y es with
        | some v => .ok v h
        | Option.none => .ok z (h.set r (.dict (es ++ [(y, z)])))
  | .setdefL o k, h => (evE q F ρ o h).bind fun x h => (evE q F ρ k h).bind fun y h =>
      onDict h x y fun r es => match dfind y es with
        | some v => .ok v h
        | Option.none => .ok (.ref h.length) (h.set r (.dict (es ++ [(y, .ref h.length)])) ++ [.list []])
noncomputable def evEs (q : Bool) (F : Fn) (ρ : List V) : List PE → H → R (List V)
  | [], h => .ok [] h
  | e :: es, h => (evE q F ρ e h).bind fun v h => (evEs q F ρ es h).bind fun vs h => .ok (v :: vs) h
noncomputable def evPs (q : Bool) (F : Fn) (ρ : List V) : List (PE × PE) → H → R (List (V × V))
  | [], h => .ok [] h
  | (a, b) :: es, h => (evE q F ρ a h).bind fun k h => (evE q F ρ b h).bind fun v h => (evPs q F ρ es h).bind fun ps h =>
      if keyOk k && (dfind k ps).isNone then .ok ((k, v) :: ps) h else .bad
noncomputable def evO (q : Bool) (F : Fn) (ρ : List V) : Option PE → H → R (Option V)
  | Option.none, h => .ok Option.none h
  | some e, h => (evE q F ρ e h).bind fun v h => .ok (some v) h
noncomputable def evC (q : Bool) (F : Fn) (ρ : List V) : Option PE → H → R V
  | Option.none, h => .ok (.bool true) h
  | some e, h => evE q F ρ e h
noncomputable def evAnd (q : Bool) (F : Fn) (ρ : List V) : List PE → H → R V
  | [], _ => .bad
  | [e], h => evE q F ρ e h
  | e :: es, h => (evE q F ρ e h).bind fun x h => match truthy x with
    | some true => evAnd q F ρ es h
    | some false => .ok x h
    | Option.none => .bad
noncomputable def evOr (q : Bool) (F : Fn) (ρ : List V) : List PE → H → R V
  | [], _ => .bad
  | [e], h => evE q F ρ e h
  | e :: es, h => (evE q F ρ e h).bind fun x h => match truthy x with
    | some true => .ok x h
    | some false => evOr q F ρ es h
    | Option.none => .bad
noncomputable def evIt (q : Bool) (F : Fn) (ρ : List V) : PIt → H → R (List V × Watch)
  | .seq e, h => (evE q F ρ e h).bind fun x h => R.opt (iterOf h x) h
  | .range1 a, h => (evE q F ρ a h).bind fun x h => match x with
    | .int n => if -1000000 ≤ n ∧ n ≤ 1000000 then .ok (upto n, Option.none) h else .bad
    | _ => .bad
  | .range2 a b, h => (evE q F ρ a h).bind fun x h => (evE q F ρ b h).bind fun y h => match x, y with
    | .int m, .int n => if -1000000 ≤ m ∧ m ≤ 1000000 ∧ -1000000 ≤ n ∧ n ≤ 1000000 then .ok (fromTo m n, Option.none) h else .bad
    | _, _ => .bad
  | .range3 a b c, h => (evE q F ρ a h).bind fun x h => (evE q F ρ b h).bind fun y h => (evE q F ρ c h).bind fun z h => match x, y, z with
    | .int m, .int n, .int k => if -1000000 ≤ m ∧ m ≤ 1000000 ∧ -1000000 ≤ n ∧ n ≤ 1000000 then
        (if k = -1 then .ok (downTo m n, Option.none) h else if 0 < k ∧ k ≤ 1000000 then .ok (fromBy m n k, Option.none) h else .bad) else .bad
    | _, _, _ => .bad
  | .enum e, h => (evE q F ρ e h).bind fun x h => R.opt ((iterOf h x).map fun p => (enumFrom 0 p.1, p.2)) h
end

/-- how a statement ends -/
inductive Fl where
  | next
  | ret (v : V)

inductive RS where
  | ok (f : Fl) (ρ : List V) (h : H)
  | err (c : String) (ρ : List V) (h : H)
  | bad

noncomputable def R.st {α : Type} (r : R α) (ρ : List V) (f : α → H → RS) : RS :=
  match r with
  | .ok a h => f a h
  | .err c h => .err c ρ h
  | .bad => .bad
@[simp] theorem R.st_ok {α : Type} (a : α) (h : H) (ρ : List V) (f : α → H → RS) : (R.ok a h).st ρ f = f a h := rfl
@[simp] theorem R.st_err {α : Type} (c : String) (h : H) (ρ : List V) (f : α → H → RS) : (R.err c h).st ρ f = .err c ρ h := rfl
@[simp] theorem R.st_bad {α : Type} (ρ : List V) (f : α → H → RS) : (R.bad).st ρ f = .bad := rfl

noncomputable def RS.then (r : RS) (f : List V → H → RS) : RS :=
  match r with
  | .ok .next ρ h => f ρ h
  | r => r
@[simp] theorem RS.then_next (ρ : List V) (h : H) (f : List V → H → RS) : (RS.ok .next ρ h).then f = f ρ h := rfl
@[simp] theorem RS.then_ret (v : V) (ρ : List V) (h : H) (f : List V → H → RS) : (RS.ok (.ret v) ρ h).then f = .ok (.ret v) ρ h := rfl
@[simp] theorem RS.then_err (c : String) (ρ : List V) (h : H) (f : List V → H → RS) : (RS.err c ρ h).then f = .err c ρ h := rfl
@[simp] theorem RS.then_bad (f : List V → H → RS) : (RS.bad).then f = .bad := rfl

noncomputable def setAll (ρ : List V) : List Nat → List V → Option (List V)
  | [], [] => some ρ
  | x :: xs, v :: vs => setAll (ρ.set x v) xs vs
  | _, _ => Option.none

noncomputable def bind1 (x : Nat) (ρ : List V) (v : V) : Option (List V) := some (ρ.set x v)
noncomputable def bind2 (x y : Nat) (ρ : List V) (v : V) : Option (List V) :=
  match v with
  | .tup [a, b] => some ((ρ.set x a).set y b)
  | _ => Option.none

noncomputable def forL (w : Watch) (bindv : List V → V → Option (List V)) (body : List V → H → RS) : List V → List V → H → RS
  | [], ρ, h => if w.ok h then .ok .next ρ h else .bad
  | v :: vs, ρ, h => if w.ok h then (match bindv ρ v with
      | some ρ' => (body ρ' h).then fun ρ h => forL w bindv body vs ρ h
      | none => .bad) else .bad

noncomputable def whileL (test : List V → H → R V) (body : List V → H → RS) : Nat → List V → H → RS
  | 0, _, _ => .bad
  | n + 1, ρ, h => (test ρ h).st ρ fun b h => match truthy b with
    | some true => (body ρ h).then fun ρ h => whileL test body n ρ h
    | some false => .ok .next ρ h
    | none => .bad

/-- so often a while loop is gone round at most -/
noncomputable def turns : Nat := 1000000

-- does a cell stand in it
mutual
noncomputable def V.has (r : Nat) : V → Bool
  | .tup vs => V.hasAny r vs
  | .lst vs => V.hasAny r vs
  | .ref i => i == r
  | _ => false
noncomputable def V.hasAny (r : Nat) : List V → Bool
  | [] => false
  | v :: vs => V.has r v || V.hasAny r vs
end
noncomputable def Cell.has (r : Nat) : Cell → Bool
  | .list vs => V.hasAny r vs
  | .dict es => es.any fun e => V.has r e.1 || V.has r e.2

/-- the cell of a name, the last one and named nowhere else, is told by value -/
noncomputable def freeze (x : Nat) (ρ : List V) (h : H) : RS :=
  match ρ[x]? with
  | some (.ref i) => match h[i]? with
    | some (.list vs) =>
      if i + 1 = h.length && !(V.hasAny i (ρ.set x .undef)) && !(h.any (Cell.has i)) then .ok .next (ρ.set x (.lst vs)) h.dropLast else .bad
    | _ => .bad
  | _ => .bad

mutual
noncomputable def exS (q : Bool) (F : Fn) : PS → List V → H → RS
  | .expr e, ρ, h => (evE q F ρ e h).st ρ fun v h => match v with
    | .none => .ok .next ρ h
    | _ => .bad
  | .asg x e, ρ, h => (evE q F ρ e h).st ρ fun v h => .ok .next (ρ.set x v) h
  | .asgT xs e, ρ, h => if !q then .bad else (evE q F ρ e h).st ρ fun v h => match v with
    | .tup vs => (match setAll ρ xs vs with
      | some ρ => .ok .next ρ h
      | Option.none => .bad)
    | _ => .bad
  | .setIdx o i e, ρ, h => (evE q F ρ e h).st ρ fun v h => (evE q F ρ o h).st ρ fun x h => (evE q F ρ i h).st ρ fun y h => match seti h x y v with
    | some h => .ok .next ρ h
    | Option.none => .bad
  | .setIdx2 o1 i1 o2 i2 e1 e2, ρ, h => (evE q F ρ e1 h).st ρ fun v h => (evE q F ρ e2 h).st ρ fun w h =>
      (evE q F ρ o1 h).st ρ fun x h => (evE q F ρ i1 h).st ρ fun y h => match seti h x y v with
        | some h => (evE q F ρ o2 h).st ρ fun x h => (evE q F ρ i2 h).st ρ fun y h => (match seti h x y w with
          | some h => .ok .next ρ h
          | Option.none => .bad)
        | Option.none => .bad
  | .ret e, ρ, h => (evE q F ρ e h).st ρ fun v h => .ok (.ret v) ρ h
  | .ifs t a b, ρ, h => (evE q F ρ t h).st ρ fun x h => match truthy x with
    | some true => exSs q F a ρ h
    | some false => exSs q F b ρ h
    | Option.none => .bad
  | .for1 x it body, ρ, h => if !q then .bad else (evIt q F ρ it h).st ρ fun vs h => forL vs.2 (bind1 x) (fun ρ h => exSs q F body ρ h) vs.1 ρ h
  | .for2 x y it body, ρ, h => if !q then .bad else (evIt q F ρ it h).st ρ fun vs h => forL vs.2 (bind2 x y) (fun ρ h => exSs q F body ρ h) vs.1 ρ h
  | .while t body, ρ, h => if !q then .bad else whileL (fun ρ h => evE q F ρ t h) (fun ρ h => exSs q F body ρ h) turns ρ h
  | .raise c, ρ, h => if !q then .bad else .err c ρ h
  | .try body c x handler, ρ, h => if !q then .bad else match exSs q F body ρ h with
    | .err d ρ h => if excNames.contains d && c == "RingError" then (match exSs false F handler (ρ.set x (.exc d)) h with
        | .ok f ρ h => .ok f (ρ.set x .undef) h
        | .err _ _ _ => .bad
        | .bad => .bad) else .bad
    | r => r
  | .pass, ρ, h => .ok .next ρ h
  | .frz x, ρ, h => freeze x ρ h
noncomputable def exSs (q : Bool) (F : Fn) : List PS → List V → H → RS
  | [], ρ, h => .ok .next ρ h
  | s :: ss, ρ, h => (exS q F s ρ h).then fun ρ h => exSs q F ss ρ h
end

noncomputable def RS.out (r : RS) : R V :=
  match r with
  | .ok (.ret v) _ h => .ok v h
  | .ok .next _ h => .ok .none h
  | .err c _ h => .err c h
  | .bad => .bad
@[simp] theorem RS.out_ret (v : V) (ρ : List V) (h : H) : (RS.ok (.ret v) ρ h).out = .ok v h := rfl
@[simp] theorem RS.out_next (ρ : List V) (h : H) : (RS.ok .next ρ h).out = .ok .none h := rfl
@[simp] theorem RS.out_err (c : String) (ρ : List V) (h : H) : (RS.err c ρ h).out = .err c h := rfl
@[simp] theorem RS.out_bad : (RS.bad).out = .bad := rfl

noncomputable def runD (q : Bool) (F : Fn) (d : FnDef) (vs : List V) (h : H) : R V :=
  if vs.length = d.arity then (exSs q F d.body (vs ++ List.replicate (d.slots - d.arity) .undef) h).out else .bad

/-- a def of the table, called; n: how deep calls may go -/
noncomputable def run (P : Tab) : Nat → Fn
  | 0 => fun _ _ _ _ => .bad
  | n + 1 => fun q f vs h => match P f with
    | some d => runD q (run P n) d vs h
    | Option.none => .bad

theorem run_succ {P : Tab} {f : String} {d : FnDef} (hf : P f = some d) (n : Nat) (q : Bool) (vs : List V) (h : H) :
    run P (n + 1) q f vs h = runD q (run P n) d vs h := by
  show (match P f with | some d => runD q (run P n) d vs h | Option.none => .bad) = _
  rw [hf]

end Mine

namespace Mine

theorem qE_1 (q : Bool) (F : Fn) (ρ : List V)  (h) : evE q F ρ .none h = .ok .none h := rfl
theorem qE_2 (q : Bool) (F : Fn) (ρ : List V) (b) (h) : evE q F ρ (.bool b) h = .ok (.bool b) h := rfl
theorem qE_3 (q : Bool) (F : Fn) (ρ : List V) (i) (h) : evE q F ρ (.int i) h = .ok (.int i) h := rfl
theorem qE_4 (q : Bool) (F : Fn) (ρ : List V) (s) (h) : evE q F ρ (.str s) h = .ok (.str s) h := rfl
theorem qE_5 (q : Bool) (F : Fn) (ρ : List V) (i) (h) : evE q F ρ (.var i) h = match ρ[i]? with
    | some .undef => .bad
    | some (.exc _) => .bad
    | some v => .ok v h
    | Option.none => .bad := rfl
theorem qE_6 (q : Bool) (F : Fn) (ρ : List V) (i) (u1) (h) : evE q F ρ (.glob u1 i) h = .ok (.int i) h := rfl
theorem qE_7 (q : Bool) (F : Fn) (ρ : List V) (op) (a) (b) (h) : evE q F ρ (.bin op a b) h = (evE q F ρ a h).bind fun x h => (evE q F ρ b h).bind fun y h => R.opt (pyBin op h x y) h := rfl
theorem qE_8 (q : Bool) (F : Fn) (ρ : List V) (i) (h) : evE q F ρ (.neg i) h = .ok (.int (-i)) h := rfl
theorem qE_9 (q : Bool) (F : Fn) (ρ : List V) (a) (h) : evE q F ρ (.not a) h = (evE q F ρ a h).bind fun x h => match truthy x with
    | some b => .ok (.bool (!b)) h
    | Option.none => .bad := rfl
theorem qE_10 (q : Bool) (F : Fn) (ρ : List V) (es) (h) : evE q F ρ (.and es) h = evAnd q F ρ es h := rfl
theorem qE_11 (q : Bool) (F : Fn) (ρ : List V) (es) (h) : evE q F ρ (.or es) h = evOr q F ρ es h := rfl
theorem qE_12 (q : Bool) (F : Fn) (ρ : List V) (t) (a) (b) (h) : evE q F ρ (.ite t a b) h = (evE q F ρ t h).bind fun x h => match truthy x with
    | some true => evE q F ρ a h
    | some false => evE q F ρ b h
    | Option.none => .bad := rfl
theorem qE_13 (q : Bool) (F : Fn) (ρ : List V) (op) (a) (b) (h) : evE q F ρ (.cmp op a b) h = (evE q F ρ a h).bind fun x h => (evE q F ρ b h).bind fun y h => R.opt ((pyCmp op h x y).map .bool) h := rfl
theorem qE_14 (q : Bool) (F : Fn) (ρ : List V) (op1) (op2) (a) (b) (c) (h) : evE q F ρ (.cmp2 op1 op2 a b c) h = (evE q F ρ a h).bind fun x h => (evE q F ρ b h).bind fun y h => match pyCmp op1 h x y with
    | some true => (evE q F ρ c h).bind fun z h => R.opt ((pyCmp op2 h y z).map .bool) h
    | some false => .ok (.bool false) h
    | Option.none => .bad := rfl
theorem qE_15 (q : Bool) (F : Fn) (ρ : List V) (es) (h) : evE q F ρ (.list es) h = (evEs q F ρ es h).bind fun vs h => R.opt (mkL vs) h := rfl
theorem qE_16 (q : Bool) (F : Fn) (ρ : List V) (es) (h) : evE q F ρ (.tup es) h = (evEs q F ρ es h).bind fun vs h => R.opt (mkT vs) h := rfl
theorem qE_17 (q : Bool) (F : Fn) (ρ : List V)  (h) : evE q F ρ .dict0 h = .ok .dct h := rfl
theorem qE_18 (q : Bool) (F : Fn) (ρ : List V) (a) (i) (h) : evE q F ρ (.idx a i) h = (evE q F ρ a h).bind fun x h => (evE q F ρ i h).bind fun y h => R.opt (pyIdx h x y) h := rfl
theorem qE_19 (q : Bool) (F : Fn) (ρ : List V) (a) (lo) (hi) (h) : evE q F ρ (.slice a lo hi) h = (evE q F ρ a h).bind fun x h => (evO q F ρ lo h).bind fun l h => (evO q F ρ hi h).bind fun u h => R.opt (pySlice h x l u) h := rfl
theorem qE_20 (q : Bool) (F : Fn) (ρ : List V) (u1) (u2) : evE q F ρ (.rev u1) u2 = .bad := rfl
theorem qE_21 (q : Bool) (F : Fn) (ρ : List V) (a) (ts) (h) : evE q F ρ (.isinst a ts) h = (evE q F ρ a h).bind fun x h => R.opt ((isTys h x ts).map .bool) h := rfl
theorem qE_22 (q : Bool) (F : Fn) (ρ : List V) (x) (t) (h) : evE q F ρ (.isexc x t) h = match ρ[x]? with
    | some (.exc c) => R.opt ((isExc c t).map .bool) h
    | _ => .bad := rfl
theorem qE_23 (q : Bool) (F : Fn) (ρ : List V) (f) (x) (h) : evE q F ρ (.callX f x) h = match ρ[x]? with
    | some (.exc c) => pcall h (F q f [.exc c] h)
    | _ => .bad := rfl
theorem qE_24 (q : Bool) (F : Fn) (ρ : List V) (f) (a) (h) : evE q F ρ (.bf f a) h = if (!q && f.walks) || !f.ready then .bad else (evE q F ρ a h).bind fun x h => R.opt (Mine.bf f h x) h := rfl
theorem qE_25 (q : Bool) (F : Fn) (ρ : List V) (a) (h) : evE q F ρ (.join0 a) h = if !q then .bad else (evE q F ρ a h).bind fun x h => R.opt ((litems h x).bind fun vs => (joinStrs vs).map .str) h := rfl
theorem qE_26 (q : Bool) (F : Fn) (ρ : List V) (elt) (x) (it) (cond) (h) : evE q F ρ (.comp elt x it cond) h = if !q then .bad else (evIt q F ρ it h).bind fun vs h =>
      match compL vs.2 (fun v h => evE q F (ρ.set x v) elt h) (fun v h => evC q F (ρ.set x v) cond h) vs.1 h with
      | .ok r h => R.opt (mkL r) h
      | _ => .bad := rfl
theorem qE_27 (q : Bool) (F : Fn) (ρ : List V) (k) (f) (args) (h) : evE q F ρ (.call k f args) h = (evEs q F ρ args h).bind fun vs h => if k then F q f vs h else pcall h (F q f vs h) := rfl
theorem qE_28 (q : Bool) (F : Fn) (ρ : List V) (a) (h) : evE q F ρ (.own a) h = (evE q F ρ a h).bind fun x h => match x with
    | .lst vs => .ok (.ref h.length) (h ++ [.list vs])
    | _ => .bad := rfl
theorem qE_29 (q : Bool) (F : Fn) (ρ : List V) (es) (h) : evE q F ρ (.newDict es) h = (evPs q F ρ es h).bind fun ps h => .ok (.ref h.length) (h ++ [.dict ps]) := rfl
theorem qE_30 (q : Bool) (F : Fn) (ρ : List V) (o) (a) (h) : evE q F ρ (.append o a) h = (evE q F ρ o h).bind fun x h => if lcell h x then (evE q F ρ a h).bind fun y h => onList h x fun vs => some (.none, vs ++ [y]) else .bad := rfl
theorem qE_31 (q : Bool) (F : Fn) (ρ : List V) (o) (a) (h) : evE q F ρ (.extend o a) h = (evE q F ρ o h).bind fun x h => if lcell h x then (evE q F ρ a h).bind fun y h => match y with
    | .lst ws => onList h x fun vs => some (.none, vs ++ ws)
    | _ => .bad
    else .bad := rfl
theorem qE_32 (q : Bool) (F : Fn) (ρ : List V) (o) (h) : evE q F ρ (.clear o) h = (evE q F ρ o h).bind fun x h => onList h x fun _ => some (.none, []) := rfl
theorem qE_33 (q : Bool) (F : Fn) (ρ : List V) (o) (a) (h) : evE q F ρ (.remove o a) h = (evE q F ρ o h).bind fun x h => if lcell h x then (evE q F ρ a h).bind fun y h => onList h x fun vs => (eraseEq h y vs).map fun r => (.none, r) else .bad := rfl
theorem qE_34 (q : Bool) (F : Fn) (ρ : List V) (o) (h) : evE q F ρ (.pop o) h = (evE q F ρ o h).bind fun x h => onList h x fun vs => (vs.getLast?).map fun v => (v, vs.dropLast) := rfl
theorem qE_35 (q : Bool) (F : Fn) (ρ : List V) (o) (i) (h) : evE q F ρ (.popAt o i) h = (evE q F ρ o h).bind fun x h => if lcell h x then (evE q F ρ i h).bind fun y h => match y with
    | .int k => onList h x fun vs => (place vs.length k).bind fun j => (vs[j]?).map fun v => (v, vs.eraseIdx j)
    | _ => .bad
    else .bad := rfl
theorem qE_36 (q : Bool) (F : Fn) (ρ : List V) (o) (k) (d) (h) : evE q F ρ (.get o k d) h = (evE q F ρ o h).bind fun x h => (evE q F ρ k h).bind fun y h => (evE q F ρ d h).bind fun z h =>
      onDict h x y fun _ es => .ok ((dfind y es).getD z) h := rfl
theorem qE_37 (q : Bool) (F : Fn) (ρ : List V) (o) (k) (d) (h) : evE q F ρ (.setdef o k d) h = (evE q F ρ o h).bind fun x h => (evE q F ρ k h).bind fun y h => (evE q F ρ d h).bind fun z h =>
      onDict h x y fun r es => match dfind y es with
        | some v => .ok v h
        | Option.none => .ok z (h.set r (.dict (es ++ [(y, z)]))) := rfl
theorem qE_38 (q : Bool) (F : Fn) (ρ : List V) (o) (k) (h) : evE q F ρ (.setdefL o k) h = (evE q F ρ o h).bind fun x h => (evE q F ρ k h).bind fun y h =>
      onDict h x y fun r es => match dfind y es with
        | some v => .ok v h
        | Option.none => .ok (.ref h.length) (h.set r (.dict (es ++ [(y, .ref h.length)])) ++ [.list []]) := rfl
theorem qEs_1 (q : Bool) (F : Fn) (ρ : List V)  (h) : evEs q F ρ [] h = .ok [] h := rfl
theorem qEs_2 (q : Bool) (F : Fn) (ρ : List V) (e) (es) (h) : evEs q F ρ (e :: es) h = (evE q F ρ e h).bind fun v h => (evEs q F ρ es h).bind fun vs h => .ok (v :: vs) h := rfl
theorem qO_1 (q : Bool) (F : Fn) (ρ : List V)  (h) : evO q F ρ Option.none h = .ok Option.none h := rfl
theorem qO_2 (q : Bool) (F : Fn) (ρ : List V) (e) (h) : evO q F ρ (some e) h = (evE q F ρ e h).bind fun v h => .ok (some v) h := rfl
theorem qC_1 (q : Bool) (F : Fn) (ρ : List V)  (h) : evC q F ρ Option.none h = .ok (.bool true) h := rfl
theorem qC_2 (q : Bool) (F : Fn) (ρ : List V) (e) (h) : evC q F ρ (some e) h = evE q F ρ e h := rfl
theorem qI_1 (q : Bool) (F : Fn) (ρ : List V) (e) (h) : evIt q F ρ (.seq e) h = (evE q F ρ e h).bind fun x h => R.opt (iterOf h x) h := rfl
theorem qI_2 (q : Bool) (F : Fn) (ρ : List V) (a) (h) : evIt q F ρ (.range1 a) h = (evE q F ρ a h).bind fun x h => match x with
    | .int n => if -1000000 ≤ n ∧ n ≤ 1000000 then .ok (upto n, Option.none) h else .bad
    | _ => .bad := rfl
theorem qI_3 (q : Bool) (F : Fn) (ρ : List V) (a) (b) (h) : evIt q F ρ (.range2 a b) h = (evE q F ρ a h).bind fun x h => (evE q F ρ b h).bind fun y h => match x, y with
    | .int m, .int n => if -1000000 ≤ m ∧ m ≤ 1000000 ∧ -1000000 ≤ n ∧ n ≤ 1000000 then .ok (fromTo m n, Option.none) h else .bad
    | _, _ => .bad := rfl
theorem qI_4 (q : Bool) (F : Fn) (ρ : List V) (a) (b) (c) (h) : evIt q F ρ (.range3 a b c) h = (evE q F ρ a h).bind fun x h => (evE q F ρ b h).bind fun y h => (evE q F ρ c h).bind fun z h => match x, y, z with
    | .int m, .int n, .int k => if -1000000 ≤ m ∧ m ≤ 1000000 ∧ -1000000 ≤ n ∧ n ≤ 1000000 then
        (if k = -1 then .ok (downTo m n, Option.none) h else if 0 < k ∧ k ≤ 1000000 then .ok (fromBy m n k, Option.none) h else .bad) else .bad
    | _, _, _ => .bad := rfl
theorem qI_5 (q : Bool) (F : Fn) (ρ : List V) (e) (h) : evIt q F ρ (.enum e) h = (evE q F ρ e h).bind fun x h => R.opt ((iterOf h x).map fun p => (enumFrom 0 p.1, p.2)) h := rfl
theorem qS_1 (q : Bool) (F : Fn) (e) (ρ) (h) : exS q F (.expr e) ρ h = (evE q F ρ e h).st ρ fun v h => match v with
    | .none => .ok .next ρ h
    | _ => .bad := rfl
theorem qS_2 (q : Bool) (F : Fn) (x) (e) (ρ) (h) : exS q F (.asg x e) ρ h = (evE q F ρ e h).st ρ fun v h => .ok .next (ρ.set x v) h := rfl
theorem qS_3 (q : Bool) (F : Fn) (xs) (e) (ρ) (h) : exS q F (.asgT xs e) ρ h = if !q then .bad else (evE q F ρ e h).st ρ fun v h => match v with
    | .tup vs => (match setAll ρ xs vs with
      | some ρ => .ok .next ρ h
      | Option.none => .bad)
    | _ => .bad := rfl
theorem qS_4 (q : Bool) (F : Fn) (o) (i) (e) (ρ) (h) : exS q F (.setIdx o i e) ρ h = (evE q F ρ e h).st ρ fun v h => (evE q F ρ o h).st ρ fun x h => (evE q F ρ i h).st ρ fun y h => match seti h x y v with
    | some h => .ok .next ρ h
    | Option.none => .bad := rfl
theorem qS_5 (q : Bool) (F : Fn) (o1) (i1) (o2) (i2) (e1) (e2) (ρ) (h) : exS q F (.setIdx2 o1 i1 o2 i2 e1 e2) ρ h = (evE q F ρ e1 h).st ρ fun v h => (evE q F ρ e2 h).st ρ fun w h =>
      (evE q F ρ o1 h).st ρ fun x h => (evE q F ρ i1 h).st ρ fun y h => match seti h x y v with
        | some h => (evE q F ρ o2 h).st ρ fun x h => (evE q F ρ i2 h).st ρ fun y h => (match seti h x y w with
          | some h => .ok .next ρ h
          | Option.none => .bad)
        | Option.none => .bad := rfl
theorem qS_6 (q : Bool) (F : Fn) (e) (ρ) (h) : exS q F (.ret e) ρ h = (evE q F ρ e h).st ρ fun v h => .ok (.ret v) ρ h := rfl
theorem qS_7 (q : Bool) (F : Fn) (t) (a) (b) (ρ) (h) : exS q F (.ifs t a b) ρ h = (evE q F ρ t h).st ρ fun x h => match truthy x with
    | some true => exSs q F a ρ h
    | some false => exSs q F b ρ h
    | Option.none => .bad := rfl
theorem qS_8 (q : Bool) (F : Fn) (x) (it) (body) (ρ) (h) : exS q F (.for1 x it body) ρ h = if !q then .bad else (evIt q F ρ it h).st ρ fun vs h => forL vs.2 (bind1 x) (fun ρ h => exSs q F body ρ h) vs.1 ρ h := rfl
theorem qS_9 (q : Bool) (F : Fn) (x) (y) (it) (body) (ρ) (h) : exS q F (.for2 x y it body) ρ h = if !q then .bad else (evIt q F ρ it h).st ρ fun vs h => forL vs.2 (bind2 x y) (fun ρ h => exSs q F body ρ h) vs.1 ρ h := rfl
theorem qS_10 (q : Bool) (F : Fn) (t) (body) (ρ) (h) : exS q F (.while t body) ρ h = if !q then .bad else whileL (fun ρ h => evE q F ρ t h) (fun ρ h => exSs q F body ρ h) turns ρ h := rfl
theorem qS_11 (q : Bool) (F : Fn) (c) (ρ) (h) : exS q F (.raise c) ρ h = if !q then .bad else .err c ρ h := rfl
theorem qS_12 (q : Bool) (F : Fn) (body) (c) (x) (handler) (ρ) (h) : exS q F (.try body c x handler) ρ h = if !q then .bad else match exSs q F body ρ h with
    | .err d ρ h => if excNames.contains d && c == "RingError" then (match exSs false F handler (ρ.set x (.exc d)) h with
        | .ok f ρ h => .ok f (ρ.set x .undef) h
        | .err _ _ _ => .bad
        | .bad => .bad) else .bad
    | r => r := rfl
theorem qS_13 (q : Bool) (F : Fn)  (ρ) (h) : exS q F .pass ρ h = .ok .next ρ h := rfl
theorem qS_14 (q : Bool) (F : Fn) (x) (ρ) (h) : exS q F (.frz x) ρ h = freeze x ρ h := rfl
theorem qSs_1 (q : Bool) (F : Fn)  (ρ) (h) : exSs q F [] ρ h = .ok .next ρ h := rfl
theorem qSs_2 (q : Bool) (F : Fn) (s) (ss) (ρ) (h) : exSs q F (s :: ss) ρ h = (exS q F s ρ h).then fun ρ h => exSs q F ss ρ h := rfl
theorem qA_1 (q : Bool) (F : Fn) (ρ : List V) (h : H) : evAnd q F ρ [] h = .bad := rfl
theorem qA_2 (q : Bool) (F : Fn) (ρ : List V) (e : PE) (h : H) : evAnd q F ρ [e] h = evE q F ρ e h := rfl
theorem qA_3 (q : Bool) (F : Fn) (ρ : List V) (e d : PE) (es : List PE) (h : H) : evAnd q F ρ (e :: d :: es) h = (evE q F ρ e h).bind fun x h => match truthy x with
    | some true => evAnd q F ρ (d :: es) h
    | some false => .ok x h
    | Option.none => .bad := rfl
theorem qR_1 (q : Bool) (F : Fn) (ρ : List V) (h : H) : evOr q F ρ [] h = .bad := rfl
theorem qR_2 (q : Bool) (F : Fn) (ρ : List V) (e : PE) (h : H) : evOr q F ρ [e] h = evE q F ρ e h := rfl
theorem qR_3 (q : Bool) (F : Fn) (ρ : List V) (e d : PE) (es : List PE) (h : H) : evOr q F ρ (e :: d :: es) h = (evE q F ρ e h).bind fun x h => match truthy x with
    | some true => .ok x h
    | some false => evOr q F ρ (d :: es) h
    | Option.none => .bad := rfl
end Mine

namespace Mine
open PySem

/-- what the look at a text knows: the slots of the names, the kinds of the names, the exceptions' names -/
structure Ck where
  ctx : List (Str × Nat)
  names : List (Str × NameKind)
  fns : List String
  nums : List (String × Int)

noncomputable def visible (k : Option NameKind) : Bool := k == some .local || k == some .cell || k == some .free
noncomputable def Ck.var (c : Ck) (x : Str) (i : Nat) : Bool := c.ctx.lookup x == some i && visible (c.names.lookup x) && !(x == ("__debug__" : Str)) && !(x == ("__classdict__" : Str))
noncomputable def Ck.glob (c : Ck) (x : Str) : Bool := c.names.lookup x == some .globalImplicit && !(x == ("__debug__" : Str))

noncomputable def bopM : Bop → Operator
  | .add => .Add | .sub => .Sub | .mul => .Mult | .fdiv => .FloorDiv | .mod => .Mod | .pow => .Pow
noncomputable def copM : Cop → CmpOp
  | .eq => .Eq | .ne => .NotEq | .lt => .Lt | .le => .LtE | .gt => .Gt | .ge => .GtE | .is => .Is | .isNot => .IsNot | .isin => .In | .notIn => .NotIn

noncomputable def bopIs (op : Bop) (o : Operator) : Bool := decide (bopM op = o)
noncomputable def copIs (op : Cop) (o : CmpOp) : Bool := decide (copM op = o)

noncomputable def tyName : Ty → Str
  | .int => "int" | .bool => "bool" | .list => "list" | .tuple => "tuple" | .valueError => "ValueError"
  | .own c => Str.ofString c

noncomputable def isStar (e : Expr) : Bool := @Expr.casesOn (fun _ => Bool) e (fun _ _ _ => false) (fun _ _ _ => false) (fun _ _ _ _ => false) (fun _ _ _ => false) (fun _ _ _ _ => false) (fun _ _ _ _ => false) (fun _ _ _ => false) (fun _ _ _ => false) (fun _ _ _ _ => false) (fun _ _ _ _ => false) (fun _ _ _ _ _ => false) (fun _ _ _ _ => false) (fun _ _ => false) (fun _ _ => false) (fun _ _ => false) (fun _ _ _ _ => false) (fun _ _ _ _ => false) (fun _ _ _ _ => false) (fun _ _ => false) (fun _ _ _ => false) (fun _ _ _ => false) (fun _ _ _ => false) (fun _ _ => true) (fun _ _ => false) (fun _ _ => false) (fun _ _ _ => false) (fun _ _ _ _ => false)
/-- forms that make a new list -/
noncomputable def freshE (e : PE) : Bool := @PE.casesOn (fun _ => Bool) e false (fun _ => false) (fun _ => false) (fun _ => false) (fun _ => false) (fun _ _ => false) (fun _ _ _ => false) (fun _ => false) (fun _ => false) (fun _ => false) (fun _ => false) (fun _ _ _ => false) (fun _ _ _ => false) (fun _ _ _ _ _ => false) (fun _ => true) (fun _ => false) false (fun _ _ => false) (fun _ _ _ => false) (fun _ => false) (fun _ _ => false) (fun _ _ => false) (fun _ _ => false) (fun f _ => (decide (f = .list) || decide (f = .listRev))) (fun _ => false) (fun _ _ _ _ => true) (fun _ _ _ => false) (fun _ => false) (fun _ => false) (fun _ _ => false) (fun _ _ => false) (fun _ => false) (fun _ _ => false) (fun _ => false) (fun _ _ => false) (fun _ _ _ => false) (fun _ _ _ => false) (fun _ _ => false)
noncomputable def okBase (e : Expr) : Bool := @Expr.casesOn (fun _ => Bool) e (fun _ _ _ => true) (fun _ _ _ => true) (fun _ _ _ _ => true) (fun _ _ _ => true) (fun _ _ _ _ => true) (fun _ _ _ _ => true) (fun _ _ _ => true) (fun _ _ _ => true) (fun _ _ _ _ => true) (fun _ _ _ _ => true) (fun _ _ _ _ _ => true) (fun _ _ _ _ => true) (fun _ _ => true) (fun _ _ => true) (fun _ _ => true) (fun _ _ _ _ => true) (fun _ _ _ _ => false) (fun _ _ _ _ => true) (fun _ _ => true) (fun _ _ _ => true) (fun _ _ _ => true) (fun _ _ _ => true) (fun _ _ => true) (fun _ _ => true) (fun _ _ => true) (fun _ _ _ => true) (fun _ _ _ _ => true)
noncomputable def isSet (e : Expr) : Bool := @Expr.casesOn (fun _ => Bool) e (fun _ _ _ => false) (fun _ _ _ => false) (fun _ _ _ _ => false) (fun _ _ _ => false) (fun _ _ _ _ => false) (fun _ _ _ _ => false) (fun _ _ _ => false) (fun _ _ _ => true) (fun _ _ _ _ => false) (fun _ _ _ _ => false) (fun _ _ _ _ _ => false) (fun _ _ _ _ => false) (fun _ _ => false) (fun _ _ => false) (fun _ _ => false) (fun _ _ _ _ => false) (fun _ _ _ _ => false) (fun _ _ _ _ => false) (fun _ _ => false) (fun _ _ _ => false) (fun _ _ _ => false) (fun _ _ _ => false) (fun _ _ => false) (fun _ _ => false) (fun _ _ => false) (fun _ _ _ => false) (fun _ _ _ _ => false)

noncomputable def tyPl : Ty → Bool
  | .own _ | .valueError => false
  | _ => true

-- looks at a form, one by one
theorem no {α : Type} {P : Prop} {x : α} (h : (none : Option α) = some x) : P := nomatch h
theorem noB {P : Prop} (h : false = true) : P := nomatch h
noncomputable def xConst (e : Expr) : Option (Const) := @Expr.casesOn (fun _ => Option (Const)) e (fun _ _ _ => none) (fun _ _ _ => none) (fun _ _ _ _ => none) (fun _ _ _ => none) (fun _ _ _ _ => none) (fun _ _ _ _ => none) (fun _ _ _ => none) (fun _ _ _ => none) (fun _ _ _ _ => none) (fun _ _ _ _ => none) (fun _ _ _ _ _ => none) (fun _ _ _ _ => none) (fun _ _ => none) (fun _ _ => none) (fun _ _ => none) (fun _ _ _ _ => none) (fun _ _ _ _ => none) (fun _ _ _ _ => none) (fun _ _ => none) (fun k _ _ => some k) (fun _ _ _ => none) (fun _ _ _ => none) (fun _ _ => none) (fun _ _ => none) (fun _ _ => none) (fun _ _ _ => none) (fun _ _ _ _ => none)
theorem xConst_inv {e : Expr} {t : Const} (h : xConst e = some t) : ∃ n p, e = .Constant t n p := by
  cases e <;> first | exact no h | (cases h; exact ⟨_, _, rfl⟩)
noncomputable def xName (e : Expr) : Option (Str) := @Expr.casesOn (fun _ => Option (Str)) e (fun _ _ _ => none) (fun _ _ _ => none) (fun _ _ _ _ => none) (fun _ _ _ => none) (fun _ _ _ _ => none) (fun _ _ _ _ => none) (fun _ _ _ => none) (fun _ _ _ => none) (fun _ _ _ _ => none) (fun _ _ _ _ => none) (fun _ _ _ _ _ => none) (fun _ _ _ _ => none) (fun _ _ => none) (fun _ _ => none) (fun _ _ => none) (fun _ _ _ _ => none) (fun _ _ _ _ => none) (fun _ _ _ _ => none) (fun _ _ => none) (fun _ _ _ => none) (fun _ _ _ => none) (fun _ _ _ => none) (fun _ _ => none) (fun x _ => some x) (fun _ _ => none) (fun _ _ _ => none) (fun _ _ _ _ => none)
theorem xName_inv {e : Expr} {t : Str} (h : xName e = some t) : ∃ p, e = .Name t p := by
  cases e <;> first | exact no h | (cases h; exact ⟨_, rfl⟩)
noncomputable def xBin (e : Expr) : Option (Expr × Operator × Expr) := @Expr.casesOn (fun _ => Option (Expr × Operator × Expr)) e (fun _ _ _ => none) (fun _ _ _ => none) (fun l o r _ => some (l, o, r)) (fun _ _ _ => none) (fun _ _ _ _ => none) (fun _ _ _ _ => none) (fun _ _ _ => none) (fun _ _ _ => none) (fun _ _ _ _ => none) (fun _ _ _ _ => none) (fun _ _ _ _ _ => none) (fun _ _ _ _ => none) (fun _ _ => none) (fun _ _ => none) (fun _ _ => none) (fun _ _ _ _ => none) (fun _ _ _ _ => none) (fun _ _ _ _ => none) (fun _ _ => none) (fun _ _ _ => none) (fun _ _ _ => none) (fun _ _ _ => none) (fun _ _ => none) (fun _ _ => none) (fun _ _ => none) (fun _ _ _ => none) (fun _ _ _ _ => none)
theorem xBin_inv {e : Expr} {t : Expr × Operator × Expr} (h : xBin e = some t) : ∃ p, e = .BinOp t.1 t.2.1 t.2.2 p := by
  cases e <;> first | exact no h | (cases h; exact ⟨_, rfl⟩)
noncomputable def xUn (e : Expr) : Option (UnaryOp × Expr) := @Expr.casesOn (fun _ => Option (UnaryOp × Expr)) e (fun _ _ _ => none) (fun _ _ _ => none) (fun _ _ _ _ => none) (fun o x _ => some (o, x)) (fun _ _ _ _ => none) (fun _ _ _ _ => none) (fun _ _ _ => none) (fun _ _ _ => none) (fun _ _ _ _ => none) (fun _ _ _ _ => none) (fun _ _ _ _ _ => none) (fun _ _ _ _ => none) (fun _ _ => none) (fun _ _ => none) (fun _ _ => none) (fun _ _ _ _ => none) (fun _ _ _ _ => none) (fun _ _ _ _ => none) (fun _ _ => none) (fun _ _ _ => none) (fun _ _ _ => none) (fun _ _ _ => none) (fun _ _ => none) (fun _ _ => none) (fun _ _ => none) (fun _ _ _ => none) (fun _ _ _ _ => none)
theorem xUn_inv {e : Expr} {t : UnaryOp × Expr} (h : xUn e = some t) : ∃ p, e = .UnaryOp t.1 t.2 p := by
  cases e <;> first | exact no h | (cases h; exact ⟨_, rfl⟩)
noncomputable def xBool (e : Expr) : Option (BoolOp × List Expr) := @Expr.casesOn (fun _ => Option (BoolOp × List Expr)) e (fun o x _ => some (o, x)) (fun _ _ _ => none) (fun _ _ _ _ => none) (fun _ _ _ => none) (fun _ _ _ _ => none) (fun _ _ _ _ => none) (fun _ _ _ => none) (fun _ _ _ => none) (fun _ _ _ _ => none) (fun _ _ _ _ => none) (fun _ _ _ _ _ => none) (fun _ _ _ _ => none) (fun _ _ => none) (fun _ _ => none) (fun _ _ => none) (fun _ _ _ _ => none) (fun _ _ _ _ => none) (fun _ _ _ _ => none) (fun _ _ => none) (fun _ _ _ => none) (fun _ _ _ => none) (fun _ _ _ => none) (fun _ _ => none) (fun _ _ => none) (fun _ _ => none) (fun _ _ _ => none) (fun _ _ _ _ => none)
theorem xBool_inv {e : Expr} {t : BoolOp × List Expr} (h : xBool e = some t) : ∃ p, e = .BoolOp t.1 t.2 p := by
  cases e <;> first | exact no h | (cases h; exact ⟨_, rfl⟩)
noncomputable def xCmp (e : Expr) : Option (Expr × List CmpOp × List Expr) := @Expr.casesOn (fun _ => Option (Expr × List CmpOp × List Expr)) e (fun _ _ _ => none) (fun _ _ _ => none) (fun _ _ _ _ => none) (fun _ _ _ => none) (fun _ _ _ _ => none) (fun _ _ _ _ => none) (fun _ _ _ => none) (fun _ _ _ => none) (fun _ _ _ _ => none) (fun _ _ _ _ => none) (fun _ _ _ _ _ => none) (fun _ _ _ _ => none) (fun _ _ => none) (fun _ _ => none) (fun _ _ => none) (fun a b c _ => some (a, b, c)) (fun _ _ _ _ => none) (fun _ _ _ _ => none) (fun _ _ => none) (fun _ _ _ => none) (fun _ _ _ => none) (fun _ _ _ => none) (fun _ _ => none) (fun _ _ => none) (fun _ _ => none) (fun _ _ _ => none) (fun _ _ _ _ => none)
theorem xCmp_inv {e : Expr} {t : Expr × List CmpOp × List Expr} (h : xCmp e = some t) : ∃ p, e = .Compare t.1 t.2.1 t.2.2 p := by
  cases e <;> first | exact no h | (cases h; exact ⟨_, rfl⟩)
noncomputable def xList (e : Expr) : Option (List Expr) := @Expr.casesOn (fun _ => Option (List Expr)) e (fun _ _ _ => none) (fun _ _ _ => none) (fun _ _ _ _ => none) (fun _ _ _ => none) (fun _ _ _ _ => none) (fun _ _ _ _ => none) (fun _ _ _ => none) (fun _ _ _ => none) (fun _ _ _ _ => none) (fun _ _ _ _ => none) (fun _ _ _ _ _ => none) (fun _ _ _ _ => none) (fun _ _ => none) (fun _ _ => none) (fun _ _ => none) (fun _ _ _ _ => none) (fun _ _ _ _ => none) (fun _ _ _ _ => none) (fun _ _ => none) (fun _ _ _ => none) (fun _ _ _ => none) (fun _ _ _ => none) (fun _ _ => none) (fun _ _ => none) (fun a _ => some a) (fun _ _ _ => none) (fun _ _ _ _ => none)
theorem xList_inv {e : Expr} {t : List Expr} (h : xList e = some t) : ∃ p, e = .List t p := by
  cases e <;> first | exact no h | (cases h; exact ⟨_, rfl⟩)
noncomputable def xTup (e : Expr) : Option (List Expr) := @Expr.casesOn (fun _ => Option (List Expr)) e (fun _ _ _ => none) (fun _ _ _ => none) (fun _ _ _ _ => none) (fun _ _ _ => none) (fun _ _ _ _ => none) (fun _ _ _ _ => none) (fun _ _ _ => none) (fun _ _ _ => none) (fun _ _ _ _ => none) (fun _ _ _ _ => none) (fun _ _ _ _ _ => none) (fun _ _ _ _ => none) (fun _ _ => none) (fun _ _ => none) (fun _ _ => none) (fun _ _ _ _ => none) (fun _ _ _ _ => none) (fun _ _ _ _ => none) (fun _ _ => none) (fun _ _ _ => none) (fun _ _ _ => none) (fun _ _ _ => none) (fun _ _ => none) (fun _ _ => none) (fun _ _ => none) (fun a _ _ => some a) (fun _ _ _ _ => none)
theorem xTup_inv {e : Expr} {t : List Expr} (h : xTup e = some t) : ∃ k p, e = .Tuple t k p := by
  cases e <;> first | exact no h | (cases h; exact ⟨_, _, rfl⟩)
noncomputable def xDict (e : Expr) : Option (List (Option Expr) × List Expr) := @Expr.casesOn (fun _ => Option (List (Option Expr) × List Expr)) e (fun _ _ _ => none) (fun _ _ _ => none) (fun _ _ _ _ => none) (fun _ _ _ => none) (fun _ _ _ _ => none) (fun _ _ _ _ => none) (fun a b _ => some (a, b)) (fun _ _ _ => none) (fun _ _ _ _ => none) (fun _ _ _ _ => none) (fun _ _ _ _ _ => none) (fun _ _ _ _ => none) (fun _ _ => none) (fun _ _ => none) (fun _ _ => none) (fun _ _ _ _ => none) (fun _ _ _ _ => none) (fun _ _ _ _ => none) (fun _ _ => none) (fun _ _ _ => none) (fun _ _ _ => none) (fun _ _ _ => none) (fun _ _ => none) (fun _ _ => none) (fun _ _ => none) (fun _ _ _ => none) (fun _ _ _ _ => none)
theorem xDict_inv {e : Expr} {t : List (Option Expr) × List Expr} (h : xDict e = some t) : ∃ p, e = .Dict t.1 t.2 p := by
  cases e <;> first | exact no h | (cases h; exact ⟨_, rfl⟩)
noncomputable def xSub (e : Expr) : Option (Expr × Expr) := @Expr.casesOn (fun _ => Option (Expr × Expr)) e (fun _ _ _ => none) (fun _ _ _ => none) (fun _ _ _ _ => none) (fun _ _ _ => none) (fun _ _ _ _ => none) (fun _ _ _ _ => none) (fun _ _ _ => none) (fun _ _ _ => none) (fun _ _ _ _ => none) (fun _ _ _ _ => none) (fun _ _ _ _ _ => none) (fun _ _ _ _ => none) (fun _ _ => none) (fun _ _ => none) (fun _ _ => none) (fun _ _ _ _ => none) (fun _ _ _ _ => none) (fun _ _ _ _ => none) (fun _ _ => none) (fun _ _ _ => none) (fun _ _ _ => none) (fun a b _ => some (a, b)) (fun _ _ => none) (fun _ _ => none) (fun _ _ => none) (fun _ _ _ => none) (fun _ _ _ _ => none)
theorem xSub_inv {e : Expr} {t : Expr × Expr} (h : xSub e = some t) : ∃ p, e = .Subscript t.1 t.2 p := by
  cases e <;> first | exact no h | (cases h; exact ⟨_, rfl⟩)
noncomputable def xSlice (e : Expr) : Option (Option Expr × Option Expr × Option Expr) := @Expr.casesOn (fun _ => Option (Option Expr × Option Expr × Option Expr)) e (fun _ _ _ => none) (fun _ _ _ => none) (fun _ _ _ _ => none) (fun _ _ _ => none) (fun _ _ _ _ => none) (fun _ _ _ _ => none) (fun _ _ _ => none) (fun _ _ _ => none) (fun _ _ _ _ => none) (fun _ _ _ _ => none) (fun _ _ _ _ _ => none) (fun _ _ _ _ => none) (fun _ _ => none) (fun _ _ => none) (fun _ _ => none) (fun _ _ _ _ => none) (fun _ _ _ _ => none) (fun _ _ _ _ => none) (fun _ _ => none) (fun _ _ _ => none) (fun _ _ _ => none) (fun _ _ _ => none) (fun _ _ => none) (fun _ _ => none) (fun _ _ => none) (fun _ _ _ => none) (fun a b c _ => some (a, b, c))
theorem xSlice_inv {e : Expr} {t : Option Expr × Option Expr × Option Expr} (h : xSlice e = some t) : ∃ p, e = .Slice t.1 t.2.1 t.2.2 p := by
  cases e <;> first | exact no h | (cases h; exact ⟨_, rfl⟩)
noncomputable def xCall (e : Expr) : Option (Expr × List Expr × List Keyword × Pos) := @Expr.casesOn (fun _ => Option (Expr × List Expr × List Keyword × Pos)) e (fun _ _ _ => none) (fun _ _ _ => none) (fun _ _ _ _ => none) (fun _ _ _ => none) (fun _ _ _ _ => none) (fun _ _ _ _ => none) (fun _ _ _ => none) (fun _ _ _ => none) (fun _ _ _ _ => none) (fun _ _ _ _ => none) (fun _ _ _ _ _ => none) (fun _ _ _ _ => none) (fun _ _ => none) (fun _ _ => none) (fun _ _ => none) (fun _ _ _ _ => none) (fun a b c d => some (a, b, c, d)) (fun _ _ _ _ => none) (fun _ _ => none) (fun _ _ _ => none) (fun _ _ _ => none) (fun _ _ _ => none) (fun _ _ => none) (fun _ _ => none) (fun _ _ => none) (fun _ _ _ => none) (fun _ _ _ _ => none)
theorem xCall_inv {e : Expr} {t : Expr × List Expr × List Keyword × Pos} (h : xCall e = some t) : e = .Call t.1 t.2.1 t.2.2.1 t.2.2.2 := by
  cases e <;> first | exact no h | (cases h; exact rfl)
noncomputable def xAttr (e : Expr) : Option (Expr × Str × Pos) := @Expr.casesOn (fun _ => Option (Expr × Str × Pos)) e (fun _ _ _ => none) (fun _ _ _ => none) (fun _ _ _ _ => none) (fun _ _ _ => none) (fun _ _ _ _ => none) (fun _ _ _ _ => none) (fun _ _ _ => none) (fun _ _ _ => none) (fun _ _ _ _ => none) (fun _ _ _ _ => none) (fun _ _ _ _ _ => none) (fun _ _ _ _ => none) (fun _ _ => none) (fun _ _ => none) (fun _ _ => none) (fun _ _ _ _ => none) (fun _ _ _ _ => none) (fun _ _ _ _ => none) (fun _ _ => none) (fun _ _ _ => none) (fun a b c => some (a, b, c)) (fun _ _ _ => none) (fun _ _ => none) (fun _ _ => none) (fun _ _ => none) (fun _ _ _ => none) (fun _ _ _ _ => none)
theorem xAttr_inv {e : Expr} {t : Expr × Str × Pos} (h : xAttr e = some t) : e = .Attribute t.1 t.2.1 t.2.2 := by
  cases e <;> first | exact no h | (cases h; exact rfl)
noncomputable def xLC (e : Expr) : Option (Expr × List Comprehension × Scope) := @Expr.casesOn (fun _ => Option (Expr × List Comprehension × Scope)) e (fun _ _ _ => none) (fun _ _ _ => none) (fun _ _ _ _ => none) (fun _ _ _ => none) (fun _ _ _ _ => none) (fun _ _ _ _ => none) (fun _ _ _ => none) (fun _ _ _ => none) (fun a b c _ => some (a, b, c)) (fun _ _ _ _ => none) (fun _ _ _ _ _ => none) (fun _ _ _ _ => none) (fun _ _ => none) (fun _ _ => none) (fun _ _ => none) (fun _ _ _ _ => none) (fun _ _ _ _ => none) (fun _ _ _ _ => none) (fun _ _ => none) (fun _ _ _ => none) (fun _ _ _ => none) (fun _ _ _ => none) (fun _ _ => none) (fun _ _ => none) (fun _ _ => none) (fun _ _ _ => none) (fun _ _ _ _ => none)
theorem xLC_inv {e : Expr} {t : Expr × List Comprehension × Scope} (h : xLC e = some t) : ∃ p, e = .ListComp t.1 t.2.1 t.2.2 p := by
  cases e <;> first | exact no h | (cases h; exact ⟨_, rfl⟩)
noncomputable def one {α : Type} : List α → Option α
  | [x] => some x
  | _ => none
theorem one_inv {α : Type} {l : List α} {x : α} (h : one l = some x) : l = [x] := by
  cases l with
  | nil => cases h
  | cons a l => cases l with
    | nil => cases h; rfl
    | cons b l => cases h
noncomputable def two {α : Type} : List α → Option (α × α)
  | [x, y] => some (x, y)
  | _ => none
theorem two_inv {α : Type} {l : List α} {t : α × α} (h : two l = some t) : l = [t.1, t.2] := by
  cases l with
  | nil => cases h
  | cons a l => cases l with
    | nil => cases h
    | cons b l => cases l with
      | nil => cases h; rfl
      | cons c l => cases h
theorem any_inv {α : Type} {o : Option α} {p : α → Bool} (h : o.any p = true) : ∃ a, o = some a ∧ p a = true := by
  cases o with
  | none => cases h
  | some a => exact ⟨a, rfl, h⟩
/-- a call of a name, without keywords -/
noncomputable def xNamed (e : Expr) : Option (Str × List Expr) := (xCall e).bind fun t => if t.2.2.1.isEmpty then (xName t.1).map fun f => (f, t.2.1) else none
theorem xNamed_inv {e : Expr} {t : Str × List Expr} (h : xNamed e = some t) : ∃ p p', e = .Call (.Name t.1 p) t.2 [] p' := by
  unfold xNamed at h
  cases h1 : xCall e with
  | none => rw [h1] at h; cases h
  | some u =>
    rw [h1] at h
    simp only [Option.bind_some] at h
    split at h
    · rename_i hk
      cases h2 : xName u.1 with
      | none => rw [h2] at h; cases h
      | some f =>
        rw [h2] at h; cases h
        obtain ⟨p, hp⟩ := xName_inv h2
        refine ⟨p, u.2.2.2, ?_⟩
        rw [xCall_inv h1, hp, List.isEmpty_iff.mp hk]
    · cases h
/-- a call of a method, without keywords -/
noncomputable def xMeth (e : Expr) : Option (Expr × Str × List Expr × Pos × Pos) := (xCall e).bind fun t => if t.2.2.1.isEmpty then (xAttr t.1).map fun u => (u.1, u.2.1, t.2.1, u.2.2, t.2.2.2) else none
theorem xMeth_inv {e : Expr} {t : Expr × Str × List Expr × Pos × Pos} (h : xMeth e = some t) : e = .Call (.Attribute t.1 t.2.1 t.2.2.2.1) t.2.2.1 [] t.2.2.2.2 := by
  unfold xMeth at h
  cases h1 : xCall e with
  | none => rw [h1] at h; cases h
  | some u =>
    rw [h1] at h
    simp only [Option.bind_some] at h
    split at h
    · rename_i hk
      cases h2 : xAttr u.1 with
      | none => rw [h2] at h; cases h
      | some f =>
        rw [h2] at h; cases h
        rw [xCall_inv h1, xAttr_inv h2, List.isEmpty_iff.mp hk]
    · cases h
/-- a comprehension's one loop -/
noncomputable def xGen (gs : List Comprehension) : Option (Str × Expr × List Expr) := (one gs).bind fun g => if g.is_async = 0 then (xName g.target).map fun x => (x, g.iter, g.ifs) else none
theorem xGen_inv {gs : List Comprehension} {t : Str × Expr × List Expr} (h : xGen gs = some t) : ∃ p, gs = [⟨.Name t.1 p, t.2.1, t.2.2, 0⟩] := by
  unfold xGen at h
  cases h1 : one gs with
  | none => rw [h1] at h; cases h
  | some g =>
    rw [h1] at h
    simp only [Option.bind_some] at h
    split at h
    · rename_i hk
      cases h2 : xName g.target with
      | none => rw [h2] at h; cases h
      | some f =>
        rw [h2] at h; cases h
        obtain ⟨p, hp⟩ := xName_inv h2
        refine ⟨p, ?_⟩
        rw [one_inv h1]
        obtain ⟨a, b, c, d⟩ := g
        simp only at hp hk ⊢
        rw [hp, hk]
    · cases h

noncomputable def ckTy (c : Ck) (t : Ty) (e : Expr) : Bool := (xName e).any fun x => x == tyName t && c.glob x
theorem ckTy_inv {c : Ck} {t : Ty} {e : Expr} (h : ckTy c t e = true) : ∃ p, e = .Name (tyName t) p ∧ c.glob (tyName t) = true := by
  obtain ⟨x, h1, h2⟩ := any_inv h
  obtain ⟨p, rfl⟩ := xName_inv h1
  rw [Bool.and_eq_true, beq_iff_eq] at h2
  exact ⟨p, by rw [h2.1], by rw [← h2.1]; exact h2.2⟩
noncomputable def ckTys (c : Ck) : List Ty → List Expr → Bool
  | [], [] => true
  | t :: ts, e :: es => ckTy c t e && ckTys c ts es
  | _, _ => false

/-- a comprehension's own names, as its block sees them -/
noncomputable def relab (outer : List (Str × NameKind)) (names : List (Str × NameKind)) : List (Str × NameKind) :=
  names.map fun (n, k) => if (k == .free && outer.lookup n == some .cell) then (n, .cell) else (n, k)

noncomputable def scopeOk (c : Ck) (x : Str) (scope : Scope) : Bool :=
  scope.kind == .function && scope.names.all (fun p => (p.2 != .local || ((p.1 == x || p.1 == (".0" : Str)) && scope.names.lookup p.1 == some .local)) && (p.2 != .free || c.names.lookup p.1 == some .cell || c.names.lookup p.1 == some .free) && p.2 != .cell) &&
  scope.names.lookup x == some .local && !(x == (".0" : Str)) && c.ctx.lookup (".0" : Str) == none

noncomputable def Ck.inner (c : Ck) (x : Str) (i : Nat) (scope : Scope) : Ck := ⟨(x, i) :: c.ctx, relab c.names scope.names, c.fns, c.nums⟩

noncomputable def bfName : Bf → Str
  | .len => "len" | .list => "list" | .tuple => "tuple" | .sorted => "sorted" | .min => "min" | .sum => "sum" | .any => "any" | .all => "all" | .int => "int" | .str => "str"
  | .listRev => "list" | .listRange => "list"

mutual
noncomputable def ckE (c : Ck) : PE → Expr → Bool
  | .none, ex => decide (xConst ex = some .none)
  | .bool b, ex => decide (xConst ex = some (.bool b))
  | .int i, ex => decide (xConst ex = some (.int i))
  | .str s, ex => decide (xConst ex = some (.str (Str.ofString s)))
  | .var i, ex => (xName ex).any fun x => c.var x i
  | .glob g i, ex => (xName ex).any fun x => x == Str.ofString g && c.glob x && c.nums.contains (g, i)
  | .bin op a b, ex => (xBin ex).any fun t => bopIs op t.2.1 && ckE c a t.1 && ckE c b t.2.2
  | .neg i, ex => (xUn ex).any fun t => t.1 == .USub && decide (xConst t.2 = some (.int i))
  | .not a, ex => (xUn ex).any fun t => t.1 == .Not && ckE c a t.2
  | .and es, ex => (xBool ex).any fun t => t.1 == .And && ckEs c es t.2
  | .or es, ex => (xBool ex).any fun t => t.1 == .Or && ckEs c es t.2
  | .ite .., _ => false
  | .cmp op a b, ex => (xCmp ex).any fun t => (one t.2.1).any fun o => (one t.2.2).any fun r => copIs op o && ckE c a t.1 && ckE c b r && !isSet r
  | .cmp2 o1 o2 a b d, ex => (xCmp ex).any fun t => (two t.2.1).any fun p => (two t.2.2).any fun r => copIs o1 p.1 && copIs o2 p.2 && ckE c a t.1 && ckE c b r.1 && ckE c d r.2 && !isSet r.2
  | .list es, ex => (xList ex).any fun xs => ckEs c es xs
  | .tup es, ex => (xTup ex).any fun xs => ckEs c es xs
  | .dict0, ex => (xDict ex).any fun t => t.1.isEmpty && t.2.isEmpty
  | .idx a i, ex => (xSub ex).any fun t => ckE c a t.1 && ckE c i t.2
  | .slice a lo hi, ex => (xSub ex).any fun t => (xSlice t.2).any fun u => u.2.2.isNone && ckE c a t.1 && ckO c lo u.1 && ckO c hi u.2.1
  | .rev .., _ => false
  | .isinst a ts, ex => (xNamed ex).any fun t => (two t.2).any fun u => t.1 == ("isinstance" : Str) && c.glob t.1 && ckE c a u.1 && ts.all tyPl &&
      (xTup u.2).elim (ckTys c ts [u.2]) fun es => ckTys c ts es && decide (ts ≠ []) && decide (ts.length ≤ 1000)
  | .isexc i t, ex => (xNamed ex).any fun u => (two u.2).any fun v => u.1 == ("isinstance" : Str) && c.glob u.1 && (xName v.1).any (fun x => c.var x i) && ckTy c t v.2
  | .callX f i, ex => (xNamed ex).any fun u => (one u.2).any fun v => u.1 == Str.ofString f && c.glob u.1 && c.fns.contains f && (xName v).any fun x => c.var x i
  | .bf f a, ex => (xNamed ex).any fun u => (one u.2).any fun x => u.1 == bfName f && c.glob u.1 && (match f with
        | .listRev => (xNamed x).any fun v => (one v.2).any fun y => v.1 == ("reversed" : Str) && c.glob v.1 && ckE c a y
        | .listRange => false
        | _ => ckE c a x)
  | .join0 .., _ => false
  | .comp elt i it cond, ex => (xLC ex).any fun t => (xGen t.2.1).any fun g => ckIt c it g.2.1 && !isSet g.2.1 && scopeOk c g.1 t.2.2 && c.ctx.all (fun p => p.2 != i) && ckE (c.inner g.1 i t.2.2) elt t.1 && ckC (c.inner g.1 i t.2.2) cond g.2.2
  | .call _ f args, ex => (xNamed ex).any fun t => t.1 == Str.ofString f && c.glob t.1 && c.fns.contains f && ckEs c args t.2 && !args.isEmpty
  | .own a, ex => freshE a && ckE c a ex
  | .newDict .., _ => false
  | .append o a, ex => (xMeth ex).any fun t => (one t.2.2.1).any fun x => okBase t.1 && t.2.2.2.1.endLine == t.2.2.2.2.line && t.2.1 == ("append" : Str) && ckE c o t.1 && ckE c a x && !isStar x
  | .extend .., _ => false
  | .clear o, ex => (xMeth ex).any fun t => okBase t.1 && t.2.2.2.1.endLine == t.2.2.2.2.line && t.2.1 == ("clear" : Str) && ckE c o t.1 && t.2.2.1.isEmpty
  | .remove .., _ => false
  | .pop .., _ => false
  | .popAt .., _ => false
  | .get .., _ => false
  | .setdef .., _ => false
  | .setdefL .., _ => false
noncomputable def ckEs (c : Ck) : List PE → List Expr → Bool
  | [], xs => xs.isEmpty
  | e :: es, xs => (match xs with | x :: xs => !isStar x && ckE c e x && ckEs c es xs | [] => false)
noncomputable def ckO (c : Ck) : Option PE → Option Expr → Bool
  | none, x => x.isNone
  | some e, x => (match x with | some x => ckE c e x | none => false)
noncomputable def ckC (c : Ck) : Option PE → List Expr → Bool
  | none, xs => xs.isEmpty
  | some e, xs => (one xs).any fun x => ckE c e x
noncomputable def ckIt (c : Ck) : PIt → Expr → Bool
  | .seq e, x => ckE c e x
  | .range1 a, x => (xNamed x).any fun t => (one t.2).any fun y => t.1 == ("range" : Str) && c.glob t.1 && ckE c a y
  | .range2 .., _ => false
  | .range3 .., _ => false
  | .enum .., _ => false
end

end Mine

namespace Mine
open PySem

/-- what the call stands on -/
structure Amb where
  prog : Program
  w : World
  B : Heap
  mg : Str → Option Value
  mb : Str → Option Value
  P : Tab
  K : List (Addr × Obj) := []
  /-- things that are in the making: no value bears them -/
  res : List Addr := []

abbrev Amb.M (am : Amb) : Model := model am.prog am.w

/-- an exception of the text's own class c stands at a; it has no context -/
noncomputable def ExcAt (am : Amb) (h : Heap) (c : String) (a : Addr) : Prop :=
  ∃ C o vs, am.mg (Str.ofString c) = some (.ref C) ∧ h.get? a = some o ∧ (o.cls = .ref C ∧ o.dict = none) ∧ o.data = .fields vs ∧ vs[2]? = some .none ∧ am.B.get? a = none

mutual
noncomputable def VR (am : Amb) (π : List Addr) (h : Heap) : V → Value → Prop
  | .undef, _ => False
  | .none, x => x = .none
  | .bool b, x => x = .bool b
  | .int i, x => ∃ t, x = .int i t
  | .str s, x => ∃ t, x = .str (Str.ofString s) t
  | .tup vs, x => ∃ a xs, x = .ref a ∧ (a ∉ π ∧ a ∉ am.res) ∧ h.IsTuple a (List.toArray xs) ∧ vs.length ≤ 1000000 ∧ VRs am π h vs xs
  | .lst vs, x => ∃ a xs, x = .ref a ∧ (a ∉ π ∧ a ∉ am.res) ∧ h.IsList a (List.toArray xs) ∧ vs.length ≤ 1000000 ∧ VRs am π h vs xs
  | .ref i, x => ∃ a, x = .ref a ∧ π[i]? = some a
  | .exc _, _ => False
  | .dct, x => ∃ a o es ep, x = .ref a ∧ (a ∉ π ∧ a ∉ am.res) ∧ h.get? a = some o ∧ o.cls = .type "dict" ∧ o.data = .dict es ep
noncomputable def VRs (am : Amb) (π : List Addr) (h : Heap) : List V → List Value → Prop
  | [], xs => xs = []
  | v :: vs, xs => ∃ x xs', xs = x :: xs' ∧ VR am π h v x ∧ VRs am π h vs xs'
end

theorem VRs.len {am : Amb} {π : List Addr} {h : Heap} : ∀ {vs : List V} {xs : List Value}, VRs am π h vs xs → xs.length = vs.length
  | [], xs, e => by simp only [VRs] at e; simp [e]
  | v :: vs, xs, e => by
    simp only [VRs] at e
    obtain ⟨x, xs', rfl, _, r⟩ := e
    simp [VRs.len r]

theorem VRs.get {am : Amb} {π : List Addr} {h : Heap} : ∀ {vs : List V} {xs : List Value}, VRs am π h vs xs → ∀ (i : Nat) (v : V), vs[i]? = some v → ∃ x, xs[i]? = some x ∧ VR am π h v x
  | [], _, _, i, v, hv => by simp at hv
  | v :: vs, xs, e, i, w, hw => by
    simp only [VRs] at e
    obtain ⟨x, xs', rfl, hx, r⟩ := e
    cases i with
    | zero => simp only [List.getElem?_cons_zero, Option.some.injEq] at hw ⊢; subst hw; exact ⟨x, rfl, hx⟩
    | succ i => simp only [List.getElem?_cons_succ] at hw ⊢; exact VRs.get r i w hw

theorem VRs.append {am : Amb} {π : List Addr} {h : Heap} : ∀ {vs ws : List V} {xs ys : List Value}, VRs am π h vs xs → VRs am π h ws ys → VRs am π h (vs ++ ws) (xs ++ ys)
  | [], ws, xs, ys, e, r => by simp only [VRs] at e; subst e; exact r
  | v :: vs, ws, xs, ys, e, r => by
    simp only [VRs] at e
    obtain ⟨x, xs', rfl, hx, e⟩ := e
    simp only [List.cons_append, VRs]
    exact ⟨x, xs' ++ ys, rfl, hx, VRs.append e r⟩

theorem VRs.single {am : Amb} {π : List Addr} {h : Heap} {v : V} {x : Value} (e : VR am π h v x) : VRs am π h [v] [x] := by
  simp only [VRs]; exact ⟨x, [], rfl, e, rfl⟩

theorem VRs.take {am : Amb} {π : List Addr} {h : Heap} : ∀ {vs : List V} {xs : List Value} (n : Nat), VRs am π h vs xs → VRs am π h (vs.take n) (xs.take n)
  | [], xs, n, e => by simp only [VRs] at e; subst e; simp [VRs]
  | v :: vs, xs, n, e => by
    simp only [VRs] at e
    obtain ⟨x, xs', rfl, hx, e⟩ := e
    cases n with
    | zero => simp [VRs]
    | succ n => simp only [List.take_succ_cons, VRs]; exact ⟨x, xs'.take n, rfl, hx, VRs.take n e⟩

theorem VRs.drop {am : Amb} {π : List Addr} {h : Heap} : ∀ {vs : List V} {xs : List Value} (n : Nat), VRs am π h vs xs → VRs am π h (vs.drop n) (xs.drop n)
  | [], xs, n, e => by simp only [VRs] at e; subst e; simp [VRs]
  | v :: vs, xs, n, e => by
    have e0 := e
    simp only [VRs] at e
    obtain ⟨x, xs', rfl, hx, e⟩ := e
    cases n with
    | zero => exact e0
    | succ n => simp only [List.drop_succ_cons]; exact VRs.drop n e

theorem VRs.reverse {am : Amb} {π : List Addr} {h : Heap} : ∀ {vs : List V} {xs : List Value}, VRs am π h vs xs → VRs am π h vs.reverse xs.reverse
  | [], xs, e => by simp only [VRs] at e; subst e; simp [VRs]
  | v :: vs, xs, e => by
    simp only [VRs] at e
    obtain ⟨x, xs', rfl, hx, e⟩ := e
    rw [List.reverse_cons, List.reverse_cons]
    exact VRs.append (VRs.reverse e) (VRs.single hx)

theorem VRs.flatten {am : Amb} {π : List Addr} {h : Heap} {vs : List V} {xs : List Value} (e : VRs am π h vs xs) : ∀ n : Nat, VRs am π h (List.replicate n vs).flatten (List.replicate n xs).flatten
  | 0 => by simp [VRs]
  | n + 1 => by rw [List.replicate_succ, List.replicate_succ, List.flatten_cons, List.flatten_cons]; exact VRs.append e (VRs.flatten e n)

theorem VRs.set {am : Amb} {π : List Addr} {h : Heap} : ∀ {vs : List V} {xs : List Value} (i : Nat) {v : V} {x : Value}, VRs am π h vs xs → VR am π h v x → VRs am π h (vs.set i v) (xs.set i x)
  | [], xs, i, v, x, e, _ => by simp only [VRs] at e; subst e; simp [VRs]
  | w :: vs, xs, i, v, x, e, hv => by
    simp only [VRs] at e
    obtain ⟨y, xs', rfl, hy, e⟩ := e
    cases i with
    | zero => simp only [List.set_cons_zero, VRs]; exact ⟨x, xs', rfl, hv, e⟩
    | succ i => simp only [List.set_cons_succ, VRs]; exact ⟨y, xs'.set i x, rfl, hy, VRs.set i e hv⟩

theorem VRs.eraseIdx {am : Amb} {π : List Addr} {h : Heap} : ∀ {vs : List V} {xs : List Value} (i : Nat), VRs am π h vs xs → VRs am π h (vs.eraseIdx i) (xs.eraseIdx i)
  | [], xs, i, e => by simp only [VRs] at e; subst e; simp [VRs]
  | w :: vs, xs, i, e => by
    simp only [VRs] at e
    obtain ⟨y, xs', rfl, hy, e⟩ := e
    cases i with
    | zero => simpa using e
    | succ i => simp only [List.eraseIdx_cons_succ, VRs]; exact ⟨y, xs'.eraseIdx i, rfl, hy, VRs.eraseIdx i e⟩

/-- nothing that stood is turned but the cells π and the slots of the frames Fs -/
structure Ext (π Fs : List Addr) (h h' : Heap) : Prop where
  keep : ∀ a o, h.get? a = some o → a ∉ π → a ∉ Fs → h'.get? a = some o
  slots : ∀ a o, h.get? a = some o → a ∉ π → ∃ sl, h'.get? a = some { o with slots := sl }
  alive : ∀ a o, h.get? a = some o → ∃ o', h'.get? a = some o'

theorem Ext.refl (π Fs : List Addr) (h : Heap) : Ext π Fs h h :=
  ⟨fun _ _ e _ _ => e, fun _ o e _ => ⟨o.slots, e⟩, fun _ o e => ⟨o, e⟩⟩

theorem Ext.of_keeps {π Fs : List Addr} {h h' : Heap} (k : ∀ b o, h.get? b = some o → h'.get? b = some o) : Ext π Fs h h' :=
  ⟨fun a o e _ _ => k a o e, fun a o e _ => ⟨o.slots, k a o e⟩, fun a o e => ⟨o, k a o e⟩⟩

theorem Ext.push (π Fs : List Addr) (h : Heap) (o : Obj) : Ext π Fs h (h.push o) :=
  Ext.of_keeps fun _ _ e => Heap.get?_push_of_some _ e

theorem Ext.list {π Fs : List Addr} {h h' : Heap} (x : Ext π Fs h h') {a : Addr} {xs : Array Value} (hl : h.IsList a xs) (ha : a ∉ π) : h'.IsList a xs := by
  obtain ⟨o, ho, hc, n, hd⟩ := hl
  obtain ⟨sl, hs⟩ := x.slots a o ho ha
  exact ⟨_, hs, hc, n, hd⟩
theorem Ext.tuple {π Fs : List Addr} {h h' : Heap} (x : Ext π Fs h h') {a : Addr} {xs : Array Value} (hl : h.IsTuple a xs) (ha : a ∉ π) : h'.IsTuple a xs := by
  obtain ⟨o, ho, hc, n, hd⟩ := hl
  obtain ⟨sl, hs⟩ := x.slots a o ho ha
  exact ⟨_, hs, hc, n, hd⟩

/-- from one state to a later one; cells may have come -/
structure Step (Fs : List Addr) (π : List Addr) (s : Shared) (π' : List Addr) (s' : Shared) : Prop where
  same : ∃ h' tk, s' = { s with heap := h', toks := tk }
  ext : Ext π Fs s.heap s'.heap
  grow : ∃ δ, π' = π ++ δ ∧ ∀ a ∈ δ, s.heap.get? a = none

theorem Step.refl (Fs π : List Addr) (s : Shared) : Step Fs π s π s := ⟨⟨s.heap, s.toks, rfl⟩, .refl .., [], by simp, by simp⟩

theorem Step.notin {Fs π π' : List Addr} {s s' : Shared} (x : Step Fs π s π' s') {a : Addr} {o : Obj} (ho : s.heap.get? a = some o) (ha : a ∉ π) : a ∉ π' := by
  obtain ⟨δ, rfl, hδ⟩ := x.grow
  intro hm
  rcases List.mem_append.mp hm with h1 | h1
  · exact ha h1
  · have := hδ a h1; rw [ho] at this; cases this

theorem Step.trans {Fs π₀ π₁ π₂ : List Addr} {s₀ s₁ s₂ : Shared} (x : Step Fs π₀ s₀ π₁ s₁) (y : Step Fs π₁ s₁ π₂ s₂) : Step Fs π₀ s₀ π₂ s₂ := by
  refine ⟨?_, ⟨fun a o e h1 h2 => ?_, fun a o e h1 => ?_, fun a o e => ?_⟩, ?_⟩
  · obtain ⟨h', tk, rfl⟩ := x.same
    obtain ⟨h'', tk', rfl⟩ := y.same
    exact ⟨h'', tk', rfl⟩
  · exact y.ext.keep a o (x.ext.keep a o e h1 h2) (x.notin e h1) h2
  · obtain ⟨sl, h3⟩ := x.ext.slots a o e h1
    obtain ⟨sl', h4⟩ := y.ext.slots a _ h3 (x.notin e h1)
    exact ⟨sl', h4⟩
  · obtain ⟨o', h3⟩ := x.ext.alive a o e
    exact y.ext.alive a o' h3
  · obtain ⟨δ, rfl, hδ⟩ := x.grow
    obtain ⟨δ', rfl, hδ'⟩ := y.grow
    refine ⟨δ ++ δ', by simp, fun a ha => ?_⟩
    rcases List.mem_append.mp ha with h1 | h1
    · exact hδ a h1
    · cases hq : s₀.heap.get? a with
      | none => rfl
      | some o =>
        obtain ⟨o', h3⟩ := x.ext.alive a o hq
        have := hδ' a h1; rw [h3] at this; cases this

/-- only toks and pushed objects -/
theorem Step.keeps {Fs π : List Addr} {s : Shared} {h' : Heap} {tk : Nat} (k : ∀ b o, s.heap.get? b = some o → h'.get? b = some o) : Step Fs π s π { s with heap := h', toks := tk } :=
  ⟨⟨h', tk, rfl⟩, .of_keeps k, [], by simp, by simp⟩
theorem Step.tok {Fs π : List Addr} {s : Shared} (tk : Nat) : Step Fs π s π { s with toks := tk } := Step.keeps fun _ _ e => e

/-- what a value's things need to stand on elsewhere -/
def Via (am am' : Amb) (π π' : List Addr) (h h' : Heap) : Prop :=
  (∀ a o, h.get? a = some o → (∀ us, o.data ≠ .fields us) → a ∉ π → a ∉ am.res → (∃ sl, h'.get? a = some { o with slots := sl }) ∧ a ∉ π' ∧ a ∉ am'.res) ∧ ∀ (i : Nat) (a : Addr), π[i]? = some a → π'[i]? = some a

mutual
theorem VR.via {am am' : Amb} {π π' : List Addr} {h h' : Heap} (k : Via am am' π π' h h') : ∀ {v : V} {y : Value}, VR am π h v y → VR am' π' h' v y
  | .undef, _, e => e
  | .none, _, e => e
  | .bool _, _, e => e
  | .int _, _, e => e
  | .str _, _, e => e
  | .exc _, _, e => e
  | .ref i, y, ⟨a, h1, h2⟩ => ⟨a, h1, k.2 i a h2⟩
  | .tup vs, y, ⟨a, xs, h1, ha, ⟨o, ho, hc, n, hd⟩, hz, e⟩ =>
    have q := k.1 a o ho (fun us z => by rw [hd] at z; cases z) ha.1 ha.2
    have ⟨sl, hs⟩ := q.1
    ⟨a, xs, h1, q.2, ⟨_, hs, hc, n, hd⟩, hz, VRs.via k e⟩
  | .lst vs, y, ⟨a, xs, h1, ha, ⟨o, ho, hc, n, hd⟩, hz, e⟩ =>
    have q := k.1 a o ho (fun us z => by rw [hd] at z; cases z) ha.1 ha.2
    have ⟨sl, hs⟩ := q.1
    ⟨a, xs, h1, q.2, ⟨_, hs, hc, n, hd⟩, hz, VRs.via k e⟩
  | .dct, y, ⟨a, o, es, ep, h1, ha, ho, hc, hd⟩ =>
    have q := k.1 a o ho (fun us z => by rw [hd] at z; cases z) ha.1 ha.2
    have ⟨sl, hs⟩ := q.1
    ⟨a, _, es, ep, h1, q.2, hs, hc, hd⟩
theorem VRs.via {am am' : Amb} {π π' : List Addr} {h h' : Heap} (k : Via am am' π π' h h') : ∀ {vs : List V} {ys : List Value}, VRs am π h vs ys → VRs am' π' h' vs ys
  | [], _, e => e
  | v :: vs, ys, ⟨y, ys', h1, h2, h3⟩ => ⟨y, ys', h1, VR.via k h2, VRs.via k h3⟩
end

theorem Step.via {am : Amb} {Fs π π' : List Addr} {s s' : Shared} (x : Step Fs π s π' s') : Via am am π π' s.heap s'.heap :=
  ⟨fun a o ho _ h1 h2 => ⟨x.ext.slots a o ho h1, x.notin ho h1, h2⟩, fun i a ha => by
    obtain ⟨δ, rfl, _⟩ := x.grow
    rw [List.getElem?_append_left (List.getElem?_eq_some_iff.mp ha).1]; exact ha⟩
theorem VR.step {am : Amb} {Fs π π' : List Addr} {s s' : Shared} (x : Step Fs π s π' s') {v : V} {y : Value} (e : VR am π s.heap v y) : VR am π' s'.heap v y := e.via x.via
theorem VRs.step {am : Amb} {Fs π π' : List Addr} {s s' : Shared} (x : Step Fs π s π' s') {vs : List V} {ys : List Value} (e : VRs am π s.heap vs ys) : VRs am π' s'.heap vs ys := e.via x.via

/-- a list without a dict of its own -/
noncomputable def PL (h : Heap) (a : Addr) (xs : List Value) : Prop := ∃ o n, h.get? a = some o ∧ o.cls = .type "list" ∧ o.dict = none ∧ o.data = .seq (List.toArray xs) n
theorem PL.is {h : Heap} {a : Addr} {xs : List Value} (x : PL h a xs) : h.IsList a (List.toArray xs) := let ⟨o, n, ho, hc, _, hd⟩ := x; ⟨o, ho, hc, n, hd⟩

/-- what a cell's object is -/
noncomputable def CellAt (am : Amb) (π : List Addr) (h : Heap) : Cell → Addr → Prop
  | .list vs, a => ∃ xs, PL h a xs ∧ vs.length ≤ 1000000 ∧ VRs am π h vs xs
  | .dict _, _ => False

/-- the cells -/
structure HR (am : Amb) (stack : List Env) (π : List Addr) (H : H) (h : Heap) : Prop where
  base : am.B.StaysIn h
  frames : h.FunFrames am.B stack
  len : π.length = H.length
  nodup : π.Nodup
  res : ∀ a ∈ am.res, ∃ o, h.get? a = some o ∧ ∀ us, o.data ≠ .fields us
  off : ∀ a ∈ π, am.B.get? a = none ∧ a ∉ stack.filterMap (·.frame)
  cell : ∀ (i : Nat) (c : Cell) (a : Addr), H[i]? = some c → π[i]? = some a → CellAt am π h c a

end Mine

namespace Mine
open PySem PySem.W

abbrev Fs (stack : List Env) : List Addr := stack.filterMap (·.frame)

/-- an exception on its way: fl is none ahead of its first entry, else its flight -/
noncomputable def XAt (base h : Heap) (e : Addr) (C : Value) (fl : Option Value) : Prop :=
  base.StaysIn h ∧ base.get? e = none ∧ ∃ oe vs, h.get? e = some oe ∧ (oe.cls = C ∧ oe.dict = none) ∧ oe.data = .fields vs ∧ vs[2]? = some .none ∧
    (match fl with
      | none => vs[1]? = some .none
      | some f => ∃ T oT ts, vs[1]? = some (.ref T) ∧ base.get? T = none ∧ T ≠ e ∧ h.get? T = some oT ∧ oT.data = .fields ts ∧ ts[3]? = some f)

theorem none_of_stays {base B : Heap} (k : base.StaysIn B) {b : Addr} (e : B.get? b = none) : base.get? b = none := by
  cases q : base.get? b with
  | none => rfl
  | some o => have := k b o q; rw [e] at this; cases this

theorem XAt.mono {base B h : Heap} {e : Addr} {C : Value} {fl : Option Value} (k : base.StaysIn B) (x : XAt B h e C fl) : XAt base h e C fl := by
  refine hold fun _ k_ => ?_
  obtain ⟨h1, h2, oe, vs, h3, h4, h5, h6, h7⟩ := x
  refine k_ ?_
  refine ⟨fun b o q => h1 b o (k b o q), none_of_stays k h2, oe, vs, h3, h4, h5, h6, ?_⟩
  cases fl with
  | none => exact h7
  | some f =>
    refine hold fun _ k_ => ?_
    obtain ⟨T, oT, ts, t1, t2, t3⟩ := h7
    refine k_ ?_
    exact ⟨T, oT, ts, t1, none_of_stays k t2, t3⟩

/-- what an exception's passing turns: its own records, and slots -/
structure Touch (base : Heap) (h h' : Heap) : Prop where
  stays : base.StaysIn h'
  slots : h.UpToSlots h'

theorem Touch.trans {base h₁ h₂ h₃ : Heap} (x : Touch base h₁ h₂) (y : Touch base h₂ h₃) : Touch base h₁ h₃ := ⟨y.stays, x.slots.trans y.slots⟩


theorem dict_mapFields (o : Obj) (f) : (o.mapFields f).dict = o.dict := by
  obtain ⟨c, d, dt, sl⟩ := o; cases dt <;> rfl

theorem funFrames_slots {h h' base : Heap} (k : h.UpToSlots h') {l : List Env} (x : h.FunFrames base l) : h'.FunFrames base l :=
  x.of_keeps fun b o ho hn => let ⟨_, e⟩ := k b o ho hn; ⟨_, e, rfl⟩

section
variable {M : Model} {A : Around} {E : Value → Shared → Prop} {s : Shared}

theorem x_entry {base : Heap} {env : Env} {outer : List Env} {L e : Addr} {oe : Obj} {vs : Array Value} {head : Value} {hadNext : Bool} {Q : Unit → Shared → Prop}
    (hfr : A.frames = some (env :: outer)) (hl : s.heap.FunFrames base (env :: outer)) (hf : env.frame = some L)
    (he : s.heap.get? e = some oe) (hkb : base.StaysIn s.heap) (hen : base.get? e = none) (hdi : oe.dict = none) (hd : oe.data = .fields vs) (hsz : 1 < vs.size) (h2 : vs[2]? = some .none)
    (h : ∀ h', XAt base h' e oe.cls (some (rawInt L)) → Touch base s.heap h' → Q () { s with heap := h' }) :
    wpAny M A (do let a ← frameOf env; let pl ← entryPlaceOf L hadNext; let b ← EntryCells.newEntry head a .none (rawInt L) .none pl; setField (.ref e) 1 b) Q E s := by
  have hene : e ∉ (env :: outer).filterMap (·.frame) := fun hm => by
    refine hold fun _ k_ => ?_
    obtain ⟨_, o, ho, hnf⟩ := hl.mem hm
    refine k_ ?_
    rw [he] at ho; injection ho with ho; subst ho; exact hnf vs hd
  refine wpAny_bind (wpAny_frameOf_fun hfr hl hf fun h₁ hs₁ => ?_)
  refine wpAny_bind (wpAny_entryPlaceOf fun pl hpl => ?_)
  unfold EntryCells.newEntry newFields
  refine wpAny_bind (wpAny_newObj_type ?_ (hpl.sizeOk5 _ _ _ _ _))
  have he₁ : h₁.get? e = some oe := (hs₁.2.1 e hene).trans he
  have kb₁ : base.StaysIn h₁ := fun b o hbo => (hs₁.2.1 b fun hm => by rw [(hl.mem hm).1] at hbo; cases hbo).trans (hkb b o hbo)
  generalize hT : ({ cls := .type "traceback", dict := none, data := .fields ([head, .ref L, .none, rawInt L, .none] ++ (if pl.isEmpty then List.replicate 6 Value.none else pl)).toArray } : Obj) = T
  have hTd : T.data = .fields ([head, .ref L, .none, rawInt L, .none] ++ (if pl.isEmpty then List.replicate 6 Value.none else pl)).toArray := by rw [← hT]
  have he₂ := Heap.get?_push_of_some (h := h₁) T he₁
  refine wpAny_setField he₂ hd hsz (h _ ?_ ?_)
  all_goals
    have hTe : h₁.objs.size ≠ e := Nat.ne_of_gt (Heap.lt_size he₁)
    have hd₃ := Obj.data_mapFields hd (·.setIfInBounds 1 (Value.ref h₁.objs.size))
    have he₃ := Heap.get?_update_self (Obj.mapFields (·.setIfInBounds 1 (Value.ref h₁.objs.size))) he₂ (Obj.isFreed_of_fields hd₃)
    have hT₃ := (Heap.get?_update_other (h₁.push T) (Obj.mapFields (·.setIfInBounds 1 (Value.ref h₁.objs.size))) (Ne.symm hTe)).trans (Heap.get?_push_size h₁ (Obj.isFreed_of_fields hTd))
    have keep : ∀ b o, b ≠ e → h₁.get? b = some o → ((h₁.push T).update e (Obj.mapFields (·.setIfInBounds 1 (Value.ref h₁.objs.size)))).get? b = some o :=
      fun b o hbe hb => by
        rw [Heap.get?_update_other _ _ (Ne.symm hbe)]
        exact Heap.get?_push_of_some _ hb
    have noRecord : ∀ b o, s.heap.get? b = some o → (∀ vs, o.data ≠ .fields vs) → b ≠ e := fun b o hb hnf q => by
      rw [q, he] at hb; injection hb with hb; subst hb; exact hnf vs hd
    have kb₂ : base.StaysIn ((h₁.push T).update e (Obj.mapFields (·.setIfInBounds 1 (Value.ref h₁.objs.size)))) := fun b o hbo => keep b o (fun q => by rw [q, hen] at hbo; cases hbo) (kb₁ b o hbo)
  · refine ⟨kb₂, hen, _, _, he₃, ⟨Obj.cls_mapFields _ _, (dict_mapFields _ _).trans hdi⟩, hd₃, by rw [Array.getElem?_setIfInBounds_ne (by decide)]; exact h2, h₁.objs.size, _, _, by simp [hsz], kb₁.fresh, hTe, hT₃, hTd, ?_⟩
    first | (simp; done) | (rcases hpl with rfl | ⟨_, _, _, _, _, _, _, rfl⟩ <;> simp)
  · refine ⟨kb₂, fun b o hb hnf => ?_⟩
    obtain ⟨sl, hs⟩ := hs₁.2.2 b o hb
    exact ⟨sl, keep b _ (noRecord b o hb hnf) hs⟩

theorem x_note {base : Heap} {env : Env} {outer : List Env} {L e : Addr} {C : Value} {fl : Option Value} {Q : Unit → Shared → Prop}
    (hfr : A.frames = some (env :: outer)) (hl : s.heap.FunFrames base (env :: outer)) (hf : env.frame = some L) (x : XAt base s.heap e C fl)
    (h : ∀ h', XAt base h' e C (some (rawInt L)) → Touch base s.heap h' → Q () { s with heap := h' }) : wpAny M A (noteFrame (.ref e) env) Q E s := by
  refine hold fun _ k_ => ?_
  obtain ⟨h1, h2, oe, vs, h3, h4, h5, h6, h7⟩ := id x
  refine k_ ?_
  have hz2 : 2 < vs.size := (Array.getElem?_eq_some_iff.mp h6).1
  obtain ⟨rfl, h4d⟩ := h4
  unfold noteFrame
  simp only [hf]
  cases fl with
  | none =>
    refine wpAny_bind (wpAny_field h3 h5 h7 ?_)
    rw [if_neg (by decide)]
    exact x_entry hfr hl hf h3 h1 h2 h4d h5 (by omega) h6 h
  | some f =>
    refine hold fun _ k_ => ?_
    obtain ⟨T, oT, ts, t1, t2, t3, t4, t5, t6⟩ := h7
    refine k_ ?_
    refine wpAny_bind (wpAny_field h3 h5 t1 ?_)
    rw [if_pos (show (Value.ref T != Value.none) = true from by simp)]
    refine wpAny_bind (wpAny_field t4 t5 t6 ?_)
    by_cases hq : (f == rawInt L) = true
    · rw [if_pos hq]
      have : f = rawInt L := eq_of_beq hq
      subst this
      refine hold fun _ k_ => ?_
      obtain ⟨hh, hg, hd, ht, ho⟩ := s
      refine k_ ?_
      exact wpAny_pure (h hh x ⟨h1, .refl _⟩)
    · rw [if_neg hq]
      refine wpAny_bind (wpAny_setField t4 t5 (Array.getElem?_eq_some_iff.mp t6).1 ?_)
      have other : ∀ b, b ≠ T → (s.heap.update T (Obj.mapFields (·.setIfInBounds 3 Value.none))).get? b = s.heap.get? b := fun b hb => Heap.get?_update_other _ _ (Ne.symm hb)
      have noRecord : ∀ b o, s.heap.get? b = some o → (∀ vs, o.data ≠ .fields vs) → b ≠ T := fun b o hb hnf q => by
        rw [q, t4] at hb; injection hb with hb; subst hb; exact hnf ts t5
      refine x_entry (s := { s with heap := s.heap.update T (Obj.mapFields (·.setIfInBounds 3 Value.none)) }) hfr (hl.of_keeps fun b o hb hnf => ⟨o, (other b (noRecord b o hb hnf)).trans hb, rfl⟩) hf ((other e (Ne.symm t3)).trans h3)
        (fun b o hbo => (other b fun q => by rw [q, t2] at hbo; cases hbo).trans (h1 b o hbo)) h2 h4d h5 (by omega) h6 fun h' y1 y2 => h h' y1 ⟨y2.stays, fun b o hb hnf => y2.slots b o ((other b (noRecord b o hb hnf)).trans hb) hnf⟩

theorem x_flight {base : Heap} {e : Addr} {C f : Value} {fr : Option Addr} {Q : Unit → Shared → Prop}
    (x : XAt base s.heap e C (some f))
    (h : ∀ h', XAt base h' e C (some (fr.elim .none fun f => rawInt f)) → Touch base s.heap h' → Q () { s with heap := h' }) : wpAny M A (setFlight (.ref e) fr) Q E s := by
  refine hold fun _ k_ => ?_
  obtain ⟨h1, h2, oe, vs, h3, h4, h5, h6, T, oT, ts, t1, t2, t3, t4, t5, t6⟩ := id x
  refine k_ ?_
  have hsz3 : 3 < ts.size := (Array.getElem?_eq_some_iff.mp t6).1
  have other : ∀ b, b ≠ T → (s.heap.update T (Obj.mapFields (·.setIfInBounds 3 (fr.elim Value.none fun f => rawInt f)))).get? b = s.heap.get? b :=
    fun b hb => Heap.get?_update_other _ _ (Ne.symm hb)
  have noRecord : ∀ b o, s.heap.get? b = some o → (∀ vs, o.data ≠ .fields vs) → b ≠ T := fun b o hb hnf q => by
    rw [q, t4] at hb; injection hb with hb; subst hb; exact hnf ts t5
  have kb : base.StaysIn (s.heap.update T (Obj.mapFields (·.setIfInBounds 3 (fr.elim Value.none fun f => rawInt f)))) := fun b o hbo => (other b fun q => by rw [q, t2] at hbo; cases hbo).trans (h1 b o hbo)
  unfold setFlight
  refine wpAny_bind (wpAny_field h3 h5 t1 ?_)
  rw [if_pos (show (Value.ref T != Value.none) = true from by simp)]
  refine wpAny_setField t4 t5 hsz3 (h _ ?_ ⟨kb, fun b o hb hnf => ⟨o.slots, (other b (noRecord b o hb hnf)).trans hb⟩⟩)
  exact ⟨kb, h2, oe, vs, (other e (Ne.symm t3)).trans h3, h4, h5, h6, T, _, _, t1, t2, t3, Heap.get?_update_self _ t4 (Obj.isFreed_of_fields (Obj.data_mapFields t5 _)), Obj.data_mapFields t5 _, by simp [hsz3]⟩

theorem x_leave {base : Heap} {env : Env} {outer : List Env} {L e : Addr} {C : Value} {fl : Option Value} {Q : Unit → Shared → Prop}
    (hfr : A.frames = some (env :: outer)) (hl : s.heap.FunFrames base (env :: outer)) (hf : env.frame = some L) (x : XAt base s.heap e C fl)
    (h : ∀ h', XAt base h' e C (some .none) → Touch base s.heap h' → Q () { s with heap := h' }) : wpAny M A (leaving env (.ref e)) Q E s := by
  unfold leaving
  refine wpAny_bind (x_note hfr hl hf x fun h₁ x₁ k₁ => ?_)
  exact x_flight (fr := none) x₁ fun h₂ x₂ k₂ => h h₂ x₂ (k₁.trans k₂)
end

end Mine

namespace Mine
open PySem PySem.W

/-- a good end: what the evaluator told, told of the heap -/
inductive OkP (am : Amb) (stack : List Env) {α β : Type} (Rel : List Addr → Heap → β → α → Prop) (π : List Addr) (s : Shared) (r : R β) (a : α) (s' : Shared) : Prop
  | mk (b : β) (H' : H) (π' : List Addr) (h1 : r = .ok b H') (h2 : Step (Fs stack) π s π' s') (h3 : HR am stack π' H' s'.heap) (h4 : Rel π' s'.heap b a)

/-- what an exception finds as it stood -/
abbrev ground (stack : List Env) (π : List Addr) (h : Heap) : Heap := hideAll h (π ++ Fs stack)

inductive ErP (am : Amb) (stack : List Env) {β : Type} (π : List Addr) (s : Shared) (r : R β) (x : Value) (s' : Shared) : Prop
  | mk (c : String) (H' : H) (π' : List Addr) (e C : Addr) (fl : Option Value) (h1 : r = .err c H') (h2 : x = .ref e) (h3 : am.mg (Str.ofString c) = some (.ref C)) (h4 : Step (Fs stack) π s π' s') (h5 : HR am stack π' H' s'.heap) (h6 : XAt (ground stack π s.heap) s'.heap e (.ref C) fl)

noncomputable def JAt (am : Amb) (stack : List Env) (A : Around) {α β : Type} (m : Sem α) (r : R β) (Rel : List Addr → Heap → β → α → Prop) (π : List Addr) (s : Shared) : Prop :=
  r = .bad ∨ wpAny am.M A m (OkP am stack Rel π s r) (ErP am stack π s r) s

theorem ground_mono {stack : List Env} {π π' : List Addr} {s s' : Shared} (x : Step (Fs stack) π s π' s') : (ground stack π s.heap).StaysIn (ground stack π' s'.heap) := by
  intro b o e
  have h1 := of_hideAll _ e
  have hn : b ∉ π ++ Fs stack := fun hm => by rw [hideAll_none _ hm] at e; cases e
  rw [List.mem_append, not_or] at hn
  refine hideAll_get _ (x.ext.keep b o h1 hn.1 hn.2) ?_
  rw [List.mem_append, not_or]
  exact ⟨x.notin h1 hn.1, hn.2⟩

theorem OkP.step {am : Amb} {stack : List Env} {α β : Type} {Rel : List Addr → Heap → β → α → Prop} {π π₁ : List Addr} {s s₁ : Shared} {r : R β} {a : α} {s' : Shared}
    (x : Step (Fs stack) π s π₁ s₁) (y : OkP am stack Rel π₁ s₁ r a s') : OkP am stack Rel π s r a s' := by
  refine hold fun _ k_ => ?_
  obtain ⟨b, H', π', h1, h2, h3, h4⟩ := y
  refine k_ ?_
  exact ⟨b, H', π', h1, x.trans h2, h3, h4⟩
theorem ErP.step {am : Amb} {stack : List Env} {β : Type} {π π₁ : List Addr} {s s₁ : Shared} {r : R β} {a : Value} {s' : Shared}
    (x : Step (Fs stack) π s π₁ s₁) (y : ErP am stack π₁ s₁ r a s') : ErP am stack π s r a s' := by
  refine hold fun _ k_ => ?_
  obtain ⟨c, H', π', e, C, fl, h1, h2, h3, h4, h5, h6⟩ := y
  refine k_ ?_
  exact ⟨c, H', π', e, C, fl, h1, h2, h3, x.trans h4, h5, h6.mono (ground_mono x)⟩

section
variable {am : Amb} {stack : List Env} {A : Around} {α β γ δ : Type} {Rel : List Addr → Heap → β → α → Prop} {Rel' : List Addr → Heap → δ → γ → Prop} {π : List Addr} {s : Shared}

theorem JAt.bind {m : Sem α} {f : α → Sem γ} {r : R β} {g : β → H → R δ} (h1 : JAt am stack A m r Rel π s)
    (h2 : ∀ a b H' π' s', r = .ok b H' → Step (Fs stack) π s π' s' → HR am stack π' H' s'.heap → Rel π' s'.heap b a → JAt am stack A (f a) (g b H') Rel' π' s') :
    JAt am stack A (m >>= f) (r.bind g) Rel' π s := by
  rcases h1 with rfl | h1
  · exact .inl rfl
  · cases r with
    | bad => exact .inl rfl
    | err c H' =>
      refine .inr (wpAny_bind (wpAny_mono h1 (fun a s' h => ?_) fun e s' h => ?_))
      · obtain ⟨_, _, _, h, _⟩ := h; cases h
      · refine hold fun _ k_ => ?_
        obtain ⟨c', H'', π', e', C, fl, h, r2, r3, r4, r5, r6⟩ := h
        refine k_ ?_
        cases h
        exact ⟨c, H', π', e', C, fl, rfl, r2, r3, r4, r5, r6⟩
    | ok b H' =>
      by_cases hb : g b H' = .bad
      · exact .inl hb
      · refine .inr (wpAny_bind (wpAny_mono h1 (fun a s' h => ?_) fun e s' h => ?_))
        · refine hold fun _ k_ => ?_
          obtain ⟨b', H'', π', h, h3, h4, h5⟩ := h
          refine k_ ?_
          cases h
          rcases h2 a b H' π' s' rfl h3 h4 h5 with h6 | h6
          · exact absurd h6 hb
          · exact wpAny_mono h6 (fun _ _ y => OkP.step h3 y) fun _ _ y => ErP.step h3 y
        · obtain ⟨_, _, _, _, _, _, h, _⟩ := h; cases h

theorem JAt.mono {m : Sem α} {r : R β} {Rel₂ : List Addr → Heap → β → α → Prop} (h : JAt am stack A m r Rel π s) (k : ∀ π h b a, Rel π h b a → Rel₂ π h b a) : JAt am stack A m r Rel₂ π s := by
  rcases h with h | h
  · exact .inl h
  · exact .inr (wpAny_mono h (fun a s' ⟨b, H', π', h1, h2, h3, h4⟩ => ⟨b, H', π', h1, h2, h3, k _ _ _ _ h4⟩) fun _ _ y => y)

theorem JAt.pure {a : α} {b : β} {Hc : H} (hr : HR am stack π Hc s.heap) (h : Rel π s.heap b a) : JAt am stack A (pure a : Sem α) (.ok b Hc) Rel π s :=
  .inr (wpAny_pure ⟨b, Hc, π, rfl, .refl .., hr, h⟩)

theorem JAt.bad {m : Sem α} : JAt am stack A m (.bad : R β) Rel π s := .inl rfl

theorem JAt.congr {m m' : Sem α} {r r' : R β} (e : m = m') (er : r = r') (h : JAt am stack A m' r' Rel π s) : JAt am stack A m r Rel π s := by subst e er; exact h

theorem JAt.holding {vs : List Value} {m : Sem α} {r : R β} (h : JAt am stack A m r Rel π s) : JAt am stack A (PySem.holding vs m) r Rel π s := by
  rcases h with h | h
  · exact .inl h
  · exact .inr (wpAny_holding h)
theorem JAt.standAt {pos : Pos} {f : Unit → Sem α} {r : R β} (h : JAt am stack A (f ()) r Rel π s) : JAt am stack A (PySem.standAt pos >>= f) r Rel π s := by
  rcases h with h | h
  · exact .inl h
  · exact .inr (wpAny_bind (wpAny_standAt h))
/-- a rule of the library that says what comes behind -/
theorem JAt.rule {m m' : Sem α} {r : R β} (k : ∀ (Q : α → Shared → Prop) (E : Value → Shared → Prop), wpAny am.M A m' Q E s → wpAny am.M A m Q E s) (h : JAt am stack A m' r Rel π s) : JAt am stack A m r Rel π s := by
  rcases h with h | h
  · exact .inl h
  · exact .inr (k _ _ h)
end

theorem release_wp {M : Model} {A : Around} {vs keep : List Value} {Q : Unit → Shared → Prop} {E : Value → Shared → Prop} {s : Shared} (h : Q () s) : wpAny M A (release vs keep) Q E s :=
  fun Γ p _ => by
    unfold release
    rw [Sem.wp_release_go]
    exact h

theorem operate_wp {M : Model} {A : Around} {vs : List Value} {m : Sem Value} {Q : Value → Shared → Prop} {E : Value → Shared → Prop} {s : Shared} (h : wpAny M A m Q E s) : wpAny M A (operate vs m) Q E s := by
  unfold operate
  exact wpAny_bind (wpAny_holding (wpAny_mono h (fun r s' hr => wpAny_bind (release_wp (wpAny_pure hr))) fun _ _ y => y))

theorem JAt.operate {am : Amb} {stack : List Env} {A : Around} {β : Type} {Rel : List Addr → Heap → β → Value → Prop} {π : List Addr} {s : Shared} {vs : List Value} {m : Sem Value} {r : R β} (h : JAt am stack A m r Rel π s) : JAt am stack A (PySem.operate vs m) r Rel π s :=
  h.rule fun _ _ x => operate_wp x

/-- the place where a def's body, or a block of its, is run -/
structure Cx where
  env : Env
  stack : List Env
  ctx : List (Str × Nat)

noncomputable def Vis (env : Env) (x : Str) : Prop := env.kindOf x = some .local ∨ env.kindOf x = some .cell ∨ env.kindOf x = some .free

/-- a name's value as the frame reads it -/
noncomputable def VarAt (h : Heap) (env : Env) (x : Str) (v : Value) : Prop :=
  (env.kindOf x = some .local ∧ ∃ m, h.Ns env.locals m ∧ m x = some v) ∨
  ((env.kindOf x = some .cell ∨ env.kindOf x = some .free) ∧ ∃ c, env.cells.lookup x = some c ∧ h.IsCell c (some v))

/-- a value, or a caught exception -/
noncomputable def SR (am : Amb) (π : List Addr) (h : Heap) (v : V) (x : Value) : Prop :=
  VR am π h v x ∨ ∃ c a, v = .exc c ∧ x = .ref a ∧ a ∉ π ∧ ExcAt am h c a

structure ER (am : Amb) (cx : Cx) (ρ : List V) (π : List Addr) (h : Heap) : Prop where
  ns : ∃ m, h.Ns cx.env.locals m
  locOff : cx.env.locals ∉ π
  cellOff : ∀ x c, cx.env.cells.lookup x = some c → c ∉ π ∧ c ≠ cx.env.locals ∧ ∃ v, h.IsCell c v
  apart : ∀ x y c, cx.env.cells.lookup x = some c → cx.env.cells.lookup y = some c → x = y
  var : ∀ x i v, cx.ctx.lookup x = some i → ρ[i]? = some v → v ≠ .undef → Vis cx.env x → ∃ v', VarAt h cx.env x v' ∧ SR am π h v v'

theorem Ext.ns {π Fs : List Addr} {h h' : Heap} (x : Ext π Fs h h') {a : Addr} {m : Str → Option Value} (hn : h.Ns a m) (ha : a ∉ π) : h'.Ns a m := by
  refine hold fun _ k_ => ?_
  obtain ⟨o, es, ep, ho, hd, r⟩ := hn
  refine k_ ?_
  obtain ⟨sl, hs⟩ := x.slots a o ho ha
  exact ⟨_, es, ep, hs, hd, r⟩
theorem Ext.cell {π Fs : List Addr} {h h' : Heap} (x : Ext π Fs h h') {a : Addr} {v : Option Value} (hn : h.IsCell a v) (ha : a ∉ π) : h'.IsCell a v := by
  obtain ⟨o, ho, hd⟩ := hn
  obtain ⟨sl, hs⟩ := x.slots a o ho ha
  exact ⟨_, hs, hd⟩

theorem Heap.Ns.exist {h : Heap} {a : Addr} {m : Str → Option Value} (hn : h.Ns a m) : ∃ o, h.get? a = some o := let ⟨o, _, _, ho, _⟩ := hn; ⟨o, ho⟩
theorem Heap.IsCell.exist {h : Heap} {a : Addr} {v : Option Value} (hn : h.IsCell a v) : ∃ o, h.get? a = some o := let ⟨o, ho, _⟩ := hn; ⟨o, ho⟩

theorem ExcAt.step {am : Amb} {Fs π π' : List Addr} {s s' : Shared} (x : Step Fs π s π' s') {c : String} {a : Addr} (e : ExcAt am s.heap c a) (ha : a ∉ π) : a ∉ π' ∧ ExcAt am s'.heap c a := by
  refine hold fun _ k_ => ?_
  obtain ⟨C, o, vs, h1, h2, h3, h4, h5, h6⟩ := e
  refine k_ ?_
  obtain ⟨sl, h7⟩ := x.ext.slots a o h2 ha
  exact ⟨x.notin h2 ha, C, _, vs, h1, h7, h3, h4, h5, h6⟩

theorem SR.step {am : Amb} {Fs π π' : List Addr} {s s' : Shared} (x : Step Fs π s π' s') {v : V} {y : Value} (e : SR am π s.heap v y) : SR am π' s'.heap v y := by
  rcases e with e | ⟨c, a, h1, h2, h3, h4⟩
  · exact .inl (e.step x)
  · have := h4.step x h3
    exact .inr ⟨c, a, h1, h2, this.1, this.2⟩

theorem ER.step {am : Amb} {cx : Cx} {ρ : List V} {Fs π π' : List Addr} {s s' : Shared} (x : Step Fs π s π' s') (e : ER am cx ρ π s.heap) : ER am cx ρ π' s'.heap := by
  obtain ⟨m, hm⟩ := e.ns
  obtain ⟨o, ho⟩ := Heap.Ns.exist hm
  refine ⟨⟨m, x.ext.ns hm e.locOff⟩, x.notin ho e.locOff, fun y c hc => ?_, e.apart, fun y i v h1 h2 h3 h4 => ?_⟩
  · refine hold fun _ k_ => ?_
    obtain ⟨h1, h2, v, h3⟩ := e.cellOff y c hc
    refine k_ ?_
    obtain ⟨o, ho⟩ := Heap.IsCell.exist h3
    exact ⟨x.notin ho h1, h2, v, x.ext.cell h3 h1⟩
  · obtain ⟨v', h5, h6⟩ := e.var y i v h1 h2 h3 h4
    refine ⟨v', ?_, h6.step x⟩
    rcases h5 with ⟨k, m', h7, h8⟩ | ⟨k, c, h7, h8⟩
    · exact .inl ⟨k, m', x.ext.ns h7 e.locOff, h8⟩
    · exact .inr ⟨k, c, h7, x.ext.cell h8 (e.cellOff y c h7).1⟩

/-- what is being handled: nothing, or (q false) an exception without a context -/
noncomputable def Hd (q : Bool) (A : Around) (π Fs : List Addr) (h : Heap) : Prop :=
  if q then A.handled = none else ∃ he o vs, A.handled = some (.ref he) ∧ he ∉ π ∧ he ∉ Fs ∧ h.get? he = some o ∧ o.data = .fields vs ∧ vs[2]? = some .none

theorem Hd.step {q : Bool} {A : Around} {Fs π π' : List Addr} {s s' : Shared} (x : Step Fs π s π' s') (e : Hd q A π Fs s.heap) : Hd q A π' Fs s'.heap := by
  unfold Hd at e ⊢
  split
  · rename_i hq; rw [if_pos hq] at e; exact e
  · rename_i hq
    rw [if_neg hq] at e
    refine hold fun _ k_ => ?_
    obtain ⟨he, o, vs, h1, h2, h3, h4, h5⟩ := e
    refine k_ ?_
    exact ⟨he, o, vs, h1, x.notin h4 h2, h3, x.ext.keep he o h4 h2 h3, h5⟩

/-- the surroundings: n calls more may nest -/
structure AS (n : Nat) (stack : List Env) (A : Around) : Prop where
  frames : A.frames = some stack
  depth : A.depth + n < 800
  units : A.units + 10 * n < 9000

/-- the state at hand -/
structure St (am : Amb) (q : Bool) (cx : Cx) (ρ : List V) (π : List Addr) (Hc : H) (A : Around) (s : Shared) : Prop where
  hr : HR am cx.stack π Hc s.heap
  er : ER am cx ρ π s.heap
  hd : Hd q A π (Fs cx.stack) s.heap

theorem St.step {am : Amb} {q : Bool} {cx : Cx} {ρ : List V} {π π' : List Addr} {Hc H' : H} {A : Around} {s s' : Shared} (x : St am q cx ρ π Hc A s) (y : Step (Fs cx.stack) π s π' s') (hr : HR am cx.stack π' H' s'.heap) : St am q cx ρ π' H' A s' :=
  ⟨hr, x.er.step y, x.hd.step y⟩

/-- what stands, as far as the walk asks -/
structure AmbOK (am : Amb) : Prop where
  g : am.B.Ns mainGlobals am.mg
  b : am.B.Ns builtinsNs am.mb
  nolimit : am.B.NoLimit
  noseer : am.B.NoSeer
  tree : am.prog.given.tree = none

/-- the frame that runs -/
structure TopEnv (e₀ : Env) : Prop where
  gen : e₀.scope.isGenerator = false
  co : e₀.scope.isCoroutine = false
  globals : e₀.globals = mainGlobals
  builtins : e₀.builtins = builtinsNs

noncomputable def StackOK (stack : List Env) : Prop := ∃ e₀ outer, stack = e₀ :: outer ∧ TopEnv e₀

structure CxOK (cx : Cx) : Prop where
  clos : ∀ x, cx.env.kindOf x = some .cell ∨ cx.env.kindOf x = some .free → ∃ c, cx.env.cells.lookup x = some c
  kind : cx.env.scope.kind = .function
  globals : cx.env.globals = mainGlobals
  builtins : cx.env.builtins = builtinsNs
  top : ∃ e₀ outer, cx.stack = e₀ :: outer ∧ e₀.frame = cx.env.frame ∧ TopEnv e₀

theorem CxOK.stackOK {cx : Cx} (x : CxOK cx) : StackOK cx.stack := let ⟨e₀, outer, h, _, t⟩ := x.top; ⟨e₀, outer, h, t⟩

end Mine

namespace Mine
open PySem PySem.W PyProof.Rows

theorem VR.keeps {am : Amb} {π : List Addr} {h h' : Heap} (k : ∀ b o, h.get? b = some o → h'.get? b = some o) {v : V} {x : Value} (e : VR am π h v x) : VR am π h' v x :=
  VR.step (Fs := []) (s := { heap := h }) (s' := { heap := h' }) (Step.keeps (s := { heap := h }) (tk := 1) k) e
theorem VRs.keeps {am : Amb} {π : List Addr} {h h' : Heap} (k : ∀ b o, h.get? b = some o → h'.get? b = some o) {v : List V} {x : List Value} (e : VRs am π h v x) : VRs am π h' v x :=
  VRs.step (Fs := []) (s := { heap := h }) (s' := { heap := h' }) (Step.keeps (s := { heap := h }) (tk := 1) k) e

theorem CellAt.keeps {am : Amb} {π : List Addr} {h h' : Heap} (k : ∀ b o, h.get? b = some o → h'.get? b = some o) {c : Cell} {a : Addr} (e : CellAt am π h c a) : CellAt am π h' c a := by
  cases c with
  | list vs => obtain ⟨xs, ⟨o, n, ho, hr⟩, h2, h3⟩ := e; exact ⟨xs, ⟨o, n, k _ _ ho, hr⟩, h2, h3.keeps k⟩
  | dict es => exact e

theorem HR.keeps {am : Amb} {stack : List Env} {π : List Addr} {Hc : H} {h h' : Heap} (x : HR am stack π Hc h) (k : ∀ b o, h.get? b = some o → h'.get? b = some o) : HR am stack π Hc h' :=
  ⟨fun b o e => k b o (x.base b o e), x.frames.of_keeps fun b o e _ => ⟨o, k b o e, rfl⟩, x.len, x.nodup, fun a ha => let ⟨o, ho, hn⟩ := x.res a ha; ⟨o, k a o ho, hn⟩, x.off, fun i c a h1 h2 => (x.cell i c a h1 h2).keeps k⟩

section
variable {am : Amb} {stack : List Env} {A : Around} {α β : Type} {Rel : List Addr → Heap → β → α → Prop} {π : List Addr} {s : Shared} {Hc : H}

/-- a good end at which only new things stand beside the old ones -/
theorem OkP.keeps {h' : Heap} {tk : Nat} {a : α} {b : β} (hr : HR am stack π Hc s.heap) (k : ∀ b o, s.heap.get? b = some o → h'.get? b = some o) (h : Rel π h' b a) :
    OkP am stack Rel π s (.ok b Hc) a { s with heap := h', toks := tk } :=
  ⟨b, Hc, π, rfl, .keeps k, hr.keeps k, h⟩
theorem OkP.tok {tk : Nat} {a : α} {b : β} (hr : HR am stack π Hc s.heap) (h : Rel π s.heap b a) :
    OkP am stack Rel π s (.ok b Hc) a { s with toks := tk } := OkP.keeps (h' := s.heap) hr (fun _ _ e => e) h
theorem OkP.here {a : α} {b : β} (hr : HR am stack π Hc s.heap) (h : Rel π s.heap b a) :
    OkP am stack Rel π s (.ok b Hc) a s := OkP.tok (tk := s.toks) hr h
end

theorem fresh_res {am : Amb} {stack : List Env} {π : List Addr} {Hc : H} {h : Heap} (hr : HR am stack π Hc h) {l : Addr} (hl : h.get? l = none) : l ∉ am.res := fun hm => by
  obtain ⟨o, ho, _⟩ := hr.res l hm
  rw [hl] at ho; cases ho

theorem fresh_pi {am : Amb} {stack : List Env} {π : List Addr} {Hc : H} {h : Heap} (hr : HR am stack π Hc h) {l : Addr} (hl : h.get? l = none) : l ∉ π := by
  intro hm
  obtain ⟨i, hi⟩ := List.mem_iff_getElem?.mp hm
  have hlt : i < Hc.length := by rw [← hr.len]; exact (List.getElem?_eq_some_iff.mp hi).1
  have hc := hr.cell i Hc[i] _ (List.getElem?_eq_getElem hlt) hi
  revert hc
  cases Hc[i] with
  | list vs => rintro ⟨xs, ⟨o, n, ho, _⟩, _⟩; rw [hl] at ho; cases ho
  | dict es => intro hc; exact hc

theorem fresh_fs {am : Amb} {stack : List Env} {π : List Addr} {Hc : H} {h : Heap} (hr : HR am stack π Hc h) {l : Addr} (hl : h.get? l = none) : l ∉ Fs stack := fun hm => by
  refine hold fun _ k_ => ?_
  obtain ⟨_, o, ho, _⟩ := hr.frames.mem hm
  refine k_ ?_
  rw [hl] at ho; cases ho

theorem size_none (h : Heap) : h.get? h.objs.size = none := by
  cases q : h.get? h.objs.size with
  | none => rfl
  | some o => exact absurd (Heap.lt_size q) (Nat.lt_irrefl _)

/-- l is in the making -/
noncomputable def Amb.hold (am : Amb) (l : Addr) : Amb := { am with res := l :: am.res }

theorem via_in {am : Amb} {π : List Addr} {h : Heap} {l : Addr} : Via (am.hold l) am π (π ++ [l]) h h :=
  ⟨fun a o ho _ h1 h2 => ⟨⟨o.slots, ho⟩, by
      simp only [Amb.hold, List.mem_cons, not_or] at h2
      simp [h1, h2.1], by
      simp only [Amb.hold, List.mem_cons, not_or] at h2
      exact h2.2⟩, fun i a ha => by rw [List.getElem?_append_left (List.getElem?_eq_some_iff.mp ha).1]; exact ha⟩
theorem via_off {am : Amb} {π : List Addr} {h : Heap} {l : Addr} : Via (am.hold l) am π π h h :=
  ⟨fun a o ho _ h1 h2 => ⟨⟨o.slots, ho⟩, h1, fun q => h2 (List.mem_cons_of_mem _ q)⟩, fun _ _ e => e⟩
theorem via_held {am : Amb} {π : List Addr} {h : Heap} {l : Addr} (hl : h.get? l = none) : Via am (am.hold l) π π h h :=
  ⟨fun a o ho _ h1 h2 => ⟨⟨o.slots, ho⟩, h1, fun q => by
    rcases List.mem_cons.mp q with rfl | q
    · rw [hl] at ho; cases ho
    · exact h2 q⟩, fun _ _ e => e⟩
theorem VR.reserve {am : Amb} {π : List Addr} {h : Heap} {l : Addr} {v : V} {x : Value} (e : VR (am.hold l) π h v x) : VR am (π ++ [l]) h v x ∧ VR am π h v x := ⟨e.via via_in, e.via via_off⟩
theorem VRs.reserve {am : Amb} {π : List Addr} {h : Heap} {l : Addr} {vs : List V} {xs : List Value} (e : VRs (am.hold l) π h vs xs) : VRs am (π ++ [l]) h vs xs ∧ VRs am π h vs xs := ⟨e.via via_in, e.via via_off⟩
theorem VR.held {am : Amb} {π : List Addr} {h : Heap} {l : Addr} (hl : h.get? l = none) {v : V} {x : Value} (e : VR am π h v x) : VR (am.hold l) π h v x := e.via (via_held hl)
theorem VRs.held {am : Amb} {π : List Addr} {h : Heap} {l : Addr} (hl : h.get? l = none) {vs : List V} {xs : List Value} (e : VRs am π h vs xs) : VRs (am.hold l) π h vs xs := e.via (via_held hl)

/-- an end that made a new list -/
noncomputable def NewL (am : Amb) (π : List Addr) (s : Shared) (vs : List V) (x : Value) (s' : Shared) : Prop :=
  ∃ l xs h' tk, x = .ref l ∧ s' = { s with heap := h', toks := tk } ∧ (∀ b o, s.heap.get? b = some o → h'.get? b = some o) ∧ s.heap.get? l = none ∧ PL h' l xs ∧ VRs (am.hold l) π h' vs xs

theorem NewL.push {am : Amb} {π : List Addr} {s : Shared} {vs : List V} {xs : List Value} {o : Obj} {n : Nat} {tk : Nat} (hv : VRs am π s.heap vs xs) (hc : o.cls = .type "list") (hdi : o.dict = none) (hd : o.data = .seq (List.toArray xs) n) :
    NewL am π s vs (.ref s.heap.objs.size) { s with heap := s.heap.push o, toks := tk } := by
  have k : ∀ b o', s.heap.get? b = some o' → (s.heap.push o).get? b = some o' := fun _ _ e => Heap.get?_push_of_some _ e
  exact ⟨_, xs, _, tk, rfl, rfl, k, size_none _, ⟨o, n, Heap.get?_push_size _ (Obj.isFreed_of_seq hd), hc, hdi, hd⟩, (hv.held (size_none _)).keeps k⟩

/-- a new list, told by value -/
theorem NewL.lst {am : Amb} {stack : List Env} {π : List Addr} {s s' : Shared} {Hc : H} {vs : List V} {x : Value} (hr : HR am stack π Hc s.heap) (hl : vs.length ≤ 1000000) (n : NewL am π s vs x s') :
    OkP am stack (VR am) π s (.ok (.lst vs) Hc) x s' := by
  refine hold fun _ k_ => ?_
  obtain ⟨l, xs, h', tk, rfl, rfl, k, h1, h2, h3⟩ := n
  refine k_ ?_
  refine OkP.keeps hr k ?_
  simp only [VR]
  exact ⟨_, xs, rfl, ⟨fresh_pi hr h1, fresh_res hr h1⟩, h2.is, hl, h3.reserve.2⟩

/-- a new list, as a cell -/
theorem NewL.cell {am : Amb} {stack : List Env} {π : List Addr} {s s' : Shared} {Hc : H} {vs : List V} {x : Value} (hr : HR am stack π Hc s.heap) (hl : vs.length ≤ 1000000) (n : NewL am π s vs x s') :
    OkP am stack (VR am) π s (.ok (.ref Hc.length) (Hc ++ [.list vs])) x s' := by
  refine hold fun _ k_ => ?_
  obtain ⟨l, xs, h', tk, rfl, rfl, k, h1, h2, h3⟩ := n
  refine k_ ?_
  have hp := fresh_pi hr h1
  have st : Step (Fs stack) π s (π ++ [l]) { s with heap := h', toks := tk } := ⟨⟨h', tk, rfl⟩, .of_keeps k, [l], rfl, fun a ha => by rw [List.mem_singleton.mp ha]; exact h1⟩
  have hr' := hr.keeps k
  refine ⟨_, _, π ++ [l], rfl, st, ⟨hr'.base, hr'.frames, by simp [hr.len], ?_, hr'.res, ?_, ?_⟩, ?_⟩
  · rw [List.nodup_append]
    exact ⟨hr.nodup, by simp, fun a ha b hb => by rw [List.mem_singleton.mp hb]; exact fun q => hp (q ▸ ha)⟩
  · intro a ha
    rcases List.mem_append.mp ha with ha | ha
    · exact hr.off a ha
    · rw [List.mem_singleton.mp ha]; exact ⟨none_of_stays hr.base h1, fresh_fs hr h1⟩
  · intro i c a hi ha
    by_cases hlt : i < Hc.length
    · rw [List.getElem?_append_left hlt] at hi
      rw [List.getElem?_append_left (by rw [hr.len]; exact hlt)] at ha
      have hc := hr.cell i c a hi ha
      cases c with
      | list ws => obtain ⟨ys, ⟨o, n, ho, q⟩, q2, q3⟩ := hc; exact ⟨ys, ⟨o, n, k _ _ ho, q⟩, q2, q3.step st⟩
      | dict es => exact hc
    · have hi' : i = Hc.length := by
        have := (List.getElem?_eq_some_iff.mp hi).1
        simp only [List.length_append, List.length_singleton] at this
        omega
      subst hi'
      simp only [List.getElem?_concat_length, Option.some.injEq] at hi
      rw [← hr.len] at ha
      simp only [List.getElem?_concat_length, Option.some.injEq] at ha
      subst hi ha
      exact ⟨xs, h2, hl, h3.reserve.1⟩
  · simp only [VR]
    exact ⟨l, rfl, by rw [← hr.len]; simp⟩

theorem OkP.lst {am : Amb} {stack : List Env} {π : List Addr} {s : Shared} {Hc : H} {vs : List V} {xs : List Value} {o : Obj} {n : Nat} {tk : Nat} (hr : HR am stack π Hc s.heap) (hv : VRs am π s.heap vs xs) (hl : vs.length ≤ 1000000)
    (hc : o.cls = .type "list") (hdi : o.dict = none) (hd : o.data = .seq (List.toArray xs) n) : OkP am stack (VR am) π s (.ok (.lst vs) Hc) (.ref s.heap.objs.size) { s with heap := s.heap.push o, toks := tk } :=
  (NewL.push hv hc hdi hd).lst hr hl
theorem OkP.tup {am : Amb} {stack : List Env} {π : List Addr} {s : Shared} {Hc : H} {vs : List V} {xs : List Value} {o : Obj} {n : Nat} {tk : Nat} (hr : HR am stack π Hc s.heap) (hv : VRs am π s.heap vs xs) (hl : vs.length ≤ 1000000)
    (hc : o.cls = .type "tuple") (hd : o.data = .seq (List.toArray xs) n) : OkP am stack (VR am) π s (.ok (.tup vs) Hc) (.ref s.heap.objs.size) { s with heap := s.heap.push o, toks := tk } := by
  have k : ∀ b o', s.heap.get? b = some o' → (s.heap.push o).get? b = some o' := fun _ _ e => Heap.get?_push_of_some _ e
  refine OkP.keeps hr k ?_
  simp only [VR]
  exact ⟨_, xs, rfl, ⟨fresh_pi hr (size_none _), fresh_res hr (size_none _)⟩, ⟨o, Heap.get?_push_size _ (Obj.isFreed_of_seq hd), hc, n, hd⟩, hl, hv.keeps k⟩

/-- a list's object, by value or a cell -/
theorem litems_at {am : Amb} {stack : List Env} {π : List Addr} {Hc : H} {h : Heap} (hr : HR am stack π Hc h) {v : V} {x : Value} {vs : List V} (e : VR am π h v x) (hi : litems Hc v = some vs) :
    ∃ l xs, x = .ref l ∧ h.IsList l (List.toArray xs) ∧ vs.length ≤ 1000000 ∧ VRs am π h vs xs := by
  cases v with
  | lst ws =>
    simp only [litems, Option.some.injEq] at hi; subst hi
    simp only [VR] at e
    refine hold fun _ k_ => ?_
    obtain ⟨a, xs, h1, _, h3, h4, h5⟩ := e
    refine k_ ?_
    exact ⟨a, xs, h1, h3, h4, h5⟩
  | ref i =>
    simp only [litems] at hi
    simp only [VR] at e
    obtain ⟨a, h1, h2⟩ := e
    split at hi
    · rename_i ws hw
      simp only [Option.some.injEq] at hi; subst hi
      refine hold fun _ k_ => ?_
      obtain ⟨xs, h3, h4, h5⟩ := hr.cell i _ a hw h2
      refine k_ ?_
      exact ⟨a, xs, h1, h3.is, h4, h5⟩
    · cases hi
  | _ => simp [litems] at hi

theorem mil_le_line : (1000000 : Nat) ≤ sizeLine := by decide

section
variable {am : Amb} {stack : List Env} {A : Around} {π : List Addr} {s : Shared} {Hc : H}

theorem seer (ok : AmbOK am) (st : StackOK stack) (hf : A.frames = some stack) (hr : HR am stack π Hc s.heap) : SeerAt am.M A s.heap := by
  refine hold fun _ k_ => ?_
  obtain ⟨e₀, outer, rfl, t⟩ := st
  refine k_ ?_
  exact SeerAt.of (ok.noseer.keeps hr.base) ok.tree hf t.gen t.co t.builtins t.globals

theorem op_add_int {x y : Int} {t u : Tok} (hr : HR am stack π Hc s.heap) : JAt am stack A (binaryOp .Add (.int x t) (.int y u)) (.ok (V.int (x + y)) Hc) (VR am) π s :=
  .inr (add_int (OkP.tok hr ⟨_, rfl⟩))
theorem op_sub_int {x y : Int} {t u : Tok} (hr : HR am stack π Hc s.heap) : JAt am stack A (binaryOp .Sub (.int x t) (.int y u)) (.ok (V.int (x - y)) Hc) (VR am) π s :=
  .inr (sub_int' (OkP.tok hr ⟨_, rfl⟩))

theorem bits_small {x : Int} (h : x.natAbs < 9223372036854775808) : Builtin.Int.intBits x ≤ 64 := by
  unfold Builtin.Int.intBits
  split
  · omega
  · rename_i h0
    have h1 : x.natAbs ≠ 0 := by simpa using h0
    have := (Nat.log2_lt h1 (k := 63)).mpr (by simpa using h)
    omega

theorem op_mul_int {x y : Int} {t u : Tok} (hr : HR am stack π Hc s.heap) (h : x.natAbs < 9223372036854775808 ∨ y.natAbs < 9223372036854775808) :
    JAt am stack A (binaryOp .Mult (.int x t) (.int y u)) (.ok (V.int (x * y)) Hc) (VR am) π s :=
  .inr (PyProof.Rows.mul_int (OkP.tok hr ⟨_, rfl⟩) (h.elim (fun h => .of_left (bits_small h)) fun h => .of_right (bits_small h)))
theorem op_mod_int {x y : Int} {t u : Tok} (hr : HR am stack π Hc s.heap) (h : y ≠ 0) :
    JAt am stack A (binaryOp .Mod (.int x t) (.int y u)) (.ok (V.int (x.fmod y)) Hc) (VR am) π s :=
  .inr (mod_int' h (OkP.tok hr ⟨_, rfl⟩))
theorem op_fdiv_int {n : Nat} {x y : Int} {t u : Tok} (ok : AmbOK am) (st : StackOK stack) (as : AS n stack A) (hr : HR am stack π Hc s.heap) (h : y ≠ 0) :
    JAt am stack A (binaryOp .FloorDiv (.int x t) (.int y u)) (.ok (V.int (x.fdiv y)) Hc) (VR am) π s :=
  .inr (floordiv_int h (OkP.tok hr ⟨_, rfl⟩) (.inr (PylongRoom.of (ok.nolimit.keeps hr.base) (by have := as.depth; show A.depth + 100 < 1000; omega) (seer ok st as.frames hr))))

theorem op_add_list {a b : V} {x y : Value} {vs ws : List V} (hr : HR am stack π Hc s.heap) (ha : VR am π s.heap a x) (hb : VR am π s.heap b y) (la : litems Hc a = some vs) (lb : litems Hc b = some ws) :
    JAt am stack A (binaryOp .Add x y) (R.opt (mkL (vs ++ ws)) Hc) (VR am) π s := by
  unfold mkL
  split
  · rename_i hle
    refine hold fun _ k_ => ?_
    obtain ⟨l, xs, rfl, hl, h1, h2⟩ := litems_at hr ha la
    refine k_ ?_
    refine hold fun _ k_ => ?_
    obtain ⟨l', ys, rfl, hl', h3, h4⟩ := litems_at hr hb lb
    refine k_ ?_
    refine hold fun _ k_ => ?_
    obtain ⟨⟨cls, dd, data, sl⟩, ho, hc, n, hd⟩ := hl
    refine k_ ?_
    refine hold fun _ k_ => ?_
    obtain ⟨⟨cls2, dd2, data2, sl2⟩, ho2, hc2, n2, hd2⟩ := hl'
    refine k_ ?_
    simp only at hc hd hc2 hd2
    subst hc hd hc2 hd2
    have hsz : (List.toArray xs).size + (List.toArray ys).size ≤ sizeLine := by
      have := mil_le_line
      have e1 := h2.len
      have e2 := h4.len
      simp only [List.length_append] at hle
      simp only [List.size_toArray]
      omega
    refine .inr (concat_meets ⟨_, ho, rfl⟩ ⟨_, ho2, rfl⟩ noFill_list_add seq_list_add PySem.F.slot_list_add PySem.F.entry_list_add (PySem.F.args_list_add_2 _ _) (list_addW l l' _ _ n n2 dd dd2 sl sl2 hsz) ⟨ho, ho2, ?_⟩)
    exact OkP.lst (xs := xs ++ ys) (n := 0) hr (h2.append h4) hle rfl rfl (by simp)
  · exact .inl rfl

theorem op_add_tup {x y : Value} {vs ws : List V} (hr : HR am stack π Hc s.heap) (ha : VR am π s.heap (.tup vs) x) (hb : VR am π s.heap (.tup ws) y) :
    JAt am stack A (binaryOp .Add x y) (R.opt (mkT (vs ++ ws)) Hc) (VR am) π s := by
  unfold mkT
  split
  · rename_i hle
    simp only [VR] at ha hb
    refine hold fun _ k_ => ?_
    obtain ⟨l, xs, rfl, hp, hl, h1, h2⟩ := ha
    refine k_ ?_
    refine hold fun _ k_ => ?_
    obtain ⟨l', ys, rfl, hp', hl', h3, h4⟩ := hb
    refine k_ ?_
    have hl0 := hl
    have hl0' := hl'
    refine hold fun _ k_ => ?_
    obtain ⟨⟨cls, dd, data, sl⟩, ho, hc, n, hd⟩ := hl
    refine k_ ?_
    refine hold fun _ k_ => ?_
    obtain ⟨⟨cls2, dd2, data2, sl2⟩, ho2, hc2, n2, hd2⟩ := hl'
    refine k_ ?_
    simp only at hc hd hc2 hd2
    subst hc hd hc2 hd2
    have hsz : (List.toArray xs).size + (List.toArray ys).size ≤ sizeLine := by
      have := mil_le_line
      have e1 := h2.len
      have e2 := h4.len
      simp only [List.length_append] at hle
      simp only [List.size_toArray]
      omega
    refine .inr ?_
    by_cases hv : xs = []
    · refine concat_meets ⟨_, ho, rfl⟩ ⟨_, ho2, rfl⟩ noFill_tuple_add seq_tuple_add PySem.F.slot_tuple_add PySem.F.entry_tuple_add (PySem.F.args_tuple_add_2 _ _)
        (tuple_addW0 l l' _ _ n n2 dd dd2 sl sl2 (by simp [hv])) ⟨ho, ho2, OkP.here hr ?_⟩
      have : vs = [] := by have := h2.len; rw [hv] at this; exact List.eq_nil_of_length_eq_zero this.symm
      subst this
      simp only [List.nil_append, VR]
      exact ⟨l', ys, rfl, hp', hl0', h3, h4⟩
    · by_cases hw : ys = []
      · refine concat_meets ⟨_, ho, rfl⟩ ⟨_, ho2, rfl⟩ noFill_tuple_add seq_tuple_add PySem.F.slot_tuple_add PySem.F.entry_tuple_add (PySem.F.args_tuple_add_2 _ _)
          (tuple_addW1 l l' _ _ n n2 dd dd2 sl sl2 (by simpa using hv) (by simp [hw])) ⟨ho, ho2, OkP.here hr ?_⟩
        have : ws = [] := by have := h4.len; rw [hw] at this; exact List.eq_nil_of_length_eq_zero this.symm
        subst this
        simp only [List.append_nil, VR]
        exact ⟨l, xs, rfl, hp, hl0, h1, h2⟩
      · refine concat_meets ⟨_, ho, rfl⟩ ⟨_, ho2, rfl⟩ noFill_tuple_add seq_tuple_add PySem.F.slot_tuple_add PySem.F.entry_tuple_add (PySem.F.args_tuple_add_2 _ _)
          (tuple_addW2 l l' _ _ n n2 dd dd2 sl sl2 (by simpa using hv) (by simpa using hw) hsz) ⟨ho, ho2, ?_⟩
        exact OkP.tup (xs := xs ++ ys) (n := 0) hr (h2.append h4) hle rfl (by simp)
  · exact .inl rfl

theorem foldl_rep (xs : List Value) : ∀ (n : Nat) (acc : Array Value), (List.foldl (fun x1 x2 => x1 ++ x2) acc (List.replicate n (List.toArray xs))) = acc ++ List.toArray (List.replicate n xs).flatten
  | 0, acc => by simp
  | n + 1, acc => by
    rw [List.replicate_succ, List.foldl_cons, foldl_rep xs n, List.replicate_succ, List.flatten_cons]
    simp

theorem rep_len {α : Type} (vs : List α) (n : Int) : (rep vs n).length = n.toNat * vs.length := by simp [rep]

theorem wp_mul_list {a : V} {x : Value} {vs : List V} {k : Int} {u : Tok} {Q : Value → Shared → Prop} {E : Value → Shared → Prop} (hr : HR am stack π Hc s.heap) (ha : VR am π s.heap a x) (la : litems Hc a = some vs) (hk : k < 1000000 ∧ -1000000 < k) (hle : (rep vs k).length ≤ 1000000)
    (h : ∀ y s', NewL am π s (rep vs k) y s' → Q y s') : wpAny am.M A (binaryOp .Mult x (.int k u)) Q E s := by
  refine hold fun _ k_ => ?_
  obtain ⟨l, xs, rfl, hl, h1, h2⟩ := litems_at hr ha la
  refine k_ ?_
  refine hold fun _ k_ => ?_
  obtain ⟨⟨cls, dd, data, sl⟩, ho, hc, n, hd⟩ := hl
  refine k_ ?_
  simp only at hc hd
  subst hc hd
  have e1 := h2.len
  rw [rep_len] at hle
  have hsz : (List.toArray xs).size * k.toNat ≤ 1000000 := by rw [List.size_toArray, e1, Nat.mul_comm]; exact hle
  refine wpAny_binaryOp_repeat_ref (T := "list") (U := "int") (by decide) ⟨_, ho, rfl⟩ (fun s' => typeIs_int s' k u) noFill_list_mul PySem.F.fills_int_mul PySem.F.slot_int_rmul repeat_list PySem.F.slot_int_index.lookup
    (call_meets PySem.F.slot_int_rmul (typeIs_int s k u) PySem.F.entry_int_rmul (PySem.F.args_int_rmul_2 _ _) (lm_int_rmul_list_any k u l _ n dd sl)
      ⟨ho, rfl, ⟨_, ho, rfl⟩, call_meets PySem.F.slot_list_mul ⟨_, ho, rfl⟩ PySem.F.entry_list_mul (PySem.F.args_list_mul_2 _ _)
        (lm_list_mul_any l _ n dd sl k u (by simp [Builtin.List.listFitsIndex]; omega) (by omega) (by simp [Builtin.List.listTooLong, sizeLine]; simp only [List.size_toArray] at hsz; omega)) ⟨ho, ?_⟩⟩)
  rw [foldl_rep]
  refine h _ _ (NewL.push (xs := (List.replicate k.toNat xs).flatten) (n := 0) (VRs.flatten h2 _) rfl rfl ?_)
  simp only [Array.empty_append, List.isEmpty_toArray]
  by_cases hx : xs = []
  · subst hx; simp
  · rw [if_neg (by simpa using hx)]

theorem op_mul_list {a : V} {x : Value} {vs : List V} {k : Int} {u : Tok} (hr : HR am stack π Hc s.heap) (ha : VR am π s.heap a x) (la : litems Hc a = some vs) (hk : k < 1000000 ∧ -1000000 < k) :
    JAt am stack A (binaryOp .Mult x (.int k u)) (R.opt (mkL (rep vs k)) Hc) (VR am) π s := by
  unfold mkL
  split
  · rename_i hle
    exact .inr (wp_mul_list hr ha la hk hle fun y s' n => n.lst hr hle)
  · exact .inl rfl
end

end Mine

namespace Mine
open PySem PySem.W PyProof.Rows PySem.SeqAt

mutual
noncomputable def toD : V → PyData
  | .undef => .none
  | .none => .none
  | .bool b => .bool b
  | .int i => .int i
  | .str s => .str (Str.ofString s)
  | .tup vs => .tuple (toDs vs)
  | .lst vs => .list (toDs vs)
  | .ref _ => .none
  | .exc _ => .none
  | .dct => .none
noncomputable def toDs : List V → List PyData
  | [] => []
  | v :: vs => toD v :: toDs vs
end

theorem ofString_inj {a b : String} (h : Str.ofString a = Str.ofString b) : a = b := by
  unfold Str.ofString at h
  injection h with h
  have h := congrArg Array.toList h
  simp only at h
  rw [cpsOfBytes_string, cpsOfBytes_string] at h
  have h2 : a.toList = b.toList := List.map_inj_right (fun x y e => by
    have := Char.ext (UInt32.toNat_inj.mp e); exact this) |>.mp h
  exact String.toList_inj.mp h2

theorem ofString_beq (a b : String) : (Str.ofString a == Str.ofString b) = (a == b) := by
  by_cases h : a = b
  · subst h; simp
  · rw [beq_eq_false_iff_ne.mpr h]
    exact beq_eq_false_iff_ne.mpr fun e => h (ofString_inj e)

theorem strOk_of (s : String) : PyData.strOk (Str.ofString s) = true := by
  unfold PyData.strOk Str.ofString
  rw [← Array.all_toList]
  simp only [cpsOfBytes_string, List.all_map, List.all_eq_true]
  intro c _
  have h := c.valid
  simp only [UInt32.isValidChar, Nat.isValidChar] at h
  show decide (c.val.toNat < _) = true
  simp only [decide_eq_true_eq]
  omega

mutual
theorem eqv_toD : ∀ (n : Nat) (a b : V), V.ok n a = true → V.ok n b = true → PyData.eqv (toD a) (toD b) = peq a b
  | 0, a, b, h, _ => by simp [V.ok] at h
  | n + 1, .undef, b, h, _ => by simp [V.ok] at h
  | n + 1, .exc _, b, h, _ => by simp [V.ok] at h
  | n + 1, .ref _, b, h, _ => by simp [V.ok] at h
  | n + 1, .dct, b, h, _ => by simp [V.ok] at h
  | n + 1, .none, b, _, h => by cases b <;> first | rfl | simp [V.ok] at h
  | n + 1, .bool _, b, _, h => by cases b <;> first | rfl | simp [V.ok] at h
  | n + 1, .int _, b, _, h => by cases b <;> first | rfl | simp [V.ok] at h
  | n + 1, .str x, b, _, h => by
    cases b <;> first | rfl | (simp [V.ok] at h; done) | skip
    rename_i y
    simp only [toD, PyData.eqv, peq_none, peq_bool, peq_int, peq_str, peq_tup, peq_lst, ofString_beq]
  | n + 1, .tup vs, b, h, h' => by
    cases b <;> first | rfl | (simp [V.ok] at h'; done) | skip
    rename_i ws
    simp only [V.ok] at h h'
    simp only [toD, PyData.eqv, peq_none, peq_bool, peq_int, peq_str, peq_tup, peq_lst]
    exact eqvs_toD n vs ws h h'
  | n + 1, .lst vs, b, h, h' => by
    cases b <;> first | rfl | (simp [V.ok] at h'; done) | skip
    rename_i ws
    simp only [V.ok] at h h'
    simp only [toD, PyData.eqv, peq_none, peq_bool, peq_int, peq_str, peq_tup, peq_lst]
    exact eqvs_toD n vs ws h h'
theorem eqvs_toD : ∀ (n : Nat) (a b : List V), a.all (V.ok n) = true → b.all (V.ok n) = true → PyData.eqvAll (toDs a) (toDs b) = peqs a b
  | n, [], [], _, _ => rfl
  | n, [], _ :: _, _, _ => rfl
  | n, _ :: _, [], _, _ => rfl
  | n, a :: as, b :: bs, h, h' => by
    simp only [List.all_cons, Bool.and_eq_true] at h h'
    simp only [toDs, PyData.eqvAll, peqs_cons, eqv_toD n a b h.1 h'.1, eqvs_toD n as bs h.2 h'.2]
end

mutual
theorem canLay_toD : ∀ (n : Nat) (a : V), V.ok n a = true → (toD a).canLay0 = true ∧ (toD a).depth ≤ n
  | 0, a, h => by simp [V.ok] at h
  | n + 1, .undef, h => by simp [V.ok] at h
  | n + 1, .exc _, h => by simp [V.ok] at h
  | n + 1, .ref _, h => by simp [V.ok] at h
  | n + 1, .dct, h => by simp [V.ok] at h
  | n + 1, .none, _ => ⟨rfl, by simp [toD, PyData.depth]⟩
  | n + 1, .bool _, _ => ⟨rfl, by simp [toD, PyData.depth]⟩
  | n + 1, .int _, _ => ⟨rfl, by simp [toD, PyData.depth]⟩
  | n + 1, .str x, _ => ⟨by simp only [toD, PyData.canLay0]; exact strOk_of x, by simp [toD, PyData.depth]⟩
  | n + 1, .tup vs, h => by
    simp only [V.ok] at h
    have := canLays_toD n vs h
    simp only [toD, PyData.canLay0, PyData.depth]
    exact ⟨this.1, by omega⟩
  | n + 1, .lst vs, h => by
    simp only [V.ok] at h
    have := canLays_toD n vs h
    simp only [toD, PyData.canLay0, PyData.depth]
    exact ⟨this.1, by omega⟩
theorem canLays_toD : ∀ (n : Nat) (a : List V), a.all (V.ok n) = true → PyData.canLayAll0 (toDs a) = true ∧ PyData.depthAll (toDs a) ≤ n
  | n, [], _ => ⟨rfl, by simp [toDs, PyData.depthAll]⟩
  | n, a :: as, h => by
    simp only [List.all_cons, Bool.and_eq_true] at h
    have h1 := canLay_toD n a h.1
    have h2 := canLays_toD n as h.2
    simp only [toDs, PyData.canLayAll0, PyData.depthAll, Bool.and_eq_true]
    exact ⟨⟨h1.1, h2.1⟩, by omega⟩
end

theorem shaped_toD {a : V} (h : V.ok 8 a = true) : shaped (toD a) = true := by
  have := canLay_toD 8 a h
  unfold shaped
  rw [this.1]
  simp only [Bool.true_and, decide_eq_true_eq]
  omega

/-- g tells of each cell by value what the heap bears there -/
noncomputable def Tells (am : Amb) (π : List Addr) (h : Heap) (g : Nat → Option V) : Prop :=
  ∀ (i : Nat) (a : Addr) (v' : V), π[i]? = some a → g i = some v' → ∀ n, V.ok n v' = true → ∃ as, Reads h (.ref a) (toD v') as

mutual
theorem reads_mapRef {am : Amb} {π : List Addr} {h : Heap} {g : Nat → Option V} (T : Tells am π h g) : ∀ (v : V) (x : Value) (v' : V) (n : Nat), VR am π h v x → V.mapRef g v = some v' → V.ok n v' = true → ∃ as, Reads h x (toD v') as
  | v, x, v', 0, _, _, h3 => by simp [V.ok] at h3
  | .undef, x, v', n + 1, h1, _, _ => by simp [VR] at h1
  | .exc _, x, v', n + 1, h1, _, _ => by simp [VR] at h1
  | .dct, x, v', n + 1, _, h2, h3 => by simp only [V.mapRef, Option.some.injEq] at h2; subst h2; simp [V.ok] at h3
  | .none, x, v', n + 1, h1, h2, _ => by
    simp only [V.mapRef, Option.some.injEq] at h2; subst h2; simp only [VR] at h1; subst h1; exact ⟨[], .none⟩
  | .bool _, x, v', n + 1, h1, h2, _ => by
    simp only [V.mapRef, Option.some.injEq] at h2; subst h2; simp only [VR] at h1; subst h1; exact ⟨[], .bool _⟩
  | .int _, x, v', n + 1, h1, h2, _ => by
    simp only [V.mapRef, Option.some.injEq] at h2; subst h2; simp only [VR] at h1; obtain ⟨t, rfl⟩ := h1; exact ⟨[], .int _ t⟩
  | .str _, x, v', n + 1, h1, h2, _ => by
    simp only [V.mapRef, Option.some.injEq] at h2; subst h2; simp only [VR] at h1; obtain ⟨t, rfl⟩ := h1; exact ⟨[], .str _ t⟩
  | .ref i, x, v', n + 1, h1, h2, h3 => by
    simp only [V.mapRef] at h2
    simp only [VR] at h1
    obtain ⟨a, rfl, ha⟩ := h1
    exact T i a v' ha h2 _ h3
  | .tup vs, x, v', n + 1, h1, h2, h3 => by
    simp only [V.mapRef, Option.map_eq_some_iff] at h2
    obtain ⟨vs', h2, rfl⟩ := h2
    simp only [VR] at h1
    refine hold fun _ k_ => ?_
    obtain ⟨a, xs, rfl, _, ⟨o, ho, hc, m, hd⟩, _, h5⟩ := h1
    refine k_ ?_
    simp only [V.ok] at h3
    obtain ⟨as, h6⟩ := reads_mapRefs T vs xs vs' n h5 h2 h3
    exact ⟨as, .tuple ho hc hd (by simpa using h6)⟩
  | .lst vs, x, v', n + 1, h1, h2, h3 => by
    simp only [V.mapRef, Option.map_eq_some_iff] at h2
    obtain ⟨vs', h2, rfl⟩ := h2
    simp only [VR] at h1
    refine hold fun _ k_ => ?_
    obtain ⟨a, xs, rfl, _, ⟨o, ho, hc, m, hd⟩, _, h5⟩ := h1
    refine k_ ?_
    simp only [V.ok] at h3
    obtain ⟨as, h6⟩ := reads_mapRefs T vs xs vs' n h5 h2 h3
    exact ⟨a :: as, .list ho hc hd (by simpa using h6)⟩
theorem reads_mapRefs {am : Amb} {π : List Addr} {h : Heap} {g : Nat → Option V} (T : Tells am π h g) : ∀ (vs : List V) (xs : List Value) (vs' : List V) (n : Nat), VRs am π h vs xs → V.mapRefs g vs = some vs' → vs'.all (V.ok n) = true → ∃ as, ReadsAll h xs (toDs vs') as
  | [], xs, vs', n, h1, h2, _ => by
    simp only [V.mapRefs, Option.some.injEq] at h2; subst h2
    simp only [VRs] at h1; subst h1
    exact ⟨[], .nil⟩
  | v :: vs, xs, vs', n, h1, h2, h3 => by
    simp only [V.mapRefs, Option.bind_eq_some_iff, Option.map_eq_some_iff] at h2
    refine hold fun _ k_ => ?_
    obtain ⟨v', h2, ws, h4, rfl⟩ := h2
    refine k_ ?_
    simp only [VRs] at h1
    refine hold fun _ k_ => ?_
    obtain ⟨x, xs', rfl, h5, h6⟩ := h1
    refine k_ ?_
    simp only [List.all_cons, Bool.and_eq_true] at h3
    obtain ⟨as, h7⟩ := reads_mapRef T v x v' n h5 h2 h3.1
    obtain ⟨bs, h8⟩ := reads_mapRefs T vs xs' ws n h6 h4 h3.2
    exact ⟨as ++ bs, .cons h7 h8⟩
end

theorem tells_frzAt {am : Amb} {stack : List Env} {π : List Addr} {Hc : H} {h : Heap} (hr : HR am stack π Hc h) : ∀ k : Nat, Tells am π h (frzAt k 0 Hc)
  | 0 => fun i a v' _ hg => by simp [frzAt] at hg
  | k + 1 => fun i a v' hi hg n hn => by
    simp only [frzAt, Nat.not_lt_zero, if_false] at hg
    split at hg
    · rename_i vs hc
      simp only [Option.map_eq_some_iff] at hg
      obtain ⟨vs', h1, rfl⟩ := hg
      refine hold fun _ k_ => ?_
      obtain ⟨xs, ⟨o, m, ho, hcl, _, hd⟩, _, h3⟩ := hr.cell i _ a hc hi
      refine k_ ?_
      cases n with
      | zero => simp [V.ok] at hn
      | succ n =>
        simp only [V.ok] at hn
        obtain ⟨as, h6⟩ := reads_mapRefs (tells_frzAt hr k) vs xs vs' n h3 h1 hn
        exact ⟨a :: as, .list ho hcl hd (by simpa using h6)⟩
    · cases hg

section
variable {am : Amb} {stack : List Env} {A : Around} {π : List Addr} {s : Shared} {Hc : H}

theorem reads_frz (hr : HR am stack π Hc s.heap) {v v' : V} {x : Value} (h1 : VR am π s.heap v x) (h2 : frz 0 Hc v = some v') (h3 : V.ok 8 v' = true) : ∃ as, Reads s.heap x (toD v') as :=
  reads_mapRef (tells_frzAt hr 4) v x v' 8 h1 h2 h3

theorem op_eq {n : Nat} {a b : V} {x y : Value} (as : AS n stack A) (hr : HR am stack π Hc s.heap) (ha : VR am π s.heap a x) (hb : VR am π s.heap b y) :
    JAt am stack A (compareOp .Eq x y) (R.opt ((pyEq Hc a b).map V.bool) Hc) (VR am) π s := by
  unfold pyEq
  cases h1 : frz 0 Hc a with
  | none => exact .inl rfl
  | some a' =>
    cases h2 : frz 0 Hc b with
    | none => exact .inl rfl
    | some b' =>
      simp only
      split
      · rename_i h
        simp only [Bool.and_eq_true] at h
        obtain ⟨_, r1⟩ := reads_frz hr ha h1 h.1
        obtain ⟨_, r2⟩ := reads_frz hr hb h2 h.2
        refine .inr (compareEq_shaped r1 r2 (shaped_toD h.1) (shaped_toD h.2) (by have := as.units; show A.units + 64 < 9900; omega) ?_)
        rw [eqv_toD 8 a' b' h.1 h.2]
        exact OkP.here hr rfl
      · exact .inl rfl

theorem op_ne {n : Nat} {a b : V} {x y : Value} (as : AS n stack A) (hr : HR am stack π Hc s.heap) (ha : VR am π s.heap a x) (hb : VR am π s.heap b y) :
    JAt am stack A (compareOp .NotEq x y) (R.opt (((pyEq Hc a b).map (!·)).map V.bool) Hc) (VR am) π s := by
  unfold pyEq
  cases h1 : frz 0 Hc a with
  | none => exact .inl rfl
  | some a' =>
    cases h2 : frz 0 Hc b with
    | none => exact .inl rfl
    | some b' =>
      simp only
      split
      · rename_i h
        simp only [Bool.and_eq_true] at h
        obtain ⟨_, r1⟩ := reads_frz hr ha h1 h.1
        obtain ⟨_, r2⟩ := reads_frz hr hb h2 h.2
        refine .inr (compareNe_shaped r1 r2 (shaped_toD h.1) (shaped_toD h.2) (by have := as.units; show A.units + 64 < 9900; omega) ?_)
        rw [eqv_toD 8 a' b' h.1 h.2]
        exact OkP.here hr rfl
      · exact .inl rfl


theorem any_toD {n : Nat} {vs : List V} {a : V} (h : vs.all (V.ok n) = true) (ha : V.ok n a = true) : ((toDs vs).any fun y => PyData.eqv y (toD a)) = vs.any fun y => peq y a := by
  induction vs with
  | nil => rfl
  | cons v vs ih =>
    simp only [List.all_cons, Bool.and_eq_true] at h
    simp only [toDs, List.any_cons, eqv_toD n v a h.1 ha, ih h.2]

theorem ok_mono : ∀ (n : Nat) (v : V), V.ok n v = true → V.ok (n + 1) v = true
  | 0, v, h => by simp [V.ok] at h
  | n + 1, v, h => by
    unfold V.ok at h ⊢
    cases v <;> simp only at h ⊢ <;> first | exact h | (simp only [List.all_eq_true] at h ⊢; exact fun x hx => ok_mono n x (h x hx))

/-- in a list or a tuple -/
theorem op_isIn {n : Nat} {a b : V} {x y : Value} (as : AS n stack A) (hr : HR am stack π Hc s.heap) (ha : VR am π s.heap a x) (hb : VR am π s.heap b y) :
    JAt am stack A (compareOp .In x y) (R.opt ((isIn Hc a b).map V.bool) Hc) (VR am) π s ∧ JAt am stack A (compareOp .NotIn x y) (R.opt (((isIn Hc a b).map (!·)).map V.bool) Hc) (VR am) π s := by
  unfold isIn
  cases h1 : frz 0 Hc a with
  | none => exact ⟨.inl rfl, .inl rfl⟩
  | some a' =>
    cases h2 : frz 0 Hc b with
    | none => exact ⟨.inl rfl, .inl rfl⟩
    | some b' =>
      simp only
      split
      · rename_i h
        simp only [Bool.and_eq_true] at h
        obtain ⟨_, r1⟩ := reads_frz hr ha h1 h.1
        obtain ⟨_, r2⟩ := reads_frz hr hb h2 h.2
        have hu : A.units + 100 < cLine := by have := as.units; show A.units + 100 < 9900; omega
        have ca := canLay_toD 8 a' h.1
        have key : ∀ vs : List V, vs.all (V.ok 7) = true → PyData.canLayAll0 (toDs vs) = true ∧ A.units + 1 + min (PyData.depthAll (toDs vs)) (toD a').depth < cLine ∧ ((toDs vs).any fun y => PyData.eqv y (toD a')) = vs.any fun y => peq y a' := fun vs hv => by
          have := canLays_toD 7 vs hv
          refine ⟨this.1, by omega, any_toD (n := 8) (by simp only [List.all_eq_true] at hv ⊢; exact fun x hx => ok_mono 7 x (hv x hx)) h.1⟩
        cases b' with
        | lst vs =>
          have hv : vs.all (V.ok 7) = true := h.2
          obtain ⟨k1, k2, k3⟩ := key vs hv
          refine ⟨.inr (in_list_reads (c := y) (xs := toDs vs) r2 r1 k1 ca.1 k2 ?_), .inr (notIn_list_reads (c := y) (xs := toDs vs) r2 r1 k1 ca.1 k2 ?_)⟩
          · rw [k3]; exact OkP.here hr rfl
          · rw [k3]; exact OkP.here hr rfl
        | tup vs =>
          have hv : vs.all (V.ok 7) = true := h.2
          obtain ⟨k1, k2, k3⟩ := key vs hv
          refine ⟨.inr (in_tuple_reads (c := y) (xs := toDs vs) r2 r1 k1 ca.1 k2 ?_), .inr (notIn_tuple_reads (c := y) (xs := toDs vs) r2 r1 k1 ca.1 k2 ?_)⟩
          · rw [k3]; exact OkP.here hr rfl
          · rw [k3]; exact OkP.here hr rfl
        | _ => exact ⟨.inl rfl, .inl rfl⟩
      · exact ⟨.inl rfl, .inl rfl⟩

theorem ne_none {v : V} {x : Value} (h : VR am π s.heap v x) (hv : v ≠ .none) : (x == Value.none) = false := by
  cases v <;> simp only [VR] at h <;> first | exact h.elim | exact absurd rfl hv | skip
  · subst h; rfl
  · obtain ⟨t, rfl⟩ := h; rfl
  · obtain ⟨t, rfl⟩ := h; rfl
  · obtain ⟨a, xs, rfl, _⟩ := h; rfl
  · obtain ⟨a, xs, rfl, _⟩ := h; rfl
  · obtain ⟨a, rfl, _⟩ := h; rfl
  · obtain ⟨a, _, _, _, rfl, _⟩ := h; rfl

theorem op_is {a b : V} {x y : Value} (hr : HR am stack π Hc s.heap) (ha : VR am π s.heap a x) (hb : VR am π s.heap b y) :
    JAt am stack A (compareOp .Is x y) (R.opt ((pyIs a b).map V.bool) Hc) (VR am) π s ∧ JAt am stack A (compareOp .IsNot x y) (R.opt (((pyIs a b).map (!·)).map V.bool) Hc) (VR am) π s := by
  unfold pyIs
  cases b with
  | none =>
    simp only [VR] at hb; subst hb
    by_cases hv : a = .none
    · subst hv
      simp only [VR] at ha; subst ha
      exact ⟨.inr (is_none (OkP.here hr rfl)), .inr (isNot_none (OkP.here hr rfl))⟩
    · have e := ne_none ha hv
      have key : JAt am stack A (compareOp .Is x Value.none) (R.ok (V.bool false) Hc) (VR am) π s ∧ JAt am stack A (compareOp .IsNot x Value.none) (R.ok (V.bool true) Hc) (VR am) π s := by
        refine ⟨.inr (is_none ?_), .inr (isNot_none ?_)⟩
        · rw [e]; exact OkP.here hr rfl
        · rw [e]; exact OkP.here hr rfl
      cases a <;> first | exact key | exact absurd rfl hv | exact ⟨.inl rfl, .inl rfl⟩
  | bool y' =>
    simp only [VR] at hb; subst hb
    cases a with
    | bool x' =>
      simp only [VR] at ha; subst ha
      have e : (Value.bool x' == Value.bool y') = (x' == y') := by cases x' <;> cases y' <;> rfl
      refine ⟨.inr (wpAny_is_plain (by cases x' <;> cases y' <;> rfl) ?_), .inr ?_⟩
      · rw [e]; exact OkP.here hr rfl
      · refine wpAny_isNot_plain (by cases x' <;> cases y' <;> rfl) ?_
        rw [e]; exact OkP.here hr rfl
    | _ => exact ⟨.inl rfl, .inl rfl⟩
  | _ => exact ⟨.inl rfl, .inl rfl⟩

theorem le_not_lt (a b : Int) : decide (a ≤ b) = !decide (b < a) := by
  rw [← decide_not]; exact decide_eq_decide.mpr (by omega)

theorem op_lt {a b : V} {x y : Value} (hr : HR am stack π Hc s.heap) (ha : VR am π s.heap a x) (hb : VR am π s.heap b y) :
    JAt am stack A (compareOp .Lt x y) (R.opt ((pyLt a b).map V.bool) Hc) (VR am) π s := by
  unfold pyLt
  split
  · simp only [VR] at ha hb; obtain ⟨_, rfl⟩ := ha; obtain ⟨_, rfl⟩ := hb
    exact .inr (lt_int (OkP.here hr rfl))
  · exact .inl rfl
theorem op_gt {a b : V} {x y : Value} (hr : HR am stack π Hc s.heap) (ha : VR am π s.heap a x) (hb : VR am π s.heap b y) :
    JAt am stack A (compareOp .Gt x y) (R.opt ((pyLt b a).map V.bool) Hc) (VR am) π s := by
  unfold pyLt
  split
  · simp only [VR] at ha hb; obtain ⟨_, rfl⟩ := ha; obtain ⟨_, rfl⟩ := hb
    exact .inr (gt_int (OkP.here hr rfl))
  · exact .inl rfl
theorem op_le {a b : V} {x y : Value} (hr : HR am stack π Hc s.heap) (ha : VR am π s.heap a x) (hb : VR am π s.heap b y) :
    JAt am stack A (compareOp .LtE x y) (R.opt (((pyLt b a).map (!·)).map V.bool) Hc) (VR am) π s := by
  unfold pyLt
  split
  · simp only [VR] at ha hb; obtain ⟨_, rfl⟩ := ha; obtain ⟨_, rfl⟩ := hb
    exact .inr (PyProof.Rows.le_int (OkP.here hr (congrArg Value.bool (le_not_lt _ _))))
  · exact .inl rfl
theorem op_ge {a b : V} {x y : Value} (hr : HR am stack π Hc s.heap) (ha : VR am π s.heap a x) (hb : VR am π s.heap b y) :
    JAt am stack A (compareOp .GtE x y) (R.opt (((pyLt a b).map (!·)).map V.bool) Hc) (VR am) π s := by
  unfold pyLt
  split
  · simp only [VR] at ha hb; obtain ⟨_, rfl⟩ := ha; obtain ⟨_, rfl⟩ := hb
    exact .inr (PyProof.Rows.ge_int (OkP.here hr (congrArg Value.bool (le_not_lt _ _))))
  · exact .inl rfl

end

end Mine

namespace Mine
open PySem PySem.W PyProof.Rows

section
variable {am : Amb} {stack : List Env} {A : Around} {π : List Addr} {s : Shared} {Hc : H}

theorem op_pow {t u : Tok} (hr : HR am stack π Hc s.heap) : JAt am stack A (binaryOp .Pow (.int 10 t) (.int 20 u)) (.ok (V.int 100000000000000000000) Hc) (VR am) π s :=
  .inr (pow_int (by decide) (by decide +kernel) (OkP.tok hr ⟨_, rfl⟩))

theorem op_bin {n : Nat} {op : Bop} {a b : V} {x y : Value} (ok : AmbOK am) (st : StackOK stack) (as : AS n stack A) (hr : HR am stack π Hc s.heap) (ha : VR am π s.heap a x) (hb : VR am π s.heap b y) :
    JAt am stack A (binaryOp (bopM op) x y) (R.opt (pyBin op Hc a b) Hc) (VR am) π s := by
  cases op with
  | add =>
    show JAt _ _ _ _ (R.opt (pyAdd Hc a b) Hc) _ _ _
    rcases pyAdd_cases Hc a b with h | ⟨i, j, rfl, rfl⟩ | ⟨us, ws, rfl, rfl⟩ | ⟨us, ws, h1, h2, h⟩
    · rw [h]; exact .inl rfl
    · simp only [VR] at ha hb; obtain ⟨_, rfl⟩ := ha; obtain ⟨_, rfl⟩ := hb; exact op_add_int hr
    · exact op_add_tup hr ha hb
    · rw [h]; exact op_add_list hr ha hb h1 h2
  | sub =>
    rcases int2_cases (fun x y => some (V.int (x - y))) a b with h | ⟨i, j, rfl, rfl⟩
    · show JAt _ _ _ _ (R.opt (int2 (fun x y => some (V.int (x - y))) a b) Hc) _ _ _
      rw [h]; exact .inl rfl
    · simp only [VR] at ha hb; obtain ⟨_, rfl⟩ := ha; obtain ⟨_, rfl⟩ := hb; exact op_sub_int hr
  | mul =>
    show JAt _ _ _ _ (R.opt (pyMul Hc a b) Hc) _ _ _
    rcases pyMul_cases Hc a b with h | ⟨i, j, rfl, rfl⟩ | ⟨k, rfl, h⟩
    · rw [h]; exact .inl rfl
    · simp only [VR] at ha hb; obtain ⟨_, rfl⟩ := ha; obtain ⟨_, rfl⟩ := hb
      show JAt _ _ _ _ (R.opt (if i.natAbs < 9223372036854775808 ∨ j.natAbs < 9223372036854775808 then some (V.int (i * j)) else Option.none) Hc) _ _ _
      split
      · rename_i h; exact op_mul_int hr h
      · exact .inl rfl
    · rw [h]
      split
      · rename_i hk
        simp only [VR] at hb
        obtain ⟨u, rfl⟩ := hb
        cases h1 : litems Hc a with
        | none => exact .inl rfl
        | some vs => exact op_mul_list hr ha h1 ⟨hk.2, hk.1⟩
      · exact .inl rfl
  | fdiv =>
    show JAt _ _ _ _ (R.opt (int2 (fun x y => if y = 0 then Option.none else some (V.int (x.fdiv y))) a b) Hc) _ _ _
    rcases int2_cases (fun x y => if y = 0 then Option.none else some (V.int (x.fdiv y))) a b with h | ⟨i, j, rfl, rfl⟩
    · rw [h]; exact .inl rfl
    · simp only [VR] at ha hb; obtain ⟨_, rfl⟩ := ha; obtain ⟨_, rfl⟩ := hb
      show JAt _ _ _ _ (R.opt (if j = 0 then Option.none else some (V.int (i.fdiv j))) Hc) _ _ _
      split
      · exact .inl rfl
      · rename_i h; exact op_fdiv_int ok st as hr h
  | mod =>
    show JAt _ _ _ _ (R.opt (int2 (fun x y => if y = 0 then Option.none else some (V.int (x.fmod y))) a b) Hc) _ _ _
    rcases int2_cases (fun x y => if y = 0 then Option.none else some (V.int (x.fmod y))) a b with h | ⟨i, j, rfl, rfl⟩
    · rw [h]; exact .inl rfl
    · simp only [VR] at ha hb; obtain ⟨_, rfl⟩ := ha; obtain ⟨_, rfl⟩ := hb
      show JAt _ _ _ _ (R.opt (if j = 0 then Option.none else some (V.int (i.fmod j))) Hc) _ _ _
      split
      · exact .inl rfl
      · rename_i h; exact op_mod_int hr h
  | pow =>
    show JAt _ _ _ _ (R.opt (int2 (fun x y => if x = 10 ∧ y = 20 then some (V.int 100000000000000000000) else Option.none) a b) Hc) _ _ _
    rcases int2_cases (fun x y => if x = 10 ∧ y = 20 then some (V.int 100000000000000000000) else Option.none) a b with h | ⟨i, j, rfl, rfl⟩
    · rw [h]; exact .inl rfl
    · simp only [VR] at ha hb; obtain ⟨_, rfl⟩ := ha; obtain ⟨_, rfl⟩ := hb
      show JAt _ _ _ _ (R.opt (if i = 10 ∧ j = 20 then some (V.int 100000000000000000000) else Option.none) Hc) _ _ _
      split
      · rename_i h; obtain ⟨rfl, rfl⟩ := h; exact op_pow hr
      · exact .inl rfl

theorem op_pyIn {n : Nat} {a b : V} {x y : Value} (as : AS n stack A) (hr : HR am stack π Hc s.heap) (ha : VR am π s.heap a x) (hb : VR am π s.heap b y) :
    JAt am stack A (compareOp .In x y) (R.opt ((pyIn Hc a b).map V.bool) Hc) (VR am) π s ∧ JAt am stack A (compareOp .NotIn x y) (R.opt (((pyIn Hc a b).map (!·)).map V.bool) Hc) (VR am) π s := by
  unfold pyIn
  cases b with
  | ref i =>
    simp only
    split
    · rename_i es hc
      simp only [VR] at hb
      obtain ⟨ad, rfl, hp⟩ := hb
      exact (hr.cell i _ ad hc hp).elim
    · exact op_isIn as hr ha hb
  | _ => exact op_isIn as hr ha hb

theorem op_cmp {n : Nat} {op : Cop} {a b : V} {x y : Value} (as : AS n stack A) (hr : HR am stack π Hc s.heap) (ha : VR am π s.heap a x) (hb : VR am π s.heap b y) :
    JAt am stack A (compareOp (copM op) x y) (R.opt ((pyCmp op Hc a b).map V.bool) Hc) (VR am) π s := by
  cases op with
  | eq => exact op_eq as hr ha hb
  | ne => exact op_ne as hr ha hb
  | lt => exact op_lt hr ha hb
  | le => exact op_le hr ha hb
  | gt => exact op_gt hr ha hb
  | ge => exact op_ge hr ha hb
  | is => exact (op_is hr ha hb).1
  | isNot => exact (op_is hr ha hb).2
  | isin => exact (op_pyIn as hr ha hb).1
  | notIn => exact (op_pyIn as hr ha hb).2

theorem op_not {a : V} {x : Value} (hr : HR am stack π Hc s.heap) (ha : VR am π s.heap a x) :
    JAt am stack A (unaryOp .Not x) ((match truthy a with | some b => R.ok (V.bool (!b)) Hc | Option.none => R.bad)) (VR am) π s := by
  cases a with
  | bool b => simp only [VR] at ha; subst ha; exact .inr (not_value (wpAny_truthy_bool (OkP.here hr rfl)))
  | _ => exact .inl rfl

/-- the tail of a subscript -/
theorem sub_tail {E : Value → Shared → Prop} {value slice : Expr} {o i : Value} {T id : String} {Q : Value → Shared → Prop} (hT : s.TypeIs o T)
    (hl : typeLookup (.type T) "__getitem__" = pure (some (.builtin id))) (h : wpAny am.M A (getItem o i) Q E s) : wpAny am.M A (subscriptTail value slice o i) Q E s := by
  unfold subscriptTail
  refine wpAny_bind ?_
  rw [getitemInPython_of_ne hT.not_modules]
  refine wpAny_bind (wpAny_specialOf hT hl ?_)
  have hs : wpAny am.M A (subscripted slice false o i) Q E s := by
    unfold subscripted
    split
    · exact operate_wp h
    · rename_i hb; cases hb
    · exact operate_wp h
  have fin : wpAny am.M A (subscripted slice false o i) (fun r s₃ => wpAny am.M A (letTemporaryGo value o r >>= fun _ => pure r) Q E s₃) E s :=
    wpAny_mono hs (fun r s₃ h₃ => wpAny_bind (wpAny_letTemporaryGo (wpAny_pure h₃))) fun _ _ x => x
  first
    | exact wpAny_pure (wpAny_bind fin)
    | exact wpAny_bind (wpAny_pure (wpAny_bind fin))
    | exact wpAny_bind fin

theorem place_lt {n : Nat} {i : Int} {j : Nat} (h : place n i = some j) : j < n ∧ (i = j ∨ (i < 0 ∧ (i + n).toNat = j ∧ -(n : Int) ≤ i)) := by
  unfold place at h
  split at h
  · split at h
    · cases h; omega
    · cases h
  · split at h
    · cases h; omega
    · cases h

theorem item_list {l : Addr} {xs : List Value} {x : Value} {k : Int} {t : Tok} {j : Nat} {Q : Value → Shared → Prop} {E : Value → Shared → Prop} (hl : s.heap.IsList l (List.toArray xs)) (hz : xs.length ≤ 1000000) (hj : place xs.length k = some j) (hx : xs[j]? = some x) (h : Q x s) :
    wpAny am.M A (getItem (.ref l) (.int k t)) Q E s := by
  obtain ⟨h1, h2⟩ := place_lt hj
  rcases h2 with rfl | ⟨h2, rfl, h3⟩
  · exact wpAny_getItem_list hl (by omega) (by omega) (by simpa using hx) h
  · exact wpAny_getItem_list_neg hl h2 (by simpa using h3) (by omega) (by simpa using hx) h

theorem op_idx {value slice : Expr} {a i : V} {x y : Value} (hr : HR am stack π Hc s.heap) (ha : VR am π s.heap a x) (hi : VR am π s.heap i y) :
    JAt am stack A (subscriptTail value slice x y) (R.opt (pyIdx Hc a i) Hc) (VR am) π s := by
  have lists : ∀ (l : Addr) (xs : List Value) (vs : List V), x = .ref l → s.heap.IsList l (List.toArray xs) → vs.length ≤ 1000000 → VRs am π s.heap vs xs →
      JAt am stack A (subscriptTail value slice x y) (R.opt (match i with | .int k => (place vs.length k).bind fun j => vs[j]? | _ => Option.none) Hc) (VR am) π s := by
    rintro l xs vs rfl hl hz hv
    cases i with
    | int k =>
      simp only
      simp only [VR] at hi
      obtain ⟨t, rfl⟩ := hi
      cases hj : place vs.length k with
      | none => exact .inl rfl
      | some j =>
        cases hw : vs[j]? with
        | none => exact .inl (by simp [hw])
        | some v =>
          obtain ⟨x', hx', hvx⟩ := hv.get j v hw
          simp only [Option.bind_some, hw, R.opt_some]
          exact .inr (sub_tail hl.typeIs list_getitem_lookup (item_list hl (by rw [hv.len]; exact hz) (by rw [hv.len]; exact hj) hx' (OkP.here hr hvx)))
    | _ => exact .inl rfl
  unfold pyIdx
  cases a with
  | ref r =>
    simp only
    simp only [VR] at ha
    obtain ⟨ad, rfl, hp⟩ := ha
    cases hc : Hc[r]? with
    | none => exact .inl rfl
    | some c =>
      cases c with
      | list vs =>
        obtain ⟨xs, h1, h2, h3⟩ := hr.cell r _ ad hc hp
        exact lists ad xs vs rfl h1.is h2 h3
      | dict es => exact (hr.cell r _ ad hc hp).elim
  | lst vs =>
    simp only [VR] at ha
    obtain ⟨ad, xs, rfl, _, h1, h2, h3⟩ := ha
    exact lists ad xs vs rfl h1 h2 h3
  | tup vs =>
    simp only [VR] at ha
    obtain ⟨ad, xs, rfl, _, h1, hz, hv⟩ := ha
    cases i with
    | int k =>
      simp only
      simp only [VR] at hi
      obtain ⟨t, rfl⟩ := hi
      cases hj : place vs.length k with
      | none => exact .inl rfl
      | some j =>
        cases hw : vs[j]? with
        | none => exact .inl (by simp [hw])
        | some v =>
          obtain ⟨x', hx', hvx⟩ := hv.get j v hw
          simp only [Option.bind_some, hw, R.opt_some]
          obtain ⟨h5, h6⟩ := place_lt hj
          have e := hv.len
          refine .inr (sub_tail h1.typeIs slot_tuple_getitem.lookup (getItem_tuple (j := j) h1 (by omega) (by omega) ?_ (by simpa using hx') (OkP.here hr hvx)))
          rcases h6 with rfl | ⟨h6, rfl, h7⟩
          · have hn : ¬ ((j : Int) < 0) := by omega
            unfold seqIndex?
            simp only [hn, if_false, List.size_toArray, e]
            rw [if_pos (by simp only [Bool.and_eq_true, decide_eq_true_eq]; omega)]
            simp
          · have := seqIndex_neg (n := vs.length) h6 h7
            simpa [e] using this
    | _ => exact .inl rfl
  | _ => exact .inl rfl
end

end Mine

namespace Mine
open PySem PySem.W PyProof.Rows

theorem via_upto {am : Amb} {π : List Addr} {h h' : Heap} (k : h.UpToSlots h') : Via am am π π h h' := ⟨fun a o ho hn h1 h2 => ⟨k a o ho hn, h1, h2⟩, fun _ _ e => e⟩
theorem VR.upto {am : Amb} {π : List Addr} {h h' : Heap} (k : h.UpToSlots h') {v : V} {y : Value} (e : VR am π h v y) : VR am π h' v y := e.via (via_upto k)
theorem VRs.upto {am : Amb} {π : List Addr} {h h' : Heap} (k : h.UpToSlots h') {vs : List V} {ys : List Value} (e : VRs am π h vs ys) : VRs am π h' vs ys := e.via (via_upto k)

theorem CellAt.upto {am : Amb} {π : List Addr} {h h' : Heap} (k : h.UpToSlots h') {c : Cell} {a : Addr} (e : CellAt am π h c a) : CellAt am π h' c a := by
  cases c with
  | list vs =>
    refine hold fun _ k_ => ?_
    obtain ⟨xs, ⟨o, n, ho, hc, hdi, hd⟩, h2, h3⟩ := e
    refine k_ ?_
    obtain ⟨sl, hs⟩ := k a o ho (fun us q => by rw [hd] at q; cases q)
    exact ⟨xs, ⟨_, n, hs, hc, hdi, hd⟩, h2, h3.upto k⟩
  | dict es => exact e

theorem HR.upto {am : Amb} {stack : List Env} {π : List Addr} {Hc : H} {h h' : Heap} (x : HR am stack π Hc h) (k : h.UpToSlots h') (kb : am.B.StaysIn h') : HR am stack π Hc h' :=
  ⟨kb, funFrames_slots k x.frames, x.len, x.nodup, fun a ha => let ⟨o, ho, hn⟩ := x.res a ha; let ⟨_, hs⟩ := k a o ho hn; ⟨_, hs, hn⟩, x.off, fun i c a h1 h2 => (x.cell i c a h1 h2).upto k⟩

noncomputable def NoExc (ρ : List V) : Prop := ∀ v ∈ ρ, ∀ c, v ≠ .exc c

theorem NoExc.set {ρ : List V} (x : NoExc ρ) {i : Nat} {v : V} (hv : ∀ c, v ≠ .exc c) : NoExc (ρ.set i v) := fun u hu c => by
  rcases List.mem_or_eq_of_mem_set hu with h | h
  · exact x u h c
  · subst h; exact hv c
theorem VR.noexc {am : Amb} {π : List Addr} {h : Heap} {v : V} {x : Value} (e : VR am π h v x) : ∀ c, v ≠ .exc c := fun c q => by subst q; exact e

theorem SR.vr {am : Amb} {π : List Addr} {h : Heap} {v : V} {x : Value} (e : SR am π h v x) (n : ∀ c, v ≠ .exc c) : VR am π h v x := by
  rcases e with e | ⟨c, a, h1, _⟩
  · exact e
  · exact absurd h1 (n c)

theorem ER.upto {am : Amb} {cx : Cx} {ρ : List V} {π : List Addr} {h h' : Heap} (e : ER am cx ρ π h) (k : h.UpToSlots h') (ne : NoExc ρ) : ER am cx ρ π h' := by
  have cell : ∀ {c v}, h.IsCell c v → h'.IsCell c v := fun {c v} ⟨o, ho, hd⟩ => by
    obtain ⟨sl, hs⟩ := k c o ho (fun us q => by rw [hd] at q; cases q)
    exact ⟨_, hs, hd⟩
  obtain ⟨m, hm⟩ := e.ns
  refine ⟨⟨m, k.ns hm⟩, e.locOff, fun y c hc => ?_, e.apart, fun y i v h1 h2 h3 h4 => ?_⟩
  · refine hold fun _ k_ => ?_
    obtain ⟨h1, h2, v, h3⟩ := e.cellOff y c hc
    refine k_ ?_
    exact ⟨h1, h2, v, cell h3⟩
  · obtain ⟨v', h5, h6⟩ := e.var y i v h1 h2 h3 h4
    refine ⟨v', ?_, .inl ((h6.vr (ne v (List.mem_of_getElem? h2))).upto k)⟩
    rcases h5 with ⟨q, m', h7, h8⟩ | ⟨q, c, h7, h8⟩
    · exact .inl ⟨q, m', k.ns h7, h8⟩
    · exact .inr ⟨q, c, h7, cell h8⟩

/-- only the record I is turned -/
noncomputable def Poke (I : Addr) (h h' : Heap) : Prop := ∀ b o, b ≠ I → h.get? b = some o → h'.get? b = some o

theorem Poke.slots {I : Addr} {h h' : Heap} (p : Poke I h h') {o : Obj} {us : Array Value} (ho : h.get? I = some o) (hd : o.data = .fields us) : h.UpToSlots h' := fun b o' hb hn =>
  ⟨o'.slots, p b o' (fun q => by subst q; rw [ho] at hb; cases hb; exact hn us hd) hb⟩

theorem Step.poke {Fs π π' : List Addr} {s s' : Shared} {I : Addr} {h'' : Heap} {tk : Nat} (x : Step Fs π s π' s') (hI : s.heap.get? I = none) (p : Poke I s'.heap h'') : Step Fs π s π' { s' with heap := h'', toks := tk } := by
  have ne : ∀ {b o}, s.heap.get? b = some o → b ≠ I := fun {b o} e q => by subst q; rw [hI] at e; cases e
  obtain ⟨h', tk', rfl⟩ := x.same
  refine ⟨⟨h'', tk, rfl⟩, ⟨fun a o e h1 h2 => p a o (ne e) (x.ext.keep a o e h1 h2), fun a o e h1 => ?_, fun a o e => ?_⟩, x.grow⟩
  · obtain ⟨sl, h3⟩ := x.ext.slots a o e h1
    exact ⟨sl, p a _ (ne e) h3⟩
  · obtain ⟨o', h3⟩ := x.ext.alive a o e
    exact ⟨o', p a o' (ne e) h3⟩

theorem HR.poke {am : Amb} {stack : List Env} {π : List Addr} {Hc : H} {h h' : Heap} {I : Addr} (x : HR am stack π Hc h) (p : Poke I h h') {o : Obj} {us : Array Value} (ho : h.get? I = some o) (hd : o.data = .fields us) (hB : am.B.get? I = none) : HR am stack π Hc h' :=
  x.upto (p.slots ho hd) fun b o' e => p b o' (fun q => by subst q; rw [hB] at e; cases e) (x.base b o' e)

theorem via_free {am : Amb} {π : List Addr} {h h' : Heap} (k : ∀ b o, b ∉ am.res → h.get? b = some o → h'.get? b = some o) : Via am am π π h h' := ⟨fun a o ho _ h1 h2 => ⟨⟨o.slots, k a o h2 ho⟩, h1, h2⟩, fun _ _ e => e⟩
/-- what is in the making stands in no value -/
theorem VR.free {am : Amb} {π : List Addr} {h h' : Heap} (k : ∀ b o, b ∉ am.res → h.get? b = some o → h'.get? b = some o) {v : V} {y : Value} (e : VR am π h v y) : VR am π h' v y := e.via (via_free k)
theorem VRs.free {am : Amb} {π : List Addr} {h h' : Heap} (k : ∀ b o, b ∉ am.res → h.get? b = some o → h'.get? b = some o) {vs : List V} {ys : List Value} (e : VRs am π h vs ys) : VRs am π h' vs ys := e.via (via_free k)

/-- from one state to a later one, where the reserved things may change too -/
structure Mv (R Fs π : List Addr) (s : Shared) (π' : List Addr) (s' : Shared) : Prop where
  same : ∃ h' tk, s' = { s with heap := h', toks := tk }
  keep : ∀ a o, s.heap.get? a = some o → a ∉ π → a ∉ Fs → a ∉ R → s'.heap.get? a = some o
  slots : ∀ a o, s.heap.get? a = some o → a ∉ π → a ∉ R → ∃ sl, s'.heap.get? a = some { o with slots := sl }
  alive : ∀ a o, s.heap.get? a = some o → ∃ o', s'.heap.get? a = some o'
  grow : ∃ δ, π' = π ++ δ ∧ ∀ a ∈ δ, s.heap.get? a = none

theorem Mv.of {R Fs π π' : List Addr} {s s' : Shared} (x : Step Fs π s π' s') : Mv R Fs π s π' s' :=
  ⟨x.same, fun a o h1 h2 h3 _ => x.ext.keep a o h1 h2 h3, fun a o h1 h2 _ => x.ext.slots a o h1 h2, x.ext.alive, x.grow⟩
theorem Mv.notin {R Fs π π' : List Addr} {s s' : Shared} (x : Mv R Fs π s π' s') {a : Addr} {o : Obj} (ho : s.heap.get? a = some o) (ha : a ∉ π) : a ∉ π' := by
  obtain ⟨δ, rfl, hδ⟩ := x.grow
  intro hm
  rcases List.mem_append.mp hm with h1 | h1
  · exact ha h1
  · have := hδ a h1; rw [ho] at this; cases this
theorem Mv.trans {R Fs π₀ π₁ π₂ : List Addr} {s₀ s₁ s₂ : Shared} (x : Mv R Fs π₀ s₀ π₁ s₁) (y : Mv R Fs π₁ s₁ π₂ s₂) : Mv R Fs π₀ s₀ π₂ s₂ := by
  refine ⟨?_, fun a o e h1 h2 h3 => ?_, fun a o e h1 h3 => ?_, fun a o e => ?_, ?_⟩
  · obtain ⟨h', tk, rfl⟩ := x.same
    obtain ⟨h'', tk', rfl⟩ := y.same
    exact ⟨_, _, rfl⟩
  · exact y.keep a o (x.keep a o e h1 h2 h3) (x.notin e h1) h2 h3
  · obtain ⟨sl, h4⟩ := x.slots a o e h1 h3
    obtain ⟨sl', h5⟩ := y.slots a _ h4 (x.notin e h1) h3
    exact ⟨sl', h5⟩
  · obtain ⟨o', h4⟩ := x.alive a o e
    exact y.alive a o' h4
  · obtain ⟨δ, rfl, hδ⟩ := x.grow
    obtain ⟨δ', rfl, hδ'⟩ := y.grow
    refine ⟨δ ++ δ', by simp, fun a ha => ?_⟩
    rcases List.mem_append.mp ha with h1 | h1
    · exact hδ a h1
    · cases hq : s₀.heap.get? a with
      | none => rfl
      | some o =>
        obtain ⟨o', h3⟩ := x.alive a o hq
        have := hδ' a h1; rw [h3] at this; cases this
theorem Mv.poke {R Fs π π' : List Addr} {s s' : Shared} {C : Addr} {h'' : Heap} {tk : Nat} (x : Mv R Fs π s π' s') (hC : (C ∈ R ∧ ∃ o, h''.get? C = some o) ∨ s.heap.get? C = none) (p : Poke C s'.heap h'') : Mv R Fs π s π' { s' with heap := h'', toks := tk } := by
  have ne : ∀ {b o}, s.heap.get? b = some o → b ∉ R → b ≠ C := fun {b o} e hb q => by
    subst q
    rcases hC with h | h
    · exact hb h.1
    · rw [h] at e; cases e
  obtain ⟨h', tk', rfl⟩ := x.same
  refine ⟨⟨h'', tk, rfl⟩, fun a o e h1 h2 h3 => p a o (ne e h3) (x.keep a o e h1 h2 h3), fun a o e h1 h3 => ?_, fun a o e => ?_, x.grow⟩
  · obtain ⟨sl, h4⟩ := x.slots a o e h1 h3
    exact ⟨sl, p a _ (ne e h3) h4⟩
  · obtain ⟨o', h4⟩ := x.alive a o e
    by_cases hq : a = C
    · subst hq
      rcases hC with h | h
      · exact h.2
      · rw [h] at e; cases e
    · exact ⟨o', p a o' hq h4⟩

theorem via_move {am : Amb} {Fs π π' : List Addr} {s s' : Shared} (x : Mv am.res Fs π s π' s') : Via am am π π' s.heap s'.heap :=
  ⟨fun a o ho _ h1 h2 => ⟨x.slots a o ho h1 h2, x.notin ho h1, h2⟩, fun i a ha => by
    obtain ⟨δ, rfl, _⟩ := x.grow
    rw [List.getElem?_append_left (List.getElem?_eq_some_iff.mp ha).1]; exact ha⟩
theorem VR.move {am : Amb} {Fs π π' : List Addr} {s s' : Shared} (x : Mv am.res Fs π s π' s') {v : V} {y : Value} (e : VR am π s.heap v y) : VR am π' s'.heap v y := e.via (via_move x)
theorem VRs.move {am : Amb} {Fs π π' : List Addr} {s s' : Shared} (x : Mv am.res Fs π s π' s') {vs : List V} {ys : List Value} (e : VRs am π s.heap vs ys) : VRs am π' s'.heap vs ys := e.via (via_move x)

/-- a thing that goes through vs; Sx k: it stands ahead of the k-th -/
structure Iter (am : Amb) (stack : List Env) (A : Around) (I : Addr) (wt : Watch) (vs : List V) (Sx : Nat → List Addr → Heap → Prop) : Prop where
  stable : ∀ k π (s : Shared) π' (s' : Shared), Sx k π s.heap → Step (Fs stack) π s π' s' → Sx k π' s'.heap
  move : ∀ k π (s : Shared) π' (s' : Shared), Sx k π s.heap → Mv am.res (Fs stack) π s π' s' → Sx k π' s'.heap
  free : ∀ k π (h h' : Heap), Sx k π h → (∀ b o, b ∉ am.res → h.get? b = some o → h'.get? b = some o) → Sx k π h'
  own : ∀ k π h, Sx k π h → I ∉ π ∧ I ∉ Fs stack ∧ ∃ o us, h.get? I = some o ∧ o.data = .fields us
  item : ∀ k π (Hc : H) (s : Shared) v (Q : Option Value → Shared → Prop) (E : Value → Shared → Prop), Sx k π s.heap → HR am stack π Hc s.heap → wt.ok Hc = true → vs[k]? = some v →
    (∀ x h' tk, Poke I s.heap h' → VR am π h' v x → Sx (k + 1) π h' → Q (some x) { s with heap := h', toks := tk }) → wpAny am.M A (pyNext (.ref I)) Q E s
  done : ∀ π (Hc : H) (s : Shared) (Q : Option Value → Shared → Prop) (E : Value → Shared → Prop), Sx vs.length π s.heap → HR am stack π Hc s.heap → wt.ok Hc = true →
    (∀ h' tk, Poke I s.heap h' → Q none { s with heap := h', toks := tk }) → wpAny am.M A (pyNext (.ref I)) Q E s
  self : ∀ k π (s : Shared) (Q : Value → Shared → Prop) (E : Value → Shared → Prop), Sx k π s.heap → Q (.ref I) s → wpAny am.M A (pyIter (.ref I)) Q E s

section
variable {am : Amb} {stack : List Env} {A : Around}

/-- a list by value -/
theorem Iter.lst (hh : A.handled = none) {I l : Addr} {vs : List V} : Iter am stack A I none vs (fun k π h => I ∉ π ∧ I ∉ Fs stack ∧ h.IsListIter I l k ∧ (l ∉ π ∧ I ∉ am.res ∧ l ∉ am.res) ∧ ∃ xs, h.IsList l (List.toArray xs) ∧ VRs am π h vs xs) where
  stable := by
    rintro k π s π' s' ⟨h1, h2, h3, h4, xs, h5, h6⟩ x
    obtain ⟨o, ho, hr⟩ := id h3
    obtain ⟨o', ho', _⟩ := id h5
    exact ⟨x.notin ho h1, h2, ⟨o, x.ext.keep _ _ ho h1 h2, hr⟩, ⟨x.notin ho' h4.1, h4.2⟩, xs, x.ext.list h5 h4.1, h6.step x⟩
  move := by
    rintro k π s π' s' ⟨h1, h2, h3, h4, xs, h5, h6⟩ x
    obtain ⟨o, ho, hr⟩ := id h3
    refine hold fun _ k_ => ?_
    obtain ⟨o', ho', hc', n', hd'⟩ := id h5
    refine k_ ?_
    obtain ⟨sl, hs⟩ := x.slots _ _ ho' h4.1 h4.2.2
    exact ⟨x.notin ho h1, h2, ⟨o, x.keep _ _ ho h1 h2 h4.2.1, hr⟩, ⟨x.notin ho' h4.1, h4.2⟩, xs, ⟨_, hs, hc', n', hd'⟩, h6.move x⟩
  free := by
    rintro k π h h' ⟨h1, h2, ⟨o, ho, hr⟩, h4, xs, ⟨o', ho', r⟩, h6⟩ kk
    exact ⟨h1, h2, ⟨o, kk _ _ h4.2.1 ho, hr⟩, h4, xs, ⟨o', kk _ _ h4.2.2 ho', r⟩, h6.free kk⟩
  own := by
    rintro k π h ⟨h1, h2, ⟨o, ho, hc, hd⟩, _⟩
    exact ⟨h1, h2, o, _, ho, hd⟩
  item := by
    rintro k π Hc s v Q E ⟨h1, h2, h3, h4, xs, h5, h6⟩ hr _ hv hQ
    obtain ⟨x, hx, hvx⟩ := h6.get k v hv
    refine hold fun _ k_ => ?_
    obtain ⟨o, ho, hc, hd⟩ := id h3
    refine k_ ?_
    refine wpAny_pyNext_list_item h3 h5 (x := x) (by simpa using hx) fun h' hit' hs' => ?_
    have p : Poke I s.heap h' := fun b o hb e => hs'.extBut b o hb e
    have u := p.slots ho hd
    refine hold fun _ k_ => ?_
    obtain ⟨ol, hol, hcl, n, hdl⟩ := id h5
    refine k_ ?_
    have hne : l ≠ I := fun q => by subst q; rw [ho] at hol; cases hol; rw [hd] at hdl; cases hdl
    exact hQ x h' s.toks p (hvx.upto u) ⟨h1, h2, hit', h4, xs, ⟨ol, p _ _ hne hol, hcl, n, hdl⟩, h6.upto u⟩
  done := by
    rintro π Hc s Q E ⟨h1, h2, h3, h4, xs, h5, h6⟩ hr _ hQ
    exact wpAny_pyNext_list_end hh h3 h5 (by simp [h6.len]) fun h' he' => hQ h' s.toks fun b o hb e => he' b o hb e
  self := fun _ _ _ _ _ st hQ => wpAny_pyIter_listiter st.2.2.1 hQ

/-- a list that is a cell: it is not to change meanwhile -/
theorem Iter.cell (hh : A.handled = none) {I : Addr} {i : Nat} {vs : List V} : Iter am stack A I (some (i, .list vs)) vs (fun k π h => I ∉ π ∧ (I ∉ Fs stack ∧ I ∉ am.res) ∧ ∃ l, π[i]? = some l ∧ h.IsListIter I l k) where
  stable := by
    rintro k π s π' s' ⟨h1, h2, l, h4, h3⟩ x
    obtain ⟨o, ho, hr⟩ := id h3
    obtain ⟨δ, e, _⟩ := x.grow
    refine ⟨x.notin ho h1, h2, l, ?_, ⟨o, x.ext.keep _ _ ho h1 h2.1, hr⟩⟩
    rw [e, List.getElem?_append_left (List.getElem?_eq_some_iff.mp h4).1]; exact h4
  move := by
    rintro k π s π' s' ⟨h1, h2, l, h4, h3⟩ x
    obtain ⟨o, ho, hr⟩ := id h3
    obtain ⟨δ, e, _⟩ := x.grow
    refine ⟨x.notin ho h1, h2, l, ?_, ⟨o, x.keep _ _ ho h1 h2.1 h2.2, hr⟩⟩
    rw [e, List.getElem?_append_left (List.getElem?_eq_some_iff.mp h4).1]; exact h4
  free := by
    rintro k π h h' ⟨h1, h2, l, h4, ⟨o, ho, hr⟩⟩ kk
    exact ⟨h1, h2, l, h4, ⟨o, kk _ _ h2.2 ho, hr⟩⟩
  own := by
    rintro k π h ⟨h1, h2, l, _, ⟨o, ho, hc, hd⟩⟩
    exact ⟨h1, h2.1, o, _, ho, hd⟩
  item := by
    rintro k π Hc s v Q E ⟨h1, h2, l, h4, h3⟩ hr hw hv hQ
    have hc : Hc[i]? = some (.list vs) := by simpa [Watch.ok] using hw
    refine hold fun _ k_ => ?_
    obtain ⟨xs, h5, _, h6⟩ := hr.cell i _ l hc h4
    refine k_ ?_
    obtain ⟨x, hx, hvx⟩ := h6.get k v hv
    refine hold fun _ k_ => ?_
    obtain ⟨o, ho, _, hd⟩ := id h3
    refine k_ ?_
    refine wpAny_pyNext_list_item h3 h5.is (x := x) (by simpa using hx) fun h' hit' hs' => ?_
    have p : Poke I s.heap h' := fun b o hb e => hs'.extBut b o hb e
    exact hQ x h' s.toks p (hvx.upto (p.slots ho hd)) ⟨h1, h2, l, h4, hit'⟩
  done := by
    rintro π Hc s Q E ⟨h1, h2, l, h4, h3⟩ hr hw hQ
    have hc : Hc[i]? = some (.list vs) := by simpa [Watch.ok] using hw
    refine hold fun _ k_ => ?_
    obtain ⟨xs, h5, _, h6⟩ := hr.cell i _ l hc h4
    refine k_ ?_
    exact wpAny_pyNext_list_end hh h3 h5.is (by simp [h6.len]) fun h' he' => hQ h' s.toks fun b o hb e => he' b o hb e
  self := fun _ _ _ _ _ ⟨_, _, _, _, st⟩ hQ => wpAny_pyIter_listiter st hQ

theorem Iter.tup (hh : A.handled = none) {I l : Addr} {vs : List V} : Iter am stack A I none vs (fun k π h => I ∉ π ∧ I ∉ Fs stack ∧ h.IsTupleIter I l k ∧ (l ∉ π ∧ I ∉ am.res ∧ l ∉ am.res) ∧ ∃ xs, h.IsTuple l (List.toArray xs) ∧ VRs am π h vs xs) where
  stable := by
    rintro k π s π' s' ⟨h1, h2, h3, h4, xs, h5, h6⟩ x
    obtain ⟨o, ho, hr⟩ := id h3
    obtain ⟨o', ho', _⟩ := id h5
    exact ⟨x.notin ho h1, h2, ⟨o, x.ext.keep _ _ ho h1 h2, hr⟩, ⟨x.notin ho' h4.1, h4.2⟩, xs, x.ext.tuple h5 h4.1, h6.step x⟩
  move := by
    rintro k π s π' s' ⟨h1, h2, h3, h4, xs, h5, h6⟩ x
    obtain ⟨o, ho, hr⟩ := id h3
    refine hold fun _ k_ => ?_
    obtain ⟨o', ho', hc', n', hd'⟩ := id h5
    refine k_ ?_
    obtain ⟨sl, hs⟩ := x.slots _ _ ho' h4.1 h4.2.2
    exact ⟨x.notin ho h1, h2, ⟨o, x.keep _ _ ho h1 h2 h4.2.1, hr⟩, ⟨x.notin ho' h4.1, h4.2⟩, xs, ⟨_, hs, hc', n', hd'⟩, h6.move x⟩
  free := by
    rintro k π h h' ⟨h1, h2, ⟨o, ho, hr⟩, h4, xs, ⟨o', ho', r⟩, h6⟩ kk
    exact ⟨h1, h2, ⟨o, kk _ _ h4.2.1 ho, hr⟩, h4, xs, ⟨o', kk _ _ h4.2.2 ho', r⟩, h6.free kk⟩
  own := by
    rintro k π h ⟨h1, h2, ⟨o, ho, hc, hd⟩, _⟩
    exact ⟨h1, h2, o, _, ho, hd⟩
  item := by
    rintro k π Hc s v Q E ⟨h1, h2, h3, h4, xs, h5, h6⟩ hr _ hv hQ
    obtain ⟨x, hx, hvx⟩ := h6.get k v hv
    refine hold fun _ k_ => ?_
    obtain ⟨o, ho, hc, hd⟩ := id h3
    refine k_ ?_
    refine wpAny_pyNext_tuple_item h3 h5 (x := x) (by simpa using hx) fun h' hit' hs' => ?_
    have p : Poke I s.heap h' := fun b o hb e => hs'.extBut b o hb e
    have u := p.slots ho hd
    refine hold fun _ k_ => ?_
    obtain ⟨ol, hol, hcl, n, hdl⟩ := id h5
    refine k_ ?_
    have hne : l ≠ I := fun q => by subst q; rw [ho] at hol; cases hol; rw [hd] at hdl; cases hdl
    exact hQ x h' s.toks p (hvx.upto u) ⟨h1, h2, hit', h4, xs, ⟨ol, p _ _ hne hol, hcl, n, hdl⟩, h6.upto u⟩
  done := by
    rintro π Hc s Q E ⟨h1, h2, h3, h4, xs, h5, h6⟩ hr _ hQ
    exact wpAny_pyNext_tuple_end hh h3 h5 (by simp [h6.len]) fun h' he' => hQ h' s.toks fun b o hb e => he' b o hb e
  self := fun _ _ _ _ _ st hQ => wpAny_pyIter_tupleiter st.2.2.1 hQ

theorem Iter.range (hh : A.handled = none) {I : Addr} (a c : Int) (n : Nat) : Iter am stack A I none ((List.range n).map fun (i : Nat) => V.int (a + (i : Int) * c)) (fun k π h => I ∉ π ∧ (I ∉ Fs stack ∧ I ∉ am.res) ∧ IsRangeIter h I (a + (k : Nat) * c) ((n : Int) - (k : Nat)) c) where
  stable := by
    rintro k π s π' s' ⟨h1, h2, h3⟩ x
    exact ⟨x.notin h3 h1, h2, x.ext.keep _ _ h3 h1 h2.1⟩
  move := by
    rintro k π s π' s' ⟨h1, h2, h3⟩ x
    exact ⟨x.notin h3 h1, h2, x.keep _ _ h3 h1 h2.1 h2.2⟩
  free := by
    rintro k π h h' ⟨h1, h2, h3⟩ kk
    exact ⟨h1, h2, kk _ _ h2.2 h3⟩
  own := by
    rintro k π h ⟨h1, h2, h3⟩
    exact ⟨h1, h2.1, _, _, h3, rfl⟩
  item := by
    rintro k π Hc s v Q E ⟨h1, h2, h3⟩ hr _ hv hQ
    have hk : k < n := by have := (List.getElem?_eq_some_iff.mp hv).1; simpa using this
    have hv' : v = V.int (a + (k : Int) * c) := by
      rw [List.getElem?_map, List.getElem?_range hk] at hv
      simpa using hv.symm
    subst hv'
    refine wpAny_pyNext_range_item h3 (by omega) fun h' hit' hs' => ?_
    have p : Poke I s.heap h' := fun b o hb e => hs'.extBut b o hb e
    refine hQ _ h' _ p ⟨_, rfl⟩ ⟨h1, h2, ?_⟩
    have e1 : a + ((k + 1 : Nat) : Int) * c = a + (k : Int) * c + c := by push_cast; rw [Int.add_mul, Int.one_mul, Int.add_assoc]
    have e2 : (n : Int) - ((k + 1 : Nat) : Int) = (n : Int) - (k : Int) - 1 := by push_cast; omega
    rw [e1, e2]; exact hit'
  done := by
    rintro π Hc s Q E ⟨h1, h2, h3⟩ hr _ hQ
    exact wpAny_pyNext_range_end hh h3 (by simp) fun h' he' => hQ h' s.toks fun b o hb e => he' b o hb e
  self := fun _ _ _ _ _ st hQ => wpAny_pyIter_rangeiter st.2.2 hQ
end

end Mine

namespace Mine
open PySem PySem.W PyProof.Rows

section
variable {am : Amb} {stack : List Env} {A : Around} {π : List Addr} {s : Shared} {Hc : H}

theorem items_at {v : V} {x : Value} {vs : List V} (hr : HR am stack π Hc s.heap) (e : VR am π s.heap v x) (hi : items Hc v = some vs) :
    ∃ l xs, x = .ref l ∧ (s.heap.IsList l (List.toArray xs) ∨ s.heap.IsTuple l (List.toArray xs)) ∧ vs.length ≤ 1000000 ∧ VRs am π s.heap vs xs := by
  cases v with
  | tup ws =>
    simp only [items, Option.some.injEq] at hi; subst hi
    simp only [VR] at e
    obtain ⟨a, xs, h1, _, h3, h4, h5⟩ := e
    exact ⟨a, xs, h1, .inr h3, h4, h5⟩
  | lst ws =>
    obtain ⟨l, xs, h1, h2, h3⟩ := litems_at hr e (vs := vs) hi
    exact ⟨l, xs, h1, .inl h2, h3⟩
  | ref i =>
    obtain ⟨l, xs, h1, h2, h3⟩ := litems_at hr e (vs := vs) hi
    exact ⟨l, xs, h1, .inl h2, h3⟩
  | _ => simp [items] at hi

theorem op_len {a : V} {x : Value} (hr : HR am stack π Hc s.heap) (ha : VR am π s.heap a x) :
    JAt am stack A (call (.builtin "len") [x]) (R.opt (bf .len Hc a) Hc) (VR am) π s := by
  have key : ∀ vs, items Hc a = some vs → JAt am stack A (call (.builtin "len") [x]) (R.ok (V.int vs.length) Hc) (VR am) π s := by
    intro vs h
    obtain ⟨l, xs, rfl, hl, hz, hv⟩ := items_at hr ha h
    have e := hv.len
    rcases hl with hl | hl
    · exact .inr (PySem.Calls.call_len_list hl (by simp; omega) (by simp only [List.size_toArray, e]; exact OkP.tok hr ⟨_, rfl⟩))
    · exact .inr (len_tuple hl (by simp; omega) (by simp only [List.size_toArray, e]; exact OkP.tok hr ⟨_, rfl⟩))
  unfold bf
  cases a with
  | ref i =>
    simp only
    cases hc : Hc[i]? with
    | none => exact .inl rfl
    | some c =>
      cases c with
      | list vs => exact key vs (by simp [items, hc])
      | dict es =>
        simp only [VR] at ha
        obtain ⟨ad, rfl, hp⟩ := ha
        exact (hr.cell i _ ad hc hp).elim
  | tup vs => exact key vs rfl
  | lst vs => exact key vs rfl
  | _ => exact .inl rfl

theorem wp_list {a : V} {x : Value} {vs : List V} {Q : Value → Shared → Prop} {E : Value → Shared → Prop} (hr : HR am stack π Hc s.heap) (ha : VR am π s.heap a x) (hi : items Hc a = some vs) (h : ∀ y s', NewL am π s vs y s' → Q y s') :
    wpAny am.M A (call (.type "list") [x]) Q E s := by
  obtain ⟨l, xs, rfl, hl, hz, hv⟩ := items_at hr ha hi
  have e := hv.len
  have fin : ∀ (T : String) (o : Obj) (n : Nat), (T = "list" ∨ T = "tuple") → s.heap.get? l = some o → o.cls = .type T → o.data = .seq (List.toArray xs) n → wpAny am.M A (call (.type "list") [.ref l]) Q E s := by
    intro T o n hT ho hc hd
    refine call_list_seq l hT ho hc hd (fun h' c' k hn => h _ _ ⟨_, xs, h', s.toks, rfl, rfl, k, size_none _, ⟨_, c', hn, rfl, rfl, rfl⟩, (hv.held (size_none _)).keeps k⟩) ?_
    simp only [List.size_toArray]
    have := mil_le_line
    omega
  rcases hl with ⟨o, ho, hc, n, hd⟩ | ⟨o, ho, hc, n, hd⟩
  · exact fin _ o n (.inl rfl) ho hc hd
  · exact fin _ o n (.inr rfl) ho hc hd

theorem op_list {a : V} {x : Value} (hr : HR am stack π Hc s.heap) (ha : VR am π s.heap a x) :
    JAt am stack A (call (.type "list") [x]) (R.opt (bf .list Hc a) Hc) (VR am) π s := by
  unfold bf
  cases hi : items Hc a with
  | none => exact .inl rfl
  | some vs =>
    obtain ⟨_, _, _, _, hz, _⟩ := items_at hr ha hi
    exact .inr (wp_list hr ha hi fun y s' n => n.lst hr hz)

theorem op_tuple {a : V} {x : Value} (hr : HR am stack π Hc s.heap) (ha : VR am π s.heap a x) :
    JAt am stack A (call (.type "tuple") [x]) (R.opt (bf .tuple Hc a) Hc) (VR am) π s := by
  unfold bf
  cases hi : items Hc a with
  | none => exact .inl rfl
  | some vs =>
    obtain ⟨l, xs, rfl, hl, hz, hv⟩ := items_at hr ha hi
    have e := hv.len
    rcases hl with hl | hl
    · refine .inr (call_tuple_list hl (fun h' k => ?_) (by simp only [List.size_toArray]; have := mil_le_line; omega))
      have k' : ∀ b o, s.heap.get? b = some o → (h'.push { cls := .type "tuple", data := .seq (List.toArray xs) }).get? b = some o := fun b o q => Heap.get?_push_of_some _ (k b o q)
      have hn : s.heap.get? h'.objs.size = none := by
        cases q : s.heap.get? h'.objs.size with
        | none => rfl
        | some o => have := k _ o q; rw [size_none] at this; cases this
      refine OkP.keeps (tk := s.toks) hr k' ?_
      simp only [VR]
      exact ⟨_, xs, rfl, ⟨fresh_pi hr hn, fresh_res hr hn⟩, ⟨_, Heap.get?_push_size _ rfl, rfl, 0, rfl⟩, hz, hv.keeps k'⟩
    · refine .inr (call_tuple_same hl (OkP.here hr ?_))
      cases a with
      | tup ws => simp only [items, Option.some.injEq] at hi; subst hi; exact ha
      | lst ws =>
        simp only [VR] at ha
        obtain ⟨_, _, q, _, ⟨o, ho, hc, _⟩, _⟩ := ha
        cases q
        obtain ⟨o', ho', hc', _⟩ := hl
        rw [ho] at ho'; cases ho'; rw [hc] at hc'; exact absurd hc' (by decide)
      | ref i =>
        obtain ⟨l', xs', q, ⟨o, ho, hc, _⟩, _⟩ := litems_at hr ha (vs := vs) hi
        cases q
        obtain ⟨o', ho', hc', _⟩ := hl
        rw [ho] at ho'; cases ho'; rw [hc] at hc'; exact absurd hc' (by decide)
      | _ => simp [items] at hi

theorem op_int {a : V} {x : Value} (hr : HR am stack π Hc s.heap) (ha : VR am π s.heap a x) :
    JAt am stack A (call (.type "int") [x]) (R.opt (bf .int Hc a) Hc) (VR am) π s := by
  unfold bf
  cases a with
  | bool b => simp only [VR] at ha; subst ha; exact .inr (call_int_bool (OkP.tok hr ⟨_, rfl⟩))
  | _ => exact .inl rfl

theorem op_str {a : V} {x : Value} (hr : HR am stack π Hc s.heap) (ha : VR am π s.heap a x) :
    JAt am stack A (call (.type "str") [x]) (R.opt (bf .str Hc a) Hc) (VR am) π s := by
  unfold bf
  cases a with
  | int i =>
    simp only
    split
    · rename_i h
      simp only [VR] at ha; obtain ⟨t, rfl⟩ := ha
      refine .inr (PySem.P.str_of_int ?_ (OkP.tok hr ⟨_, rfl⟩))
      by_cases h0 : i.natAbs = 0
      · rw [h0]; decide
      · have := (Nat.log2_lt h0 (k := 7)).mpr (by omega); omega
    · exact .inl rfl
  | _ => exact .inl rfl

theorem asBools_get : ∀ {vs : List V} {bs : List Bool}, asBools vs = some bs → vs = bs.map V.bool
  | [], bs, h => by simp only [asBools, Option.some.injEq] at h; subst h; rfl
  | v :: vs, bs, h => by
    cases v <;> simp only [asBools] at h <;> try cases h
    simp only [Option.map_eq_some_iff] at h
    obtain ⟨r, h1, rfl⟩ := h
    rw [List.map_cons, ← asBools_get h1]

theorem VRs_bools : ∀ {bs : List Bool} {xs : List Value}, VRs am π s.heap (bs.map V.bool) xs → xs = bs.map Value.bool
  | [], xs, h => by simpa [VRs] using h
  | b :: bs, xs, h => by
    simp only [List.map_cons, VRs] at h
    obtain ⟨x, xs', rfl, h1, h2⟩ := h
    simp only [VR] at h1
    rw [h1, VRs_bools h2]; rfl

theorem range_all (bs : List Bool) : (List.range bs.length).all (fun i => bs.getD i false) = bs.all id := by
  induction bs with
  | nil => rfl
  | cons b bs ih => simp only [List.length_cons, List.range_succ_eq_map, List.all_cons, List.all_map]; rw [← ih]; rfl
theorem range_any (bs : List Bool) : (List.range bs.length).any (fun i => bs.getD i false) = bs.any id := by
  induction bs with
  | nil => rfl
  | cons b bs ih => simp only [List.length_cons, List.range_succ_eq_map, List.any_cons, List.any_map]; rw [← ih]; rfl

theorem walk_bools {l : Addr} {bs : List Bool} {P : Value → Shared → Prop} {E : Value → Shared → Prop} (hh : A.handled = none) (hl : s.heap.IsList l (List.toArray (bs.map Value.bool)))
    (hP : ∀ I fp wr n Pr St tr, n = bs.length → tr = (fun i => bs.getD i false) → Walks am.prog am.w A I fp wr n Pr St → (∀ s₂, s₂ = { s with heap := s.heap.push { cls := .type "list_iterator", data := .fields #[.ref l, .int 0 0] } } → St 0 s₂.heap) → TruthOf am.prog am.w A Pr tr → wr = [s.heap.objs.size] → I = s.heap.objs.size →
      P (.ref I) { s with heap := s.heap.push { cls := .type "list_iterator", data := .fields #[.ref l, .int 0 0] } }) :
    wpAny am.M A (pyIter (.ref l)) P E s := by
  refine wpAny_pyIter_list hl ?_
  obtain ⟨o, ho, _⟩ := id hl
  have hne : l ≠ s.heap.objs.size := Nat.ne_of_lt (Heap.lt_size ho)
  have W := Walks.list (prog := am.prog) (w := am.w) hh s.heap.objs.size l hne (List.toArray (bs.map Value.bool))
  refine hP _ _ _ _ _ _ _ (by simp) rfl W ?_ ?_ rfl rfl
  · rintro s₂ rfl
    exact ⟨⟨_, Heap.get?_push_size _ rfl, rfl, rfl⟩, hl.push _⟩
  · intro i v s' Q' E' hv hq
    simp only [List.getElem?_toArray, List.getElem?_map, Option.map_eq_some_iff] at hv
    obtain ⟨b, hb, rfl⟩ := hv
    refine wpAny_truthy_bool ?_
    have : bs.getD i false = b := by rw [List.getD_eq_getElem?_getD, hb]; rfl
    rw [← this]; exact hq

theorem op_all {a : V} {x : Value} (hh : A.handled = none) (hr : HR am stack π Hc s.heap) (ha : VR am π s.heap a x) :
    JAt am stack A (call (.builtin "all") [x]) (R.opt (bf .all Hc a) Hc) (VR am) π s := by
  unfold bf
  cases hi : litems Hc a with
  | none => exact .inl rfl
  | some vs =>
    cases hb : asBools vs with
    | none => exact .inl (by simp [hb])
    | some bs =>
      simp only [Option.bind_some, hb, Option.map_some, R.opt_some]
      obtain ⟨l, xs, rfl, hl, hz, hv⟩ := litems_at hr ha hi
      rw [asBools_get hb] at hv
      rw [VRs_bools hv] at hl
      refine .inr (call_all_walk (walk_bools (A := A.in1) hh hl fun I fp wr n Pr St tr e1 e2 W hst htr hwr hI => ⟨I, fp, wr, n, Pr, St, tr, rfl, W, hst _ rfl, htr, fun h' tk k => ?_⟩))
      subst e1 e2 hwr
      rw [range_all]
      exact OkP.keeps (h' := h') (tk := tk) hr (fun b o e => k b o (by simp only [List.mem_singleton]; exact Nat.ne_of_lt (Heap.lt_size e)) (Heap.get?_push_of_some _ e)) rfl

theorem op_any {a : V} {x : Value} (hh : A.handled = none) (hr : HR am stack π Hc s.heap) (ha : VR am π s.heap a x) :
    JAt am stack A (call (.builtin "any") [x]) (R.opt (bf .any Hc a) Hc) (VR am) π s := by
  unfold bf
  cases hi : litems Hc a with
  | none => exact .inl rfl
  | some vs =>
    cases hb : asBools vs with
    | none => exact .inl (by simp [hb])
    | some bs =>
      simp only [Option.bind_some, hb, Option.map_some, R.opt_some]
      obtain ⟨l, xs, rfl, hl, hz, hv⟩ := litems_at hr ha hi
      rw [asBools_get hb] at hv
      rw [VRs_bools hv] at hl
      refine .inr (call_any_walk (walk_bools (A := A.in1) hh hl fun I fp wr n Pr St tr e1 e2 W hst htr hwr hI => ⟨I, fp, wr, n, Pr, St, tr, rfl, W, hst _ rfl, htr, fun h' tk k => ?_⟩))
      subst e1 e2 hwr
      rw [range_any]
      exact OkP.keeps (h' := h') (tk := tk) hr (fun b o e => k b o (by simp only [List.mem_singleton]; exact Nat.ne_of_lt (Heap.lt_size e)) (Heap.get?_push_of_some _ e)) rfl
end

end Mine

namespace Mine
open PySem PySem.W PyProof.Rows

set_option maxRecDepth 100000

theorem nolen_lri : typeLookup (.type "list_reverseiterator") "__len__" = pure none := by rw [typeLookup_type, builtinLookup_eq_fast]; kernel_rfl
theorem hint_lri : typeLookup (.type "list_reverseiterator") "__length_hint__" = pure (some (.builtin "list_reverseiterator.__length_hint__")) := by rw [typeLookup_type, builtinLookup_eq_fast]; kernel_rfl

section
variable {prog : Program} {w : World} {A : Around} {E : Value → Shared → Prop} {s : Shared}

theorem extend_rev {R : Result → Shared → Prop} {I l : Addr} {items : Array Value} (hh : A.handled = none) (hit : s.heap.IsRevIter I l ((items.size : Int) - 1)) (hl : s.heap.IsList l items) (hne : l ≠ I) (hlen : items.size ≤ sizeLine) (S : Addr) (res : Value) (c₀ : Nat)
    (hS : s.heap.get? S = some { cls := .type "list", data := .seq #[] c₀ }) (hSI : S ≠ I) (hSl : S ≠ l)
    (hR : ∀ h' tk acc' c', (∀ b o, b ≠ S → b ≠ I → s.heap.get? b = some o → h'.get? b = some o) → h'.get? S = some { cls := .type "list", dict := none, data := .seq acc' c', slots := #[] } →
      ItemsOf (fun i v => items[items.size - 1 - i]? = some v) acc' items.size → R (.ok (.ret res)) { s with heap := h', toks := tk }) :
    wpAny (model prog w) A.in1 (Builtin.List.listExtendWith (.ref S) (.ref I) res)
      (fun fin s' => match fin with | .done f => R (.ok f) s' | .again c' => c'.quiet = true ∧ codeAny (model prog w) A c' R s') (fun e s' => R (.error e) s') s := by
  have W := (Walks.listRev (prog := prog) (w := w) (A := A.in1) hh I l hne items).toS
  have hSf : S ∉ [I, l] := by simp [hSI, hSl]
  have hT := Heap.IsRevIter.typeIs hit
  unfold Builtin.List.listExtendWith
  refine wpAny_bind (wpAny_typeOf hT ?_)
  have h1 : Builtin.List.listSameRef (.ref S) (.ref I) = false := by simp [Builtin.List.listSameRef, hSI]
  have h2 : (Value.type "list_reverseiterator" == Value.type "list") = false := by decide
  have h3 : (Value.type "list_reverseiterator" == Value.type "tuple") = false := by decide
  simp only [h1, h2, h3, Bool.or_false, Bool.false_eq_true, if_false]
  refine wpAny_bind (wpAny_pyIter_revIter hit ?_)
  refine wpAny_bind (wpAny_holding ?_)
  unfold Builtin.List.listLengthHint
  refine wpAny_bind (wpAny_specialOf hT nolen_lri ?_)
  show wpAny _ A.in1 (specialOf (Value.ref I) (Str.ofString "__length_hint__") >>= _) _ _ _
  refine wpAny_bind (wpAny_specialOf hT hint_lri ?_)
  generalize hid : ("list_reverseiterator.__length_hint__" : String) = id0
  wp_delta
  rw [show splitId id0 = some ("list_reverseiterator", "__length_hint__") from by subst hid; decide +kernel]
  subst hid
  refine wpAny_bind (wpAny_isInstance (b := true) hT (by rw [isSubtype_type]; kernel_rfl) ?_)
  refine wpAny_pure ?_
  rw [if_neg (by decide)]
  refine wpAny_pure ⟨plainId_quiet F.plain_extend_loop _, codeAny_extend_loopS W hlen S hSf res items.size 0 _ #[] c₀ rfl (Nat.zero_le _) ⟨Nat.zero_le _, by simpa using hit, hl⟩ hS (ItemsOf.nil _) fun s' acc' c' hm hS' hacc => ?_⟩
  rw [Moved.eq_with hm]
  refine hR s'.heap s'.toks acc' c' (fun b o hb hb' e => hm.heap b o (fun hmem => ?_) e) hS' hacc
  rcases List.mem_cons.mp hmem with e' | hmem
  · exact hb e'
  · exact hb' (List.mem_singleton.mp hmem)

theorem call_list_rev {Q : Value → Shared → Prop} {I l : Addr} {items : Array Value} (hh : A.handled = none) (hit : s.heap.IsRevIter I l ((items.size : Int) - 1)) (hl : s.heap.IsList l items) (hne : l ≠ I) (hlen : items.size ≤ sizeLine)
    (hQ : ∀ h' tk acc' c', (∀ b o, b ≠ I → s.heap.get? b = some o → h'.get? b = some o) →
      h'.get? s.heap.objs.size = some { cls := .type "list", dict := none, data := .seq acc' c', slots := #[] } → ItemsOf (fun i v => items[items.size - 1 - i]? = some v) acc' items.size → Q (.ref s.heap.objs.size) { s with heap := h', toks := tk }) :
    wpAny (model prog w) A (call (.type "list") [.ref I]) Q E s := by
  obtain ⟨oI, hoI, _⟩ := id hit
  obtain ⟨ol, hol, _⟩ := id hl
  have n1 : s.heap.objs.size ≠ I := Nat.ne_of_gt (Heap.lt_size hoI)
  have n2 : s.heap.objs.size ≠ l := Nat.ne_of_gt (Heap.lt_size hol)
  refine callType_codes (Q₁ := fun obj s₁ => obj = .ref s.heap.objs.size ∧ s₁ = { s with heap := s.heap.push { cls := .type "list", data := .seq #[] } }) F.called_list (F.typeCall_list_1 _) F.entry_list_init
    (code_list_new _ ⟨rfl, rfl⟩) fun obj s₁ h₁ => ?_
  obtain ⟨rfl, rfl⟩ := h₁
  have hS : (s.heap.push { cls := .type "list", data := .seq #[] }).get? s.heap.objs.size = some { cls := .type "list", data := .seq #[] } := Heap.get?_push_size _ rfl
  refine ⟨⟨_, hS, rfl⟩, F.args_list_init_2 _ _, ?_⟩
  show wpAny _ _ (do let old ← Builtin.List.listItems (.ref s.heap.objs.size); Builtin.List.listUpdate (.ref s.heap.objs.size) (fun _ => #[]); letGo old.toList.reverse; Builtin.List.listExtendWith (.ref s.heap.objs.size) (.ref I) .none) _ _ _
  refine wpAny_bind ?_
  unfold Builtin.List.listItems
  refine wpAny_bind (wpAny_seqItems hS rfl (wpAny_pure ?_))
  show wpAny _ _ (updateSeq s.heap.objs.size (fun _ => #[]) >>= fun _ => letGo (#[] : Array Value).toList.reverse >>= fun _ => Builtin.List.listExtendWith (.ref s.heap.objs.size) (.ref I) .none) _ _ _
  refine wpAny_bind (wpAny_updateSeq hS rfl ?_)
  have hS₂ := Heap.get?_update_self (Obj.mapSeq (fun _ => (#[] : Array Value))) hS rfl
  have oth : ∀ b o, b ≠ s.heap.objs.size → s.heap.get? b = some o → ((s.heap.push { cls := .type "list", data := .seq #[] }).update s.heap.objs.size (Obj.mapSeq (fun _ => (#[] : Array Value)))).get? b = some o :=
    fun b o hb e => (Heap.get?_update_other _ _ (Ne.symm hb)).trans (Heap.get?_push_of_some _ e)
  refine wpAny_bind (wpAny_letGo ?_)
  refine extend_rev (A := A.in1) (items := items) hh (Heap.IsRevIter.at hit fun o e => oth _ _ (Ne.symm n1) e) (hl.at fun o e => oth _ _ (Ne.symm n2) e) hne hlen _ .none _ hS₂ n1 n2 fun h' tk acc' c' hk hS' hacc => ?_
  exact ⟨rfl, hQ h' tk acc' c' (fun b o hb e => hk b o (Nat.ne_of_lt (Heap.lt_size e)) hb (oth b o (Nat.ne_of_lt (Heap.lt_size e)) e)) hS' hacc⟩
end

section
variable {am : Amb} {stack : List Env} {A : Around} {π : List Addr} {s : Shared} {Hc : H}

theorem items_rev {xs : List Value} {acc : Array Value} (h : ItemsOf (fun i v => (List.toArray xs)[(List.toArray xs).size - 1 - i]? = some v) acc (List.toArray xs).size) : acc.toList = xs.reverse := by
  obtain ⟨h1, h2⟩ := h
  apply List.ext_getElem?
  intro i
  by_cases hi : i < xs.length
  · have hia : i < acc.size := by rw [h1]; simpa using hi
    have := h2 i acc[i] (Array.getElem?_eq_getElem hia)
    simp only [List.size_toArray, List.getElem?_toArray] at this
    rw [List.getElem?_reverse hi, this]
    simp [hia]
  · have hn : xs.length ≤ i := by omega
    have h1' : acc.size = xs.length := by simpa using h1
    rw [List.getElem?_eq_none (by rw [Array.length_toList, h1']; exact hn), List.getElem?_eq_none (by rw [List.length_reverse]; exact hn)]

/-- list(reversed(x)), the two calls -/
theorem wp_listRev {a : V} {x : Value} {vs : List V} {Q : Value → Shared → Prop} {E : Value → Shared → Prop} (hh : A.handled = none) (hr : HR am stack π Hc s.heap) (ha : VR am π s.heap a x) (hi : litems Hc a = some vs) (h : ∀ y s', NewL am π s vs.reverse y s' → Q y s') :
    wpAny am.M A (call (.type "reversed") [x]) (fun y s' => wpAny am.M A (call (.type "list") [y]) Q E s') E s := by
  refine hold fun _ k_ => ?_
  obtain ⟨l, xs, rfl, hl, hz, hv⟩ := litems_at hr ha hi
  refine k_ ?_
  have e := hv.len
  obtain ⟨ol, hol, _⟩ := id hl
  have hne : l ≠ s.heap.objs.size := Nat.ne_of_lt (Heap.lt_size hol)
  refine call_reversed_list hl ?_
  have hit : (s.heap.push (revObj l (((List.toArray xs).size : Int) - 1))).IsRevIter s.heap.objs.size l (((List.toArray xs).size : Int) - 1) := ⟨_, Heap.get?_push_size _ rfl, rfl, rfl⟩
  refine call_list_rev (s := { s with heap := s.heap.push (revObj l (((List.toArray xs).size : Int) - 1)) }) hh hit (hl.push _) hne (by simp only [List.size_toArray]; have := mil_le_line; omega) fun h' tk acc' c' k hn hacc => ?_
  have hacc' := items_rev hacc
  have e2 : acc' = List.toArray xs.reverse := by rw [← hacc']
  subst e2
  have k' : ∀ b o, s.heap.get? b = some o → h'.get? b = some o := fun b o q => k b o (Nat.ne_of_lt (Heap.lt_size q)) (Heap.get?_push_of_some _ q)
  have hnew : s.heap.get? (s.heap.push (revObj l (((List.toArray xs).size : Int) - 1))).objs.size = none := by
    cases q : s.heap.get? (s.heap.push (revObj l (((List.toArray xs).size : Int) - 1))).objs.size with
    | none => rfl
    | some o =>
      have h5 := Heap.lt_size q
      simp only [Heap.size_push] at h5
      exact absurd h5 (Nat.not_lt.mpr (Nat.le_succ _))
  exact h _ _ ⟨_, xs.reverse, h', tk, rfl, rfl, k', hnew, ⟨_, c', hn, rfl, rfl, rfl⟩, (hv.reverse.held hnew).keeps k'⟩






end

end Mine

namespace Mine
open PySem PySem.W PyProof.Rows
set_option maxRecDepth 100000

theorem kit_none_int (K : Frag) : kitOne K (.type "NoneType") (.type "int") = some false := by kernel_rfl
theorem kit_none_bool (K : Frag) : kitOne K (.type "NoneType") (.type "bool") = some false := by kernel_rfl
theorem kit_none_list (K : Frag) : kitOne K (.type "NoneType") (.type "list") = some false := by kernel_rfl
theorem kit_none_tuple (K : Frag) : kitOne K (.type "NoneType") (.type "tuple") = some false := by kernel_rfl
theorem kit_bool_int (K : Frag) : kitOne K (.type "bool") (.type "int") = some true := by kernel_rfl
theorem kit_bool_bool (K : Frag) : kitOne K (.type "bool") (.type "bool") = some true := by kernel_rfl
theorem kit_bool_list (K : Frag) : kitOne K (.type "bool") (.type "list") = some false := by kernel_rfl
theorem kit_bool_tuple (K : Frag) : kitOne K (.type "bool") (.type "tuple") = some false := by kernel_rfl
theorem kit_int_int (K : Frag) : kitOne K (.type "int") (.type "int") = some true := by kernel_rfl
theorem kit_int_bool (K : Frag) : kitOne K (.type "int") (.type "bool") = some false := by kernel_rfl
theorem kit_int_list (K : Frag) : kitOne K (.type "int") (.type "list") = some false := by kernel_rfl
theorem kit_int_tuple (K : Frag) : kitOne K (.type "int") (.type "tuple") = some false := by kernel_rfl
theorem kit_str_int (K : Frag) : kitOne K (.type "str") (.type "int") = some false := by kernel_rfl
theorem kit_str_bool (K : Frag) : kitOne K (.type "str") (.type "bool") = some false := by kernel_rfl
theorem kit_str_list (K : Frag) : kitOne K (.type "str") (.type "list") = some false := by kernel_rfl
theorem kit_str_tuple (K : Frag) : kitOne K (.type "str") (.type "tuple") = some false := by kernel_rfl
theorem kit_tuple_int (K : Frag) : kitOne K (.type "tuple") (.type "int") = some false := by kernel_rfl
theorem kit_tuple_bool (K : Frag) : kitOne K (.type "tuple") (.type "bool") = some false := by kernel_rfl
theorem kit_tuple_list (K : Frag) : kitOne K (.type "tuple") (.type "list") = some false := by kernel_rfl
theorem kit_tuple_tuple (K : Frag) : kitOne K (.type "tuple") (.type "tuple") = some true := by kernel_rfl
theorem kit_list_int (K : Frag) : kitOne K (.type "list") (.type "int") = some false := by kernel_rfl
theorem kit_list_bool (K : Frag) : kitOne K (.type "list") (.type "bool") = some false := by kernel_rfl
theorem kit_list_list (K : Frag) : kitOne K (.type "list") (.type "list") = some true := by kernel_rfl
theorem kit_list_tuple (K : Frag) : kitOne K (.type "list") (.type "tuple") = some false := by kernel_rfl
theorem kit_dict_int (K : Frag) : kitOne K (.type "dict") (.type "int") = some false := by kernel_rfl
theorem kit_dict_bool (K : Frag) : kitOne K (.type "dict") (.type "bool") = some false := by kernel_rfl
theorem kit_dict_list (K : Frag) : kitOne K (.type "dict") (.type "list") = some false := by kernel_rfl
theorem kit_dict_tuple (K : Frag) : kitOne K (.type "dict") (.type "tuple") = some false := by kernel_rfl

noncomputable def tyVal : Ty → Value
  | .int => .type "int" | .bool => .type "bool" | .list => .type "list" | .tuple => .type "tuple" | .valueError => .type "ValueError"
  | .own _ => .none
noncomputable def Ty.plain : Ty → Bool
  | .int | .bool | .list | .tuple => true
  | _ => false

/-- what isinstance knows of a value -/
noncomputable def kindOf (Hc : H) : V → Option String
  | .none => some "NoneType"
  | .bool _ => some "bool"
  | .int _ => some "int"
  | .str _ => some "str"
  | .tup _ => some "tuple"
  | .lst _ => some "list"
  | .dct => some "dict"
  | .ref i => match Hc[i]? with
    | some (.list _) => some "list"
    | some (.dict _) => some "dict"
    | none => Option.none
  | _ => Option.none


theorem kit_all (K : Frag) {Hc : H} {a : V} {k : String} {t : Ty} (hk : kindOf Hc a = some k) (ht : t.plain = true) : ∃ b, isTy Hc a t = some b ∧ kitOne K (.type k) (tyVal t) = some b := by
  cases a <;> simp only [kindOf, Option.some.injEq] at hk <;> try cases hk

  · cases t <;> simp only [Ty.plain, Bool.false_eq_true] at ht <;> first | exact ⟨_, rfl, kit_none_int K⟩ | exact ⟨_, rfl, kit_none_bool K⟩ | exact ⟨_, rfl, kit_none_list K⟩ | exact ⟨_, rfl, kit_none_tuple K⟩
  · cases t <;> simp only [Ty.plain, Bool.false_eq_true] at ht <;> first | exact ⟨_, rfl, kit_bool_int K⟩ | exact ⟨_, rfl, kit_bool_bool K⟩ | exact ⟨_, rfl, kit_bool_list K⟩ | exact ⟨_, rfl, kit_bool_tuple K⟩
  · cases t <;> simp only [Ty.plain, Bool.false_eq_true] at ht <;> first | exact ⟨_, rfl, kit_int_int K⟩ | exact ⟨_, rfl, kit_int_bool K⟩ | exact ⟨_, rfl, kit_int_list K⟩ | exact ⟨_, rfl, kit_int_tuple K⟩
  · cases t <;> simp only [Ty.plain, Bool.false_eq_true] at ht <;> first | exact ⟨_, rfl, kit_str_int K⟩ | exact ⟨_, rfl, kit_str_bool K⟩ | exact ⟨_, rfl, kit_str_list K⟩ | exact ⟨_, rfl, kit_str_tuple K⟩
  · cases t <;> simp only [Ty.plain, Bool.false_eq_true] at ht <;> first | exact ⟨_, rfl, kit_tuple_int K⟩ | exact ⟨_, rfl, kit_tuple_bool K⟩ | exact ⟨_, rfl, kit_tuple_list K⟩ | exact ⟨_, rfl, kit_tuple_tuple K⟩
  · cases t <;> simp only [Ty.plain, Bool.false_eq_true] at ht <;> first | exact ⟨_, rfl, kit_list_int K⟩ | exact ⟨_, rfl, kit_list_bool K⟩ | exact ⟨_, rfl, kit_list_list K⟩ | exact ⟨_, rfl, kit_list_tuple K⟩
  · split at hk
    · rename_i vs hc
      cases hk
      cases t <;> simp only [Ty.plain, Bool.false_eq_true] at ht <;> simp only [isTy, hc] <;> first | exact ⟨_, rfl, kit_list_int K⟩ | exact ⟨_, rfl, kit_list_bool K⟩ | exact ⟨_, rfl, kit_list_list K⟩ | exact ⟨_, rfl, kit_list_tuple K⟩
    · rename_i es hc
      cases hk
      cases t <;> simp only [Ty.plain, Bool.false_eq_true] at ht <;> simp only [isTy, hc] <;> first | exact ⟨_, rfl, kit_dict_int K⟩ | exact ⟨_, rfl, kit_dict_bool K⟩ | exact ⟨_, rfl, kit_dict_list K⟩ | exact ⟨_, rfl, kit_dict_tuple K⟩
    · cases hk
  · cases t <;> simp only [Ty.plain, Bool.false_eq_true] at ht <;> first | exact ⟨_, rfl, kit_dict_int K⟩ | exact ⟨_, rfl, kit_dict_bool K⟩ | exact ⟨_, rfl, kit_dict_list K⟩ | exact ⟨_, rfl, kit_dict_tuple K⟩

section
variable {am : Amb} {stack : List Env} {A : Around} {π : List Addr} {s : Shared} {Hc : H}

theorem kitx_at {a : V} {x : Value} (hr : HR am stack π Hc s.heap) (ha : VR am π s.heap a x) (hne : kindOf Hc a ≠ Option.none) : ∃ k P, kindOf Hc a = some k ∧ KitX am.K x (.type k) P ∧ P s.heap ∧ x ≠ .builtin "__main__.__loader__#opaque" := by
  cases a <;> simp only [VR] at ha <;> try (exact ha.elim)
  · subst ha; exact ⟨_, _, rfl, kitx_none, trivial, by simp⟩
  · subst ha; exact ⟨_, _, rfl, kitx_bool, trivial, by simp⟩
  · obtain ⟨t, rfl⟩ := ha; exact ⟨_, _, rfl, kitx_int, trivial, by simp⟩
  · obtain ⟨t, rfl⟩ := ha; exact ⟨_, _, rfl, kitx_str, trivial, by simp⟩
  · obtain ⟨l, xs, rfl, _, ⟨o, ho, hc, _⟩, _⟩ := ha; exact ⟨_, _, rfl, kitx_tuple, ⟨o, ho, hc⟩, by simp⟩
  · obtain ⟨l, xs, rfl, _, ⟨o, ho, hc, _⟩, _⟩ := ha; exact ⟨_, _, rfl, kitx_list, ⟨o, ho, hc⟩, by simp⟩
  · rename_i i
    obtain ⟨l, rfl, hl⟩ := ha
    simp only [kindOf] at hne ⊢
    cases hc : Hc[i]? with
    | none => simp [hc] at hne
    | some c =>
      cases c with
      | list vs =>
        refine hold fun _ k_ => ?_
        obtain ⟨xs, ⟨o, n, ho, hcl, _⟩, _⟩ := hr.cell i _ l hc hl
        refine k_ ?_
        exact ⟨"list", _, by simp, kitx_list, ⟨o, ho, hcl⟩, by simp⟩
      | dict es => exact (hr.cell i _ l hc hl).elim
  · obtain ⟨l, o, es, ep, rfl, _, ho, hc, _⟩ := ha; exact ⟨_, _, rfl, kitx_dict, ⟨o, ho, hc⟩, by simp⟩

theorem isTy_kind {a : V} {t : Ty} {b : Bool} (h : isTy Hc a t = some b) : kindOf Hc a ≠ Option.none := by
  cases a <;> simp only [isTy] at h <;> try (cases h)
  all_goals first | (simp [kindOf]; done) | skip
  rename_i i
  simp only [kindOf]
  split at h <;> simp_all

theorem op_isi {a : V} {x : Value} {t : Ty} (hK : Frag.In am.K am.B) (hr : HR am stack π Hc s.heap) (ha : VR am π s.heap a x) (ht : t.plain = true) :
    JAt am stack A (call (.builtin "isinstance") [x, tyVal t]) (R.opt ((isTys Hc a [t]).map V.bool) Hc) (VR am) π s := by
  cases hb : isTy Hc a t with
  | none => exact .inl (by simp [isTys, hb])
  | some b =>
    refine hold fun _ k_ => ?_
    obtain ⟨k, P, hk, Z, p, hx⟩ := kitx_at hr ha (isTy_kind hb)
    refine k_ ?_
    obtain ⟨b', h1, h2⟩ := kit_all am.K hk ht
    rw [hb] at h1; cases h1
    have e : isTys Hc a [t] = some b := by simp only [isTys, hb]; cases b <;> rfl
    rw [e]
    exact .inr (kia_one Z (hK.keeps hr.base) p h2 hx fun tk => OkP.tok hr rfl)

theorem op_isi2 {a : V} {x : Value} {ts : List Ty} {tp : Addr} {n : Nat} {dd : Option Addr} {sl : Array (Option Value)} (hK : Frag.In am.K am.B) (hr : HR am stack π Hc s.heap) (ha : VR am π s.heap a x) (ht : ts.all Ty.plain = true) (hts : ts ≠ []) (htp : s.heap.get? tp = some ⟨.type "tuple", dd, .seq (List.toArray (ts.map tyVal)) n, sl⟩) :
    JAt am stack A (call (.builtin "isinstance") [x, .ref tp]) (R.opt ((isTys Hc a ts).map V.bool) Hc) (VR am) π s := by
  cases hb : isTys Hc a ts with
  | none => exact .inl rfl
  | some b =>
    by_cases hne : kindOf Hc a = Option.none
    · cases ts with
      | nil => exact absurd rfl hts
      | cons t ts =>
        simp only [isTys] at hb
        cases hq : isTy Hc a t with
        | none => simp [hq] at hb
        | some b' => exact absurd hne (isTy_kind hq)
    · refine hold fun _ k_ => ?_
      obtain ⟨k, P, hk, Z, p, hx⟩ := kitx_at hr ha hne
      refine k_ ?_
      have key : ∀ ts : List Ty, ts.all Ty.plain = true → ∀ b, isTys Hc a ts = some b → kitAny am.K (.type k) (ts.map tyVal) = some b := by
        intro ts
        induction ts with
        | nil => intro _ b h; simpa [isTys, kitAny] using h
        | cons t ts ih =>
          intro ht b h
          simp only [List.all_cons, Bool.and_eq_true] at ht
          obtain ⟨b', h1, h2⟩ := kit_all am.K hk ht.1
          simp only [isTys, h1] at h
          simp only [List.map_cons, kitAny, h2]
          cases b' with
          | true => exact h
          | false => exact ih ht.2 b h
      exact .inr (kia_tup Z (hK.keeps hr.base) p htp (key ts ht b hb) hx fun tk => OkP.tok hr rfl)

theorem cut_clip (n : Nat) (i : Int) : clipAt n i = cut n i := by
  have h := clipAt_cast n i
  unfold cut
  split <;> rename_i hi
  · rw [if_pos hi] at h; omega
  · rw [if_neg hi] at h; omega

theorem slice_pick (xs : List Value) (lo hi : Option Int) : slicePick (List.toArray xs) lo hi none = List.toArray (slc xs lo hi) := by
  rw [slicePick_plain]
  unfold slc
  simp only [List.size_toArray]
  have e1 : (lo.elim 0 (clipAt xs.length)) = (match lo with | some i => cut xs.length i | none => 0) := by cases lo <;> simp [cut_clip]
  have e2 : (hi.elim xs.length (clipAt xs.length)) = (match hi with | some i => cut xs.length i | none => xs.length) := by cases hi <;> simp [cut_clip]
  rw [e1, e2]
  congr 1
  first | (rw [List.drop_take]; done) | (rw [List.drop_take]; rfl)

theorem VRs.slc {vs : List V} {xs : List Value} {h : Heap} (lo hi : Option Int) (e : VRs am π h vs xs) : VRs am π h (Mine.slc vs lo hi) (Mine.slc xs lo hi) := by
  unfold Mine.slc
  rw [e.len]
  exact (e.take _).drop _

theorem slc_len {α : Type} (xs : List α) (lo hi : Option Int) : (slc xs lo hi).length ≤ xs.length := by
  unfold slc
  simp only [List.length_drop, List.length_take]
  omega

/-- a part of a slice -/
noncomputable def PartR : Option V → Option Int → Value → Prop
  | none, lo, x => lo = none ∧ x = .none
  | some v, lo, x => ∃ i t, v = .int i ∧ lo = some i ∧ x = .int i t

theorem PartR.is {v : Option V} {lo : Option Int} {x : Value} (h : PartR v lo x) : IsPart x lo := by
  cases v with
  | none => obtain ⟨rfl, rfl⟩ := h; exact .none
  | some v => obtain ⟨i, t, _, rfl, rfl⟩ := h; exact .int i t

theorem wp_slice {value slice : Expr} {a : V} {x : Value} {vs : List V} {lo hi : Option Int} {vl vu : Value} {Q : Value → Shared → Prop} {E : Value → Shared → Prop} (hr : HR am stack π Hc s.heap) (ha : VR am π s.heap a x) (hi' : litems Hc a = some vs) (pl : IsPart vl lo) (pu : IsPart vu hi)
    (h : ∀ y s', OkP am stack (VR am) π s (.ok (V.lst (slc vs lo hi)) Hc) y s' → Q y s') :
    wpAny am.M A (newFields "slice" [vl, vu, .none]) (fun i s₁ => wpAny am.M A (subscriptTail value slice x i) Q E s₁) E s := by
  refine hold fun _ k_ => ?_
  obtain ⟨l, xs, rfl, hl, hz, hv⟩ := litems_at hr ha hi'
  refine k_ ?_
  have e := hv.len
  unfold newFields
  refine wpAny_newObj_type ?_
  have k : ∀ b o, s.heap.get? b = some o → (s.heap.push { cls := .type "slice", data := .fields #[vl, vu, .none] }).get? b = some o := fun b o q => Heap.get?_push_of_some _ q
  refine sub_tail (s := { s with heap := s.heap.push { cls := .type "slice", data := .fields #[vl, vu, .none] } }) (hl.push _).typeIs list_getitem_lookup
    (wpAny_getItem_list_slice (hl.push _) (Heap.IsSliceOf.new ..) pl pu .none (by simp) ?_ (by simp only [List.size_toArray]; have := mil_le_line; omega))
  rw [slice_pick]
  have n := NewL.push (am := am) (π := π) (s := { s with heap := s.heap.push { cls := .type "slice", data := .fields #[vl, vu, .none] } }) (o := { cls := .type "list", data := .seq (List.toArray (slc xs lo hi)) }) (n := 0) (tk := s.toks) ((hv.slc lo hi).keeps k) rfl rfl rfl
  exact h _ _ (OkP.step (Step.keeps (tk := s.toks) k) (n.lst (hr.keeps k) (Nat.le_trans (slc_len _ _ _) hz)))

end

end Mine

namespace Mine
open PySem PySem.W

noncomputable def Amb.at (am : Amb) (res : List Addr) : Amb := { am with res := res }

/-- the builtins that are named -/
noncomputable def bTab : List (Str × Value) :=
  [("len", .builtin "len"), ("all", .builtin "all"), ("any", .builtin "any"), ("isinstance", .builtin "isinstance"), ("sorted", .builtin "sorted"), ("min", .builtin "min"), ("sum", .builtin "sum"),
   ("list", .type "list"), ("tuple", .type "tuple"), ("int", .type "int"), ("str", .type "str"), ("bool", .type "bool"), ("range", .type "range"), ("reversed", .type "reversed"),
   ("enumerate", .type "enumerate"), ("ValueError", .type "ValueError")]

def btOk : Value → Bool
  | .builtin _ => true
  | .type _ => true
  | _ => false
theorem bt_all : bTab.all (fun p => btOk p.2) = true := by kernel_rfl
theorem btOk_inv {v : Value} (h : btOk v = true) : (∃ id, v = .builtin id) ∨ ∃ T, v = .type T := by
  cases v <;> first | exact .inl ⟨_, rfl⟩ | exact .inr ⟨_, rfl⟩ | exact noB h
theorem bt_kind {x : Str} {v : Value} (h : (x, v) ∈ bTab) : (∃ id, v = .builtin id) ∨ ∃ T, v = .type T := btOk_inv (List.all_eq_true.mp bt_all _ h)
theorem bt_mem {x : Str} {v : Value} (h : bTab.contains (x, v) = true) : (x, v) ∈ bTab := List.contains_iff_mem.mp h

/-- an exception class of the text's own: what isinstance asks of it -/
structure ExcCls (am : Amb) (c : String) (C : Addr) : Prop where
  name : am.mg (Str.ofString c) = some (.ref C)
  get : findIn am.K (.ref C) "__getattribute__" = some (some (.builtin "BaseException.__getattribute__")) ∧ findIn am.K (.ref C) "__getattr__" = some none
  cls : (clsIn am.K C).isSome = true
  find : findIn am.K (.ref C) "__class__" = some (some (.builtin "object.__class__"))
  spec : specialIn am.K (.builtin "object.__class__") "__get__" = some (some (.builtin "getset_descriptor.__get__"))
  takes : takesIn am.K (.builtin "object.__class__") = some true
  mro : mroIn am.K C (.type "object") = some true
  val : kitOne am.K (.ref C) (.type "ValueError") = some true

/-- a class whose exceptions are raised -/
noncomputable def RaiseAt (B : Heap) (C : Addr) : Prop := ∃ nm q N bs bm hdct sn sub ab col dd k0 k1 k2 k3 k5 mN,
  B.get? C = some (excClassObj nm q C N bs bm hdct sn sub ab col dd k0 k1 k2 k3 k5 "ValueError.__new__") ∧ B.Ns N mN ∧ (∀ n ∈ quietNames, mN n = none) ∧
    OwnTailQ B [.type "ValueError", .type "Exception", .type "BaseException", .type "object"] bm

structure AmbX (am : Amb) : Prop extends AmbOK am where
  K : Frag.In am.K am.B
  bt : ∀ p ∈ bTab, am.mg p.1 = none ∧ am.mb p.1 = some p.2
  exc : ∀ c ∈ excNames, ∃ C, ExcCls am c C
  sub : ∀ c ∈ excNames, ∀ d ∈ excNames, ∀ C D, am.mg (Str.ofString c) = some (.ref C) → am.mg (Str.ofString d) = some (.ref D) → kitOne am.K (.ref C) (.ref D) = some (c == d || d == "RingError")
  exm : ∀ c ∈ excNames, ∀ C D, am.mg (Str.ofString c) = some (.ref C) → am.mg (Str.ofString "RingError") = some (.ref D) → exmOne am.K (.ref C) (.ref D) = some true
  rs : ∀ c ∈ excNames, ∀ C, am.mg (Str.ofString c) = some (.ref C) → RaiseAt am.B C

theorem AmbX.at {am : Amb} (x : AmbX am) (res : List Addr) : AmbX (am.at res) := ⟨⟨x.g, x.b, x.nolimit, x.noseer, x.tree⟩, x.K, x.bt, fun c hc => let ⟨C, e⟩ := x.exc c hc; ⟨C, e.name, e.get, e.cls, e.find, e.spec, e.takes, e.mro, e.val⟩, x.sub, x.exm, x.rs⟩

noncomputable def FunAt (am : Amb) (f : String) (a : Addr) : Prop := am.mg (Str.ofString f) = some (.ref a) ∧ ∃ o fd, am.B.get? a = some o ∧ o.data = .func fd

structure CkR (am : Amb) (c : Ck) (cx : Cx) : Prop where
  ctx : cx.ctx = c.ctx
  names : cx.env.scope.names = c.names
  fns : ∀ f ∈ c.fns, ∃ a, FunAt am f a
  nums : ∀ p ∈ c.nums, ∃ t, am.mg (Str.ofString p.1) = some (.int p.2 t)

noncomputable def ArgR (am : Amb) (q : Bool) (π : List Addr) (h : Heap) (vs : List V) (xs : List Value) : Prop :=
  VRs am π h vs xs ∨ (q = false ∧ ∃ c a, vs = [.exc c] ∧ xs = [.ref a] ∧ a ∉ π ∧ ExcAt am h c a)

structure FnOK (am : Amb) (n : Nat) (F : Fn) : Prop where
  call : ∀ res q f a vs xs stack A π Hc s, FunAt am f a → AS n stack A → HR (am.at res) stack π Hc s.heap → Hd q A π (Fs stack) s.heap → ArgR (am.at res) q π s.heap vs xs →
    JAt (am.at res) stack A (PySem.call (.ref a) xs []) (F q f vs Hc) (VR (am.at res)) π s

/-- all that an expression's walk stands on -/
structure Base (am : Amb) (n : Nat) (q : Bool) (F : Fn) (c : Ck) (cx : Cx) (ρ : List V) (A : Around) : Prop where
  ok : AmbX am
  fn : FnOK am n F
  ck : CkR am c cx
  cxk : CxOK cx
  as : AS n cx.stack A
  ne : q = true → NoExc ρ

section
variable {am : Amb} {n : Nat} {q : Bool} {F : Fn} {c : Ck} {cx : Cx} {ρ : List V} {A : Around} {res π : List Addr} {Hc : H} {s : Shared}

theorem ns_stays {B h : Heap} (k : B.StaysIn h) {a : Addr} {m : Str → Option Value} (hn : B.Ns a m) : h.Ns a m := let ⟨o, es, ep, ho, r⟩ := hn; ⟨o, es, ep, k a o ho, r⟩

theorem HR.gns {am : Amb} {stack : List Env} (ok : AmbX am) (hr : HR (am.at res) stack π Hc s.heap) : s.heap.Ns mainGlobals am.mg := ns_stays hr.base ok.g
theorem HR.bns {am : Amb} {stack : List Env} (ok : AmbX am) (hr : HR (am.at res) stack π Hc s.heap) : s.heap.Ns builtinsNs am.mb := ns_stays hr.base ok.b

theorem kind_is (b : CkR am c cx) (x : Str) : cx.env.kindOf x = c.names.lookup x := by unfold Env.kindOf; rw [b.names]

/-- a global name -/
theorem wp_glob (b : Base am n q F c cx ρ A) (hr : HR (am.at res) cx.stack π Hc s.heap) {x : Str} {p : Pos} {v : Value} {Q : Value → Shared → Prop} {E : Value → Shared → Prop} (hx : c.glob x = true) (hv : am.mg x = some v) (h : Q v s) :
    wpAny am.M A (eval (.Name x p) cx.env) Q E s := by
  unfold Ck.glob at hx
  simp only [Bool.and_eq_true, beq_iff_eq, Bool.not_eq_true'] at hx
  refine Calls.Name_function_global b.cxk.kind (by rw [kind_is b.ck]; exact hx.1) (Calls.loadGlobal_global (mg := am.mg) ?_ hv h) hx.2
  rw [b.cxk.globals]; exact HR.gns b.ok hr
/-- a builtin's name -/
theorem wp_bt (b : Base am n q F c cx ρ A) (hr : HR (am.at res) cx.stack π Hc s.heap) {x : Str} {p : Pos} {v : Value} {Q : Value → Shared → Prop} {E : Value → Shared → Prop} (hx : c.glob x = true) (hv : (x, v) ∈ bTab) (h : Q v s) :
    wpAny am.M A (eval (.Name x p) cx.env) Q E s := by
  unfold Ck.glob at hx
  simp only [Bool.and_eq_true, beq_iff_eq, Bool.not_eq_true'] at hx
  obtain ⟨h1, h2⟩ := b.ok.bt _ hv
  refine Calls.Name_function_global b.cxk.kind (by rw [kind_is b.ck]; exact hx.1) (Calls.loadGlobal_builtin (mg := am.mg) (mb := am.mb) ?_ h1 ?_ h2 h) hx.2
  · rw [b.cxk.globals]; exact HR.gns b.ok hr
  · rw [b.cxk.builtins]; exact HR.bns b.ok hr

/-- a name of the frame -/
theorem wp_var (b : Base am n q F c cx ρ A) (st : St (am.at res) q cx ρ π Hc A s) {x : Str} {i : Nat} {p : Pos} {v : V} {Q : Value → Shared → Prop} {E : Value → Shared → Prop} (hx : c.var x i = true) (hv : ρ[i]? = some v) (hu : v ≠ .undef)
    (h : ∀ v', SR (am.at res) π s.heap v v' → Q v' s) : wpAny am.M A (eval (.Name x p) cx.env) Q E s := by
  unfold Ck.var at hx
  simp only [Bool.and_eq_true, beq_iff_eq, Bool.not_eq_true'] at hx
  refine hold fun _ k_ => ?_
  obtain ⟨⟨⟨h1, h2⟩, h3⟩, h4⟩ := hx
  refine k_ ?_
  have hvis : Vis cx.env x := by
    unfold Vis; rw [kind_is b.ck]
    unfold visible at h2
    simp only [Bool.or_eq_true, beq_iff_eq] at h2
    rcases h2 with (h2 | h2) | h2 <;> simp [h2]
  obtain ⟨v', h5, h6⟩ := st.er.var x i v (by rw [b.ck.ctx]; exact h1) hv hu hvis
  refine wpAny_Name ?_ h3
  rcases h5 with ⟨k, m, h7, h8⟩ | ⟨k, cc, h7, h8⟩
  · exact wpAny_loadName_local b.cxk.kind k h7 h8 (h v' h6)
  · rcases k with k | k
    · exact wpAny_loadName_cell b.cxk.kind k h7 h8 (h v' h6)
    · exact wpAny_loadName_free b.cxk.kind k h7 h8 (h v' h6) h4

theorem ev_var (b : Base am n q F c cx ρ A) (st : St (am.at res) q cx ρ π Hc A s) {x : Str} {i : Nat} {p : Pos} (hx : c.var x i = true) :
    JAt (am.at res) cx.stack A (eval (.Name x p) cx.env) (evE q F ρ (.var i) Hc) (VR (am.at res)) π s := by
  simp only [qE_1, qE_2, qE_3, qE_4, qE_5, qE_6, qE_7, qE_8, qE_9, qE_10, qE_11, qE_12, qE_13, qE_14, qE_15, qE_16, qE_17, qE_18, qE_19, qE_20, qE_21, qE_22, qE_23, qE_24, qE_25, qE_26, qE_27, qE_28, qE_29, qE_30, qE_31, qE_32, qE_33, qE_34, qE_35, qE_36, qE_37, qE_38]
  cases hv : ρ[i]? with
  | none => exact .inl rfl
  | some v =>
    have go : (∀ c, v ≠ .exc c) → v ≠ .undef → JAt (am.at res) cx.stack A (eval (.Name x p) cx.env) (.ok v Hc) (VR (am.at res)) π s :=
      fun h1 h2 => .inr (wp_var b st hx hv h2 fun v' h => OkP.here st.hr (h.vr h1))
    cases v with
    | undef => exact .inl rfl
    | exc c => exact .inl rfl
    | _ => exact go (by simp) (by simp)

/-- the value of a test -/
noncomputable def tr (r : R V) : R Bool := r.bind fun x h => match truthy x with
  | some b => .ok b h
  | none => .bad

noncomputable def BR (_ : List Addr) (_ : Heap) (b : Bool) (a : Bool) : Prop := b = a

theorem wp_truthy {am : Amb} {stack : List Env} {x : Value} {v : V} (hr : HR am stack π Hc s.heap) (hv : VR am π s.heap v x) :
    JAt am stack A (PySem.truthy x) ((match truthy v with | some b => R.ok b Hc | none => R.bad)) BR π s := by
  cases v with
  | bool b => simp only [VR] at hv; subst hv; exact .inr (wpAny_truthy_bool (OkP.here hr rfl))
  | _ => exact .inl rfl

theorem bind_tr {α : Type} (r : R α) (f : α → H → R V) : tr (r.bind f) = r.bind fun a h => tr (f a h) := by cases r <;> rfl
theorem tr_bind {α : Type} (r : R V) (f : Bool → H → R α) : (tr r).bind f = r.bind fun x h => match truthy x with
  | some b => f b h
  | none => .bad := by
  cases r with
  | ok v h => simp only [tr, R.bind]; cases truthy v <;> rfl
  | _ => rfl

end

end Mine

namespace Mine
open PySem PySem.W PyProof.Rows

section
variable {am : Amb} {stack : List Env} {A : Around} {α β γ δ : Type} {Rel : List Addr → Heap → β → α → Prop} {Rel' : List Addr → Heap → δ → γ → Prop} {π : List Addr} {s : Shared}

/-- one thing behind another, where the library says so in one rule -/
theorem JAt.seqP {m : Sem α} {t : Sem γ} {f : α → Sem γ} {r : R β} {g : β → H → R δ} {P : α → Shared → Prop}
    (K : ∀ (Q : γ → Shared → Prop) (E : Value → Shared → Prop), wpAny am.M A m (fun a s₁ => P a s₁ ∧ wpAny am.M A (f a) Q E s₁) E s → wpAny am.M A t Q E s) (h1 : JAt am stack A m r Rel π s)
    (h2 : ∀ a b H' π' s', r = .ok b H' → Step (Fs stack) π s π' s' → HR am stack π' H' s'.heap → Rel π' s'.heap b a → P a s' ∧ JAt am stack A (f a) (g b H') Rel' π' s') :
    JAt am stack A t (r.bind g) Rel' π s := by
  rcases h1 with rfl | h1
  · exact .inl rfl
  · cases r with
    | bad => exact .inl rfl
    | err c H' =>
      refine .inr (K _ _ (wpAny_mono h1 (fun a s' h => ?_) fun e s' h => ?_))
      · obtain ⟨_, _, _, h, _⟩ := h; cases h
      · refine hold fun _ k_ => ?_
        obtain ⟨c', H'', π', e', C, fl, h, r2, r3, r4, r5, r6⟩ := h
        refine k_ ?_
        cases h
        exact ⟨c, H', π', e', C, fl, rfl, r2, r3, r4, r5, r6⟩
    | ok b H' =>
      by_cases hb : g b H' = .bad
      · exact .inl hb
      · refine .inr (K _ _ (wpAny_mono h1 (fun a s' h => ?_) fun e s' h => ?_))
        · refine hold fun _ k_ => ?_
          obtain ⟨b', H'', π', h, h3, h4, h5⟩ := h
          refine k_ ?_
          cases h
          obtain ⟨hp, h2⟩ := h2 a b H' π' s' rfl h3 h4 h5
          rcases h2 with h6 | h6
          · exact absurd h6 hb
          · exact ⟨hp, wpAny_mono h6 (fun _ _ y => OkP.step h3 y) fun _ _ y => ErP.step h3 y⟩
        · obtain ⟨_, _, _, _, _, _, h, _⟩ := h; cases h

theorem JAt.seq {m : Sem α} {t : Sem γ} {f : α → Sem γ} {r : R β} {g : β → H → R δ}
    (K : ∀ (Q : γ → Shared → Prop) (E : Value → Shared → Prop), wpAny am.M A m (fun a s₁ => wpAny am.M A (f a) Q E s₁) E s → wpAny am.M A t Q E s) (h1 : JAt am stack A m r Rel π s)
    (h2 : ∀ a b H' π' s', r = .ok b H' → Step (Fs stack) π s π' s' → HR am stack π' H' s'.heap → Rel π' s'.heap b a → JAt am stack A (f a) (g b H') Rel' π' s') :
    JAt am stack A t (r.bind g) Rel' π s :=
  JAt.seqP (P := fun _ _ => True) (fun Q E h => K Q E (wpAny_mono h (fun _ _ x => x.2) fun _ _ x => x)) h1 fun a b H' π' s' e1 e2 e3 e4 => ⟨trivial, h2 a b H' π' s' e1 e2 e3 e4⟩
end

section
variable (am : Amb) (n : Nat) (q : Bool) (F : Fn) (c : Ck)

noncomputable def EJ (e : PE) (ex : Expr) : Prop := ∀ {cx : Cx} {ρ : List V} {A : Around} {res π : List Addr} {Hc : H} {s : Shared}, Base am n q F c cx ρ A → St (am.at res) q cx ρ π Hc A s →
  JAt (am.at res) cx.stack A (eval ex cx.env) (evE q F ρ e Hc) (VR (am.at res)) π s
noncomputable def TJ (e : PE) (ex : Expr) : Prop := ∀ {cx : Cx} {ρ : List V} {A : Around} {res π : List Addr} {Hc : H} {s : Shared}, Base am n q F c cx ρ A → St (am.at res) q cx ρ π Hc A s →
  JAt (am.at res) cx.stack A (isTrue ex cx.env (eval ex cx.env)) (tr (evE q F ρ e Hc)) BR π s

noncomputable def AllJ : List PE → List Expr → Prop
  | [], [] => True
  | e :: es, x :: xs => (isStar x = false ∧ EJ am n q F c e x ∧ TJ am n q F c e x) ∧ AllJ es xs
  | _, _ => False
end

noncomputable def plainTest (e : Expr) : Bool := @Expr.casesOn (fun _ => Bool) e (fun _ _ _ => false) (fun _ _ _ => true) (fun _ _ _ _ => true) (fun o _ _ => decide (o ≠ .Not)) (fun _ _ _ _ => true) (fun _ _ _ _ => false) (fun _ _ _ => true) (fun _ _ _ => true) (fun _ _ _ _ => true) (fun _ _ _ _ => true) (fun _ _ _ _ _ => true) (fun _ _ _ _ => true) (fun _ _ => true) (fun _ _ => true) (fun _ _ => true) (fun _ _ _ _ => false) (fun _ _ _ _ => true) (fun _ _ _ _ => true) (fun _ _ => true) (fun _ _ _ => true) (fun _ _ _ => true) (fun _ _ _ => true) (fun _ _ => true) (fun _ _ => true) (fun _ _ => true) (fun _ _ _ => true) (fun _ _ _ _ => true)

theorem isTrue_plain {ex : Expr} (h : plainTest ex = true) (env : Env) (whole : Sem Value) : isTrue ex env whole = (do let v ← whole; standAt ex.pos; holding [v] (PySem.truthy v)) := by
  cases ex <;> first | rfl | exact noB h | skip
  rename_i op x pos
  cases op <;> first | rfl | exact noB h

section
variable {am : Amb} {n : Nat} {q : Bool} {F : Fn} {c : Ck}

theorem EJ.test {e : PE} {ex : Expr} (h : EJ am n q F c e ex) (hp : plainTest ex = true) : TJ am n q F c e ex := by
  intro cx ρ A res π Hc s b st
  refine JAt.congr (isTrue_plain hp _ _) rfl ?_
  unfold tr
  refine JAt.bind (h b st) fun x v H1 π1 s1 _ hs1 hr1 hv1 => JAt.standAt (JAt.holding (wp_truthy hr1 hv1))

theorem bop_of {op : Bop} {o : Operator} (h : bopIs op o = true) : o = bopM op := (of_decide_eq_true h).symm
theorem cop_of {op : Cop} {o : CmpOp} (h : copIs op o = true) : o = copM op := (of_decide_eq_true h).symm

theorem ej_none {k : Nat} {p : Pos} : EJ am n q F c .none (.Constant .none k p) := fun _ st => by
  simp only [qE_1, qE_2, qE_3, qE_4, qE_5, qE_6, qE_7, qE_8, qE_9, qE_10, qE_11, qE_12, qE_13, qE_14, qE_15, qE_16, qE_17, qE_18, qE_19, qE_20, qE_21, qE_22, qE_23, qE_24, qE_25, qE_26, qE_27, qE_28, qE_29, qE_30, qE_31, qE_32, qE_33, qE_34, qE_35, qE_36, qE_37, qE_38]; exact .inr (wpAny_Constant_none (OkP.here st.hr rfl))
theorem ej_bool {b : Bool} {k : Nat} {p : Pos} : EJ am n q F c (.bool b) (.Constant (.bool b) k p) := fun _ st => by
  simp only [qE_1, qE_2, qE_3, qE_4, qE_5, qE_6, qE_7, qE_8, qE_9, qE_10, qE_11, qE_12, qE_13, qE_14, qE_15, qE_16, qE_17, qE_18, qE_19, qE_20, qE_21, qE_22, qE_23, qE_24, qE_25, qE_26, qE_27, qE_28, qE_29, qE_30, qE_31, qE_32, qE_33, qE_34, qE_35, qE_36, qE_37, qE_38]; exact .inr (wpAny_Constant_bool (OkP.here st.hr rfl))
theorem ej_int {i : Int} {k : Nat} {p : Pos} : EJ am n q F c (.int i) (.Constant (.int i) k p) := fun _ st => by
  simp only [qE_1, qE_2, qE_3, qE_4, qE_5, qE_6, qE_7, qE_8, qE_9, qE_10, qE_11, qE_12, qE_13, qE_14, qE_15, qE_16, qE_17, qE_18, qE_19, qE_20, qE_21, qE_22, qE_23, qE_24, qE_25, qE_26, qE_27, qE_28, qE_29, qE_30, qE_31, qE_32, qE_33, qE_34, qE_35, qE_36, qE_37, qE_38]; exact .inr (wpAny_Constant_int (OkP.tok st.hr ⟨_, rfl⟩))
theorem ej_str {t : String} {k : Nat} {p : Pos} : EJ am n q F c (.str t) (.Constant (.str (Str.ofString t)) k p) := fun _ st => by
  simp only [qE_1, qE_2, qE_3, qE_4, qE_5, qE_6, qE_7, qE_8, qE_9, qE_10, qE_11, qE_12, qE_13, qE_14, qE_15, qE_16, qE_17, qE_18, qE_19, qE_20, qE_21, qE_22, qE_23, qE_24, qE_25, qE_26, qE_27, qE_28, qE_29, qE_30, qE_31, qE_32, qE_33, qE_34, qE_35, qE_36, qE_37, qE_38]; exact .inr (wpAny_Constant_str (OkP.tok st.hr ⟨_, rfl⟩))
theorem ej_var {i : Nat} {x : Str} {p : Pos} (h : c.var x i = true) : EJ am n q F c (.var i) (.Name x p) := fun b st => ev_var b st h
theorem ej_glob {g : String} {i : Int} {p : Pos} (h : c.glob (Str.ofString g) = true) (hm : (g, i) ∈ c.nums) : EJ am n q F c (.glob g i) (.Name (Str.ofString g) p) := fun b st => by
  simp only [qE_1, qE_2, qE_3, qE_4, qE_5, qE_6, qE_7, qE_8, qE_9, qE_10, qE_11, qE_12, qE_13, qE_14, qE_15, qE_16, qE_17, qE_18, qE_19, qE_20, qE_21, qE_22, qE_23, qE_24, qE_25, qE_26, qE_27, qE_28, qE_29, qE_30, qE_31, qE_32, qE_33, qE_34, qE_35, qE_36, qE_37, qE_38]
  obtain ⟨t, ht⟩ := b.ck.nums _ hm
  exact .inr (wp_glob b st.hr h ht (OkP.here st.hr ⟨t, rfl⟩))
theorem ej_neg {i : Int} {k : Nat} {p p' : Pos} : EJ am n q F c (.neg i) (.UnaryOp .USub (.Constant (.int i) k p) p') := fun {cx ρ A res π Hc s} b st => by
  simp only [qE_1, qE_2, qE_3, qE_4, qE_5, qE_6, qE_7, qE_8, qE_9, qE_10, qE_11, qE_12, qE_13, qE_14, qE_15, qE_16, qE_17, qE_18, qE_19, qE_20, qE_21, qE_22, qE_23, qE_24, qE_25, qE_26, qE_27, qE_28, qE_29, qE_30, qE_31, qE_32, qE_33, qE_34, qE_35, qE_36, qE_37, qE_38]
  refine .inr (wpAny_UnaryOp (wpAny_Constant_int ?_))
  exact neg_int (OkP.step (Step.tok _) (OkP.tok (st.hr.keeps fun _ _ e => e) ⟨_, rfl⟩))

theorem ej_bin {op : Bop} {o : Operator} {a b : PE} {l r : Expr} {p : Pos} (ho : bopIs op o = true) (ha : EJ am n q F c a l) (hb : EJ am n q F c b r) : EJ am n q F c (.bin op a b) (.BinOp l o r p) := fun {cx ρ A res π Hc s} B st => by
  rw [bop_of ho]
  simp only [qE_1, qE_2, qE_3, qE_4, qE_5, qE_6, qE_7, qE_8, qE_9, qE_10, qE_11, qE_12, qE_13, qE_14, qE_15, qE_16, qE_17, qE_18, qE_19, qE_20, qE_21, qE_22, qE_23, qE_24, qE_25, qE_26, qE_27, qE_28, qE_29, qE_30, qE_31, qE_32, qE_33, qE_34, qE_35, qE_36, qE_37, qE_38]
  refine JAt.congr (arm_eval_BinOp ..) rfl (JAt.bind (ha B st) fun x v H1 π1 s1 _ hs1 hr1 hv1 => ?_)
  refine JAt.bind (JAt.holding (hb B (st.step hs1 hr1))) fun y w H2 π2 s2 _ hs2 hr2 hv2 => ?_
  exact JAt.standAt (JAt.operate (op_bin (B.ok.at res).toAmbOK B.cxk.stackOK B.as hr2 (hv1.step hs2) hv2))

theorem ej_not {a : PE} {x : Expr} {p : Pos} (ha : EJ am n q F c a x) : EJ am n q F c (.not a) (.UnaryOp .Not x p) := fun {cx ρ A res π Hc s} B st => by
  simp only [qE_1, qE_2, qE_3, qE_4, qE_5, qE_6, qE_7, qE_8, qE_9, qE_10, qE_11, qE_12, qE_13, qE_14, qE_15, qE_16, qE_17, qE_18, qE_19, qE_20, qE_21, qE_22, qE_23, qE_24, qE_25, qE_26, qE_27, qE_28, qE_29, qE_30, qE_31, qE_32, qE_33, qE_34, qE_35, qE_36, qE_37, qE_38]
  refine JAt.congr (arm_eval_UnaryOp ..) rfl (JAt.bind (ha B st) fun x v H1 π1 s1 _ hs1 hr1 hv1 => ?_)
  exact JAt.standAt (JAt.holding (op_not hr1 hv1))
theorem tj_not {a : PE} {x : Expr} {p : Pos} (ha : TJ am n q F c a x) : TJ am n q F c (.not a) (.UnaryOp .Not x p) := fun {cx ρ A res π Hc s} B st => by
  have e : tr (evE q F ρ (.not a) Hc) = (tr (evE q F ρ a Hc)).bind fun b h => .ok (!b) h := by
    simp only [qE_1, qE_2, qE_3, qE_4, qE_5, qE_6, qE_7, qE_8, qE_9, qE_10, qE_11, qE_12, qE_13, qE_14, qE_15, qE_16, qE_17, qE_18, qE_19, qE_20, qE_21, qE_22, qE_23, qE_24, qE_25, qE_26, qE_27, qE_28, qE_29, qE_30, qE_31, qE_32, qE_33, qE_34, qE_35, qE_36, qE_37, qE_38, tr]
    cases evE q F ρ a Hc with
    | ok v h => simp only [R.bind_ok]; cases truthy v <;> rfl
    | _ => rfl
  rw [e]
  refine JAt.congr (arm_isTrue_UnaryOp ..) rfl (JAt.bind (ha B st) fun x v H1 π1 s1 _ hs1 hr1 hv1 => ?_)
  exact JAt.pure hr1 (congrArg _ hv1)


theorem marks_of {op : CmpOp} {r : Expr} (h : isSet r = false) (t : Sem Value) : markedBehindIn op r t = t := by
  have : behindInMarks op r = false := by cases r <;> first | rfl | exact noB h.symm
  unfold markedBehindIn; rw [this]

theorem ej_cmp {op : Cop} {o : CmpOp} {a b : PE} {l r : Expr} {p : Pos} (ho : copIs op o = true) (hs : isSet r = false) (ha : EJ am n q F c a l) (hb : EJ am n q F c b r) : EJ am n q F c (.cmp op a b) (.Compare l [o] [r] p) := fun {cx ρ A res π Hc s} B st => by
  rw [cop_of ho]
  simp only [qE_1, qE_2, qE_3, qE_4, qE_5, qE_6, qE_7, qE_8, qE_9, qE_10, qE_11, qE_12, qE_13, qE_14, qE_15, qE_16, qE_17, qE_18, qE_19, qE_20, qE_21, qE_22, qE_23, qE_24, qE_25, qE_26, qE_27, qE_28, qE_29, qE_30, qE_31, qE_32, qE_33, qE_34, qE_35, qE_36, qE_37, qE_38]
  refine JAt.congr (eval_Compare1 ..) rfl (JAt.bind (ha B st) fun x v H1 π1 s1 _ hs1 hr1 hv1 => ?_)
  rw [marks_of hs]
  refine JAt.bind (JAt.holding (hb B (st.step hs1 hr1))) fun y w H2 π2 s2 _ hs2 hr2 hv2 => ?_
  exact JAt.standAt (JAt.operate (op_cmp B.as hr2 (hv1.step hs2) hv2))
theorem tj_cmp {op : Cop} {o : CmpOp} {a b : PE} {l r : Expr} {p : Pos} (ho : copIs op o = true) (hs : isSet r = false) (ha : EJ am n q F c a l) (hb : EJ am n q F c b r) : TJ am n q F c (.cmp op a b) (.Compare l [o] [r] p) := fun {cx ρ A res π Hc s} B st => by
  rw [cop_of ho]
  simp only [qE_1, qE_2, qE_3, qE_4, qE_5, qE_6, qE_7, qE_8, qE_9, qE_10, qE_11, qE_12, qE_13, qE_14, qE_15, qE_16, qE_17, qE_18, qE_19, qE_20, qE_21, qE_22, qE_23, qE_24, qE_25, qE_26, qE_27, qE_28, qE_29, qE_30, qE_31, qE_32, qE_33, qE_34, qE_35, qE_36, qE_37, qE_38, bind_tr]
  refine JAt.congr (isTrue_Compare1 ..) rfl (JAt.bind (ha B st) fun x v H1 π1 s1 _ hs1 hr1 hv1 => ?_)
  rw [marks_of hs]
  refine JAt.bind (JAt.holding (hb B (st.step hs1 hr1))) fun y w H2 π2 s2 _ hs2 hr2 hv2 => ?_
  refine JAt.standAt ?_
  unfold tr
  exact JAt.bind (JAt.operate (op_cmp B.as hr2 (hv1.step hs2) hv2)) fun x v H3 π3 s3 _ hs3 hr3 hv3 => JAt.holding (wp_truthy hr3 hv3)

theorem JAt.release {am : Amb} {stack : List Env} {A : Around} {α β : Type} {Rel : List Addr → Heap → β → α → Prop} {π : List Addr} {s : Shared} {vs keep : List Value} {f : Unit → Sem α} {r : R β} (h : JAt am stack A (f ()) r Rel π s) : JAt am stack A (PySem.release vs keep >>= f) r Rel π s :=
  h.rule fun _ _ x => wpAny_bind (release_wp x)

theorem ej_cmp2 {op1 op2 : Cop} {o1 o2 : CmpOp} {a b d : PE} {l r1 r2 : Expr} {p : Pos} (ho1 : copIs op1 o1 = true) (ho2 : copIs op2 o2 = true) (hs : isSet r2 = false) (ha : EJ am n q F c a l) (hb : EJ am n q F c b r1) (hd : EJ am n q F c d r2) :
    EJ am n q F c (.cmp2 op1 op2 a b d) (.Compare l [o1, o2] [r1, r2] p) := fun {cx ρ A res π Hc s} B st => by
  rw [cop_of ho1, cop_of ho2]
  simp only [qE_1, qE_2, qE_3, qE_4, qE_5, qE_6, qE_7, qE_8, qE_9, qE_10, qE_11, qE_12, qE_13, qE_14, qE_15, qE_16, qE_17, qE_18, qE_19, qE_20, qE_21, qE_22, qE_23, qE_24, qE_25, qE_26, qE_27, qE_28, qE_29, qE_30, qE_31, qE_32, qE_33, qE_34, qE_35, qE_36, qE_37, qE_38]
  refine JAt.congr (arm_eval_Compare ..) rfl (JAt.bind (ha B st) fun x v H1 π1 s1 _ hs1 hr1 hv1 => ?_)
  have st1 := st.step hs1 hr1
  show JAt _ _ _ (compareChain p x [copM op1, copM op2] [eval r1 cx.env, markedBehindIn (copM op2) r2 (eval r2 cx.env)]) _ _ _ _
  rw [marks_of hs]
  refine JAt.bind (JAt.holding (hb B st1)) fun y w H2 π2 s2 _ hs2 hr2 hv2 => JAt.standAt ?_
  have st2 := st1.step hs2 hr2
  have hv1' := hv1.step hs2
  have e : ∀ (k : H → R V), (match pyCmp op1 H2 v w with | some true => k H2 | some false => .ok (.bool false) H2 | none => .bad) = (R.opt ((pyCmp op1 H2 v w).map V.bool) H2).bind fun x h => match truthy x with | some true => k h | some false => .ok (.bool false) h | none => .bad := by
    intro k
    cases pyCmp op1 H2 v w with
    | none => rfl
    | some b => cases b <;> rfl
  refine JAt.congr rfl (e fun h => (evE q F ρ d h).bind fun z h => R.opt ((pyCmp op2 h w z).map V.bool) h) ?_
  refine JAt.bind (JAt.holding (op_cmp B.as hr2 hv1' hv2)) fun z u H3 π3 s3 _ hs3 hr3 hv3 => JAt.release ?_
  have st3 := st2.step hs3 hr3
  cases u with
  | bool t =>
    simp only [VR] at hv3; subst hv3
    refine JAt.rule (fun Q E h => wpAny_bind (wpAny_holding (wpAny_truthy_bool h))) ?_
    cases t with
    | false => exact JAt.pure hr3 rfl
    | true =>
      refine JAt.bind (JAt.holding (hd B st3)) fun y' w' H4 π4 s4 _ hs4 hr4 hv4 => ?_
      exact JAt.standAt (JAt.operate (op_cmp B.as hr4 ((hv2.step hs3).step hs4) hv4))
  | _ => exact .inl rfl
theorem tj_cmp2 {op1 op2 : Cop} {o1 o2 : CmpOp} {a b d : PE} {l r1 r2 : Expr} {p : Pos} (ho1 : copIs op1 o1 = true) (ho2 : copIs op2 o2 = true) (hs : isSet r2 = false) (ha : EJ am n q F c a l) (hb : EJ am n q F c b r1) (hd : EJ am n q F c d r2) :
    TJ am n q F c (.cmp2 op1 op2 a b d) (.Compare l [o1, o2] [r1, r2] p) := fun {cx ρ A res π Hc s} B st => by
  rw [cop_of ho1, cop_of ho2]
  simp only [qE_1, qE_2, qE_3, qE_4, qE_5, qE_6, qE_7, qE_8, qE_9, qE_10, qE_11, qE_12, qE_13, qE_14, qE_15, qE_16, qE_17, qE_18, qE_19, qE_20, qE_21, qE_22, qE_23, qE_24, qE_25, qE_26, qE_27, qE_28, qE_29, qE_30, qE_31, qE_32, qE_33, qE_34, qE_35, qE_36, qE_37, qE_38, bind_tr]
  refine JAt.congr (arm_isTrue_Compare ..) rfl (JAt.bind (ha B st) fun x v H1 π1 s1 _ hs1 hr1 hv1 => ?_)
  have st1 := st.step hs1 hr1
  show JAt _ _ _ (testChain p x [copM op1, copM op2] [eval r1 cx.env, markedBehindIn (copM op2) r2 (eval r2 cx.env)]) _ _ _ _
  rw [marks_of hs]
  refine JAt.bind (JAt.holding (hb B st1)) fun y w H2 π2 s2 _ hs2 hr2 hv2 => JAt.standAt ?_
  have st2 := st1.step hs2 hr2
  have hv1' := hv1.step hs2
  have e : ∀ (k : H → R V), tr (match pyCmp op1 H2 v w with | some true => k H2 | some false => .ok (.bool false) H2 | none => .bad) = (R.opt ((pyCmp op1 H2 v w).map V.bool) H2).bind fun x h => match truthy x with | some true => tr (k h) | some false => .ok false h | none => .bad := by
    intro k
    cases pyCmp op1 H2 v w with
    | none => rfl
    | some b => cases b <;> rfl
  refine JAt.congr rfl (e fun h => (evE q F ρ d h).bind fun z h => R.opt ((pyCmp op2 h w z).map V.bool) h) ?_
  refine JAt.bind (JAt.holding (op_cmp B.as hr2 hv1' hv2)) fun z u H3 π3 s3 _ hs3 hr3 hv3 => JAt.release ?_
  have st3 := st2.step hs3 hr3
  cases u with
  | bool t =>
    simp only [VR] at hv3; subst hv3
    refine JAt.rule (fun Q E h => wpAny_bind (wpAny_holding (wpAny_truthy_bool h))) ?_
    cases t with
    | false => exact JAt.pure hr3 rfl
    | true =>
      simp only [Mine.truthy, bind_tr]
      refine JAt.bind (JAt.holding (hd B st3)) fun y' w' H4 π4 s4 _ hs4 hr4 hv4 => ?_
      refine JAt.standAt ?_
      unfold tr
      exact JAt.bind (JAt.operate (op_cmp B.as hr4 ((hv2.step hs3).step hs4) hv4)) fun x v H5 π5 s5 _ hs5 hr5 hv5 => JAt.holding (wp_truthy hr5 hv5)
  | _ => exact .inl rfl
end

end Mine

namespace Mine
open PySem PySem.W PyProof.Rows

/-- predicate transformers in place of programs -/
abbrev PT (γ : Type) := (γ → Shared → Prop) → (Value → Shared → Prop) → Shared → Prop
noncomputable def PT.Mono {γ : Type} (T : PT γ) : Prop := ∀ Q Q' E E' s, (∀ a s, Q a s → Q' a s) → (∀ e s, E e s → E' e s) → T Q E s → T Q' E' s
noncomputable def JT (am : Amb) (stack : List Env) {α β : Type} (T : PT α) (r : R β) (Rel : List Addr → Heap → β → α → Prop) (π : List Addr) (s : Shared) : Prop :=
  r = .bad ∨ T (OkP am stack Rel π s r) (ErP am stack π s r) s

section
variable {am : Amb} {stack : List Env} {A : Around} {α β γ δ : Type} {Rel : List Addr → Heap → β → α → Prop} {Rel' : List Addr → Heap → δ → γ → Prop} {π : List Addr} {s : Shared}
theorem PT.wp (M : Model) (m : Sem α) : PT.Mono (fun Q E s => wpAny M A m Q E s) := fun _ _ _ _ _ h1 h2 h => wpAny_mono h h1 h2
theorem PT.seq (M : Model) (m : Sem α) {T : α → PT γ} (hT : ∀ a, PT.Mono (T a)) : PT.Mono (fun Q E s => wpAny M A m (fun a s₁ => T a Q E s₁) E s) :=
  fun Q Q' E E' _ h1 h2 h => wpAny_mono h (fun a s₁ x => hT a Q Q' E E' s₁ h1 h2 x) h2
theorem JT.bind {m : Sem α} {T : α → PT γ} (hT : ∀ a, PT.Mono (T a)) {r : R β} {g : β → H → R δ} (h1 : JAt am stack A m r Rel π s)
    (h2 : ∀ a b H' π' s', r = .ok b H' → Step (Fs stack) π s π' s' → HR am stack π' H' s'.heap → Rel π' s'.heap b a → JT am stack (T a) (g b H') Rel' π' s') :
    JT am stack (fun Q E s => wpAny am.M A m (fun a s₁ => T a Q E s₁) E s) (r.bind g) Rel' π s := by
  rcases h1 with rfl | h1
  · exact .inl rfl
  · cases r with
    | bad => exact .inl rfl
    | err c H' =>
      refine .inr (wpAny_mono h1 (fun a s' h => ?_) fun e s' h => ?_)
      · obtain ⟨_, _, _, h, _⟩ := h; cases h
      · refine hold fun _ k_ => ?_
        obtain ⟨c', H'', π', e', C, fl, h, r2, r3, r4, r5, r6⟩ := h
        refine k_ ?_
        cases h
        exact ⟨c, H', π', e', C, fl, rfl, r2, r3, r4, r5, r6⟩
    | ok b H' =>
      by_cases hb : g b H' = .bad
      · exact .inl hb
      · refine .inr (wpAny_mono h1 (fun a s' h => ?_) fun e s' h => ?_)
        · refine hold fun _ k_ => ?_
          obtain ⟨b', H'', π', h, h3, h4, h5⟩ := h
          refine k_ ?_
          cases h
          rcases h2 a b H' π' s' rfl h3 h4 h5 with h6 | h6
          · exact absurd h6 hb
          · exact hT a _ _ _ _ _ (fun _ _ y => OkP.step h3 y) (fun _ _ y => ErP.step h3 y) h6
        · obtain ⟨_, _, _, _, _, _, h, _⟩ := h; cases h
theorem JT.rule {T T' : PT α} {r : R β} (h : JT am stack T r Rel π s) (k : ∀ Q E, T Q E s → T' Q E s) : JT am stack T' r Rel π s := by
  rcases h with h | h
  · exact .inl h
  · exact .inr (k _ _ h)
theorem JT.at {T : PT α} {m : Sem α} {r : R β} (h : JT am stack T r Rel π s) (k : ∀ Q E, T Q E s → wpAny am.M A m Q E s) : JAt am stack A m r Rel π s := by
  rcases h with h | h
  · exact .inl h
  · exact .inr (k _ _ h)
theorem JAt.pt {m : Sem α} {r : R β} (h : JAt am stack A m r Rel π s) : JT am stack (fun Q E s => wpAny am.M A m Q E s) r Rel π s := h
end

theorem ck_star (c : Ck) (e : PE) (x : Expr) (p : Pos) : ckE c e (.Starred x p) = false := by
  cases e with
  | own a =>
    cases a with
    | bf f b => cases f <;> rfl
    | bin op a b => cases op <;> rfl
    | _ => rfl
  | none => rfl
  | bool b => rfl
  | int b => rfl
  | str b => rfl
  | _ => rfl
theorem ck_isStar {c : Ck} {e : PE} {x : Expr} (h : ckE c e x = true) : isStar x = false := by
  cases x <;> first | rfl | (rw [ck_star] at h; cases h)

noncomputable def plainArgs (xs : List Expr) (env : Env) : List (Bool × Sem Value) := xs.map fun e => (false, eval e env)

theorem starEach_plain (env : Env) : ∀ {xs : List Expr}, (∀ x ∈ xs, isStar x = false) → ∀ pos : Pos, backTo pos (starEach xs env) = plainArgs xs env
  | [], _, _ => rfl
  | x :: xs, h, pos => by
    have ih := starEach_plain env (fun y hy => h y (List.mem_cons_of_mem _ hy)) pos
    have hx := h x List.mem_cons_self
    have e : starEach (x :: xs) env = (false, eval x env) :: starEach xs env := by
      cases x <;> first | rfl | exact noB hx.symm
    rw [e]
    show (false, eval x env) :: backTo pos (starEach xs env) = _
    rw [ih]; rfl

section
variable {am : Amb} {n : Nat} {q : Bool} {F : Fn} {c : Ck}

theorem AllJ.stars : ∀ {es : List PE} {xs : List Expr}, AllJ am n q F c es xs → ∀ x ∈ xs, isStar x = false
  | [], [], _ => by simp
  | e :: es, x :: xs, h => by
    intro y hy
    rcases List.mem_cons.mp hy with rfl | hy
    · exact h.1.1
    · exact AllJ.stars h.2 y hy
  | [], _ :: _, h => h.elim
  | _ :: _, [], h => h.elim

theorem AllJ.args {cx : Cx} {ρ : List V} {A : Around} {res : List Addr} : ∀ {es : List PE} {xs : List Expr} {π : List Addr} {Hc : H} {s : Shared}, AllJ am n q F c es xs → Base am n q F c cx ρ A → St (am.at res) q cx ρ π Hc A s →
    JAt (am.at res) cx.stack A (spliced (plainArgs xs cx.env)) (evEs q F ρ es Hc) (VRs (am.at res)) π s
  | [], [], π, Hc, s, _, _, st => by
    simp only [qEs_1, qEs_2]
    exact .inr (wpAny_pure (OkP.here st.hr (by simp [VRs])))
  | e :: es, x :: xs, π, Hc, s, h, B, st => by
    simp only [qEs_1, qEs_2]
    refine JAt.congr (m' := eval x cx.env >>= fun v => (pure [v] : Sem (List Value)) >>= fun here => holding here (spliced (plainArgs xs cx.env)) >>= fun tl => pure (here ++ tl)) (by
      show spliced ((false, eval x cx.env) :: plainArgs xs cx.env) = _
      rw [spliced]; rfl) rfl ?_
    refine JAt.bind (h.1.2.1 B st) fun x v H1 π1 s1 _ hs1 hr1 hv1 => ?_
    refine JAt.rule (fun Q E h => wpAny_bind (wpAny_pure h)) ?_
    refine JAt.bind (JAt.holding (AllJ.args h.2 B (st.step hs1 hr1))) fun ys ws H2 π2 s2 _ hs2 hr2 hv2 => ?_
    exact JAt.pure hr2 (by simp only [VRs]; exact ⟨_, _, rfl, hv1.step hs2, hv2⟩)
  | [], _ :: _, _, _, _, h, _, _ => h.elim
  | _ :: _, [], _, _, _, h, _, _ => h.elim
theorem ej_and : ∀ {es : List PE} {xs : List Expr} {p : Pos}, AllJ am n q F c es xs → EJ am n q F c (.and es) (.BoolOp .And xs p)
  | [], [], _, _, cx, ρ, A, res, π, Hc, s, _, _ => .inl (by simp [qE_1, qE_2, qE_3, qE_4, qE_5, qE_6, qE_7, qE_8, qE_9, qE_10, qE_11, qE_12, qE_13, qE_14, qE_15, qE_16, qE_17, qE_18, qE_19, qE_20, qE_21, qE_22, qE_23, qE_24, qE_25, qE_26, qE_27, qE_28, qE_29, qE_30, qE_31, qE_32, qE_33, qE_34, qE_35, qE_36, qE_37, qE_38, qA_1, qA_2, qA_3])
  | [e], [x], _, h, cx, ρ, A, res, π, Hc, s, B, st => by
    simp only [qE_1, qE_2, qE_3, qE_4, qE_5, qE_6, qE_7, qE_8, qE_9, qE_10, qE_11, qE_12, qE_13, qE_14, qE_15, qE_16, qE_17, qE_18, qE_19, qE_20, qE_21, qE_22, qE_23, qE_24, qE_25, qE_26, qE_27, qE_28, qE_29, qE_30, qE_31, qE_32, qE_33, qE_34, qE_35, qE_36, qE_37, qE_38, qA_1, qA_2, qA_3]
    exact h.1.2.1 B st
  | e :: e2 :: es, x :: x2 :: xs, p, h, cx, ρ, A, res, π, Hc, s, B, st => by
    simp only [qE_1, qE_2, qE_3, qE_4, qE_5, qE_6, qE_7, qE_8, qE_9, qE_10, qE_11, qE_12, qE_13, qE_14, qE_15, qE_16, qE_17, qE_18, qE_19, qE_20, qE_21, qE_22, qE_23, qE_24, qE_25, qE_26, qE_27, qE_28, qE_29, qE_30, qE_31, qE_32, qE_33, qE_34, qE_35, qE_36, qE_37, qE_38, qA_1, qA_2, qA_3]
    refine JAt.congr (m' := eval x cx.env >>= fun v => standAt p >>= fun _ => holding [v] (PySem.truthy v) >>= fun t => (match BoolOp.And, t with | .And, false | .Or, true => pure v | _, _ => boolOp p .And (evalEach (x2 :: xs) cx.env))) rfl rfl ?_
    refine JAt.bind (h.1.2.1 B st) fun y v H1 π1 s1 _ hs1 hr1 hv1 => JAt.standAt ?_
    cases v with
    | bool b =>
      simp only [VR] at hv1; subst hv1
      refine JAt.rule (fun Q E h => wpAny_bind (wpAny_holding (wpAny_truthy_bool h))) ?_
      cases b with
      | false => exact JAt.pure hr1 rfl
      | true =>
        have := ej_and (p := p) h.2 B (st.step hs1 hr1)
        simp only [qE_1, qE_2, qE_3, qE_4, qE_5, qE_6, qE_7, qE_8, qE_9, qE_10, qE_11, qE_12, qE_13, qE_14, qE_15, qE_16, qE_17, qE_18, qE_19, qE_20, qE_21, qE_22, qE_23, qE_24, qE_25, qE_26, qE_27, qE_28, qE_29, qE_30, qE_31, qE_32, qE_33, qE_34, qE_35, qE_36, qE_37, qE_38] at this
        exact this
    | _ => exact .inl rfl
  | [], _ :: _, _, h, _, _, _, _, _, _, _, _, _ => h.elim
  | _ :: _, [], _, h, _, _, _, _, _, _, _, _, _ => h.elim
  | [_], _ :: _ :: _, _, h, _, _, _, _, _, _, _, _, _ => h.2.elim
  | _ :: _ :: _, [_], _, h, _, _, _, _, _, _, _, _, _ => h.2.elim

theorem ej_or : ∀ {es : List PE} {xs : List Expr} {p : Pos}, AllJ am n q F c es xs → EJ am n q F c (.or es) (.BoolOp .Or xs p)
  | [], [], _, _, cx, ρ, A, res, π, Hc, s, _, _ => .inl (by simp [qE_1, qE_2, qE_3, qE_4, qE_5, qE_6, qE_7, qE_8, qE_9, qE_10, qE_11, qE_12, qE_13, qE_14, qE_15, qE_16, qE_17, qE_18, qE_19, qE_20, qE_21, qE_22, qE_23, qE_24, qE_25, qE_26, qE_27, qE_28, qE_29, qE_30, qE_31, qE_32, qE_33, qE_34, qE_35, qE_36, qE_37, qE_38, qR_1, qR_2, qR_3])
  | [e], [x], _, h, cx, ρ, A, res, π, Hc, s, B, st => by
    simp only [qE_1, qE_2, qE_3, qE_4, qE_5, qE_6, qE_7, qE_8, qE_9, qE_10, qE_11, qE_12, qE_13, qE_14, qE_15, qE_16, qE_17, qE_18, qE_19, qE_20, qE_21, qE_22, qE_23, qE_24, qE_25, qE_26, qE_27, qE_28, qE_29, qE_30, qE_31, qE_32, qE_33, qE_34, qE_35, qE_36, qE_37, qE_38, qR_1, qR_2, qR_3]
    exact h.1.2.1 B st
  | e :: e2 :: es, x :: x2 :: xs, p, h, cx, ρ, A, res, π, Hc, s, B, st => by
    simp only [qE_1, qE_2, qE_3, qE_4, qE_5, qE_6, qE_7, qE_8, qE_9, qE_10, qE_11, qE_12, qE_13, qE_14, qE_15, qE_16, qE_17, qE_18, qE_19, qE_20, qE_21, qE_22, qE_23, qE_24, qE_25, qE_26, qE_27, qE_28, qE_29, qE_30, qE_31, qE_32, qE_33, qE_34, qE_35, qE_36, qE_37, qE_38, qR_1, qR_2, qR_3]
    refine JAt.congr (m' := eval x cx.env >>= fun v => standAt p >>= fun _ => holding [v] (PySem.truthy v) >>= fun t => (match BoolOp.Or, t with | .And, false | .Or, true => pure v | _, _ => boolOp p .Or (evalEach (x2 :: xs) cx.env))) rfl rfl ?_
    refine JAt.bind (h.1.2.1 B st) fun y v H1 π1 s1 _ hs1 hr1 hv1 => JAt.standAt ?_
    cases v with
    | bool b =>
      simp only [VR] at hv1; subst hv1
      refine JAt.rule (fun Q E h => wpAny_bind (wpAny_holding (wpAny_truthy_bool h))) ?_
      cases b with
      | true => exact JAt.pure hr1 rfl
      | false =>
        have := ej_or (p := p) h.2 B (st.step hs1 hr1)
        simp only [qE_1, qE_2, qE_3, qE_4, qE_5, qE_6, qE_7, qE_8, qE_9, qE_10, qE_11, qE_12, qE_13, qE_14, qE_15, qE_16, qE_17, qE_18, qE_19, qE_20, qE_21, qE_22, qE_23, qE_24, qE_25, qE_26, qE_27, qE_28, qE_29, qE_30, qE_31, qE_32, qE_33, qE_34, qE_35, qE_36, qE_37, qE_38] at this
        exact this
    | _ => exact .inl rfl
  | [], _ :: _, _, h, _, _, _, _, _, _, _, _, _ => h.elim
  | _ :: _, [], _, h, _, _, _, _, _, _, _, _, _ => h.elim
  | [_], _ :: _ :: _, _, h, _, _, _, _, _, _, _, _, _ => h.2.elim
  | _ :: _ :: _, [_], _, h, _, _, _, _, _, _, _, _, _ => h.2.elim

theorem tr_and2 (ρ : List V) (e e2 : PE) (es : List PE) (Hc : H) : tr (evAnd q F ρ (e :: e2 :: es) Hc) = (tr (evE q F ρ e Hc)).bind fun b h => if b then tr (evAnd q F ρ (e2 :: es) h) else .ok false h := by
  simp only [qA_1, qA_2, qA_3, bind_tr]; rw [tr_bind]; congr 1; funext x h
  cases hx : truthy x with
  | none => rfl
  | some b =>
    cases b with
    | true => rfl
    | false => simp [tr, hx]
theorem tr_or2 (ρ : List V) (e e2 : PE) (es : List PE) (Hc : H) : tr (evOr q F ρ (e :: e2 :: es) Hc) = (tr (evE q F ρ e Hc)).bind fun b h => if b then .ok true h else tr (evOr q F ρ (e2 :: es) h) := by
  simp only [qR_1, qR_2, qR_3, bind_tr]; rw [tr_bind]; congr 1; funext x h
  cases hx : truthy x with
  | none => rfl
  | some b =>
    cases b with
    | false => rfl
    | true => simp [tr, hx]

theorem tj_and : ∀ {es : List PE} {xs : List Expr} {p : Pos}, AllJ am n q F c es xs → TJ am n q F c (.and es) (.BoolOp .And xs p)
  | [], [], _, _, cx, ρ, A, res, π, Hc, s, _, _ => .inl (by simp [qE_1, qE_2, qE_3, qE_4, qE_5, qE_6, qE_7, qE_8, qE_9, qE_10, qE_11, qE_12, qE_13, qE_14, qE_15, qE_16, qE_17, qE_18, qE_19, qE_20, qE_21, qE_22, qE_23, qE_24, qE_25, qE_26, qE_27, qE_28, qE_29, qE_30, qE_31, qE_32, qE_33, qE_34, qE_35, qE_36, qE_37, qE_38, qA_1, qA_2, qA_3, tr])
  | [e], [x], p, h, cx, ρ, A, res, π, Hc, s, B, st => by
    simp only [qE_1, qE_2, qE_3, qE_4, qE_5, qE_6, qE_7, qE_8, qE_9, qE_10, qE_11, qE_12, qE_13, qE_14, qE_15, qE_16, qE_17, qE_18, qE_19, qE_20, qE_21, qE_22, qE_23, qE_24, qE_25, qE_26, qE_27, qE_28, qE_29, qE_30, qE_31, qE_32, qE_33, qE_34, qE_35, qE_36, qE_37, qE_38, qA_1, qA_2, qA_3]
    have := h.1.2.2 B st
    refine JAt.rule (m' := isTrue x cx.env (eval x cx.env)) (fun Q E h => wpAny_isTrue_BoolOp (wpAny_allTrue_And_cons (wpAny_mono h (fun b s1 h1 => ?_) fun _ _ x => x))) this
    cases b with
    | true => exact wpAny_allTrue_And_nil h1
    | false => exact h1
  | e :: e2 :: es, x :: x2 :: xs, p, h, cx, ρ, A, res, π, Hc, s, B, st => by
    simp only [qE_1, qE_2, qE_3, qE_4, qE_5, qE_6, qE_7, qE_8, qE_9, qE_10, qE_11, qE_12, qE_13, qE_14, qE_15, qE_16, qE_17, qE_18, qE_19, qE_20, qE_21, qE_22, qE_23, qE_24, qE_25, qE_26, qE_27, qE_28, qE_29, qE_30, qE_31, qE_32, qE_33, qE_34, qE_35, qE_36, qE_37, qE_38]
    rw [tr_and2]
    refine JAt.congr (m' := isTrue x cx.env (eval x cx.env) >>= fun b => (match BoolOp.And, b with | .And, false => pure false | .Or, true => pure true | _, _ => allTrue .And (x2 :: xs) cx.env)) rfl rfl ?_
    refine JAt.bind (h.1.2.2 B st) fun y v H1 π1 s1 _ hs1 hr1 hv1 => ?_
    unfold BR at hv1; subst hv1
    cases v with
    | false => exact JAt.pure hr1 rfl
    | true =>
      have := tj_and (p := p) h.2 B (st.step hs1 hr1)
      simp only [qE_1, qE_2, qE_3, qE_4, qE_5, qE_6, qE_7, qE_8, qE_9, qE_10, qE_11, qE_12, qE_13, qE_14, qE_15, qE_16, qE_17, qE_18, qE_19, qE_20, qE_21, qE_22, qE_23, qE_24, qE_25, qE_26, qE_27, qE_28, qE_29, qE_30, qE_31, qE_32, qE_33, qE_34, qE_35, qE_36, qE_37, qE_38] at this
      exact this
  | [], _ :: _, _, h, _, _, _, _, _, _, _, _, _ => h.elim
  | _ :: _, [], _, h, _, _, _, _, _, _, _, _, _ => h.elim
  | [_], _ :: _ :: _, _, h, _, _, _, _, _, _, _, _, _ => h.2.elim
  | _ :: _ :: _, [_], _, h, _, _, _, _, _, _, _, _, _ => h.2.elim
theorem tj_or : ∀ {es : List PE} {xs : List Expr} {p : Pos}, AllJ am n q F c es xs → TJ am n q F c (.or es) (.BoolOp .Or xs p)
  | [], [], _, _, cx, ρ, A, res, π, Hc, s, _, _ => .inl (by simp [qE_1, qE_2, qE_3, qE_4, qE_5, qE_6, qE_7, qE_8, qE_9, qE_10, qE_11, qE_12, qE_13, qE_14, qE_15, qE_16, qE_17, qE_18, qE_19, qE_20, qE_21, qE_22, qE_23, qE_24, qE_25, qE_26, qE_27, qE_28, qE_29, qE_30, qE_31, qE_32, qE_33, qE_34, qE_35, qE_36, qE_37, qE_38, qR_1, qR_2, qR_3, tr])
  | [e], [x], p, h, cx, ρ, A, res, π, Hc, s, B, st => by
    simp only [qE_1, qE_2, qE_3, qE_4, qE_5, qE_6, qE_7, qE_8, qE_9, qE_10, qE_11, qE_12, qE_13, qE_14, qE_15, qE_16, qE_17, qE_18, qE_19, qE_20, qE_21, qE_22, qE_23, qE_24, qE_25, qE_26, qE_27, qE_28, qE_29, qE_30, qE_31, qE_32, qE_33, qE_34, qE_35, qE_36, qE_37, qE_38, qR_1, qR_2, qR_3]
    have := h.1.2.2 B st
    refine JAt.rule (m' := isTrue x cx.env (eval x cx.env)) (fun Q E h => wpAny_isTrue_BoolOp (wpAny_allTrue_Or_cons (wpAny_mono h (fun b s1 h1 => ?_) fun _ _ x => x))) this
    cases b with
    | true => exact h1
    | false => exact wpAny_allTrue_Or_nil h1
  | e :: e2 :: es, x :: x2 :: xs, p, h, cx, ρ, A, res, π, Hc, s, B, st => by
    simp only [qE_1, qE_2, qE_3, qE_4, qE_5, qE_6, qE_7, qE_8, qE_9, qE_10, qE_11, qE_12, qE_13, qE_14, qE_15, qE_16, qE_17, qE_18, qE_19, qE_20, qE_21, qE_22, qE_23, qE_24, qE_25, qE_26, qE_27, qE_28, qE_29, qE_30, qE_31, qE_32, qE_33, qE_34, qE_35, qE_36, qE_37, qE_38]
    rw [tr_or2]
    refine JAt.congr (m' := isTrue x cx.env (eval x cx.env) >>= fun b => (match BoolOp.Or, b with | .And, false => pure false | .Or, true => pure true | _, _ => allTrue .Or (x2 :: xs) cx.env)) rfl rfl ?_
    refine JAt.bind (h.1.2.2 B st) fun y v H1 π1 s1 _ hs1 hr1 hv1 => ?_
    unfold BR at hv1; subst hv1
    cases v with
    | true => exact JAt.pure hr1 rfl
    | false =>
      have := tj_or (p := p) h.2 B (st.step hs1 hr1)
      simp only [qE_1, qE_2, qE_3, qE_4, qE_5, qE_6, qE_7, qE_8, qE_9, qE_10, qE_11, qE_12, qE_13, qE_14, qE_15, qE_16, qE_17, qE_18, qE_19, qE_20, qE_21, qE_22, qE_23, qE_24, qE_25, qE_26, qE_27, qE_28, qE_29, qE_30, qE_31, qE_32, qE_33, qE_34, qE_35, qE_36, qE_37, qE_38] at this
      exact this
  | [], _ :: _, _, h, _, _, _, _, _, _, _, _, _ => h.elim
  | _ :: _, [], _, h, _, _, _, _, _, _, _, _, _ => h.elim
  | [_], _ :: _ :: _, _, h, _, _, _, _, _, _, _, _, _ => h.2.elim
  | _ :: _ :: _, [_], _, h, _, _, _, _, _, _, _, _, _ => h.2.elim

/-- a subscript -/
theorem ej_idx {a i : PE} {v t : Expr} {p : Pos} (ha : EJ am n q F c a v) (hi : EJ am n q F c i t) : EJ am n q F c (.idx a i) (.Subscript v t p) := fun {cx ρ A res π Hc s} B st => by
  simp only [qE_1, qE_2, qE_3, qE_4, qE_5, qE_6, qE_7, qE_8, qE_9, qE_10, qE_11, qE_12, qE_13, qE_14, qE_15, qE_16, qE_17, qE_18, qE_19, qE_20, qE_21, qE_22, qE_23, qE_24, qE_25, qE_26, qE_27, qE_28, qE_29, qE_30, qE_31, qE_32, qE_33, qE_34, qE_35, qE_36, qE_37, qE_38]
  refine JAt.congr (m' := eval v cx.env >>= fun o => holding [o] (eval t cx.env) >>= fun i => standAt p >>= fun _ => subscriptTail v t o i) rfl rfl ?_
  refine JAt.bind (ha B st) fun x v' H1 π1 s1 _ hs1 hr1 hv1 => ?_
  refine JAt.bind (JAt.holding (hi B (st.step hs1 hr1))) fun y w H2 π2 s2 _ hs2 hr2 hv2 => ?_
  exact JAt.standAt (op_idx hr2 (hv1.step hs2) hv2)

noncomputable def OptJ (am : Amb) (n : Nat) (q : Bool) (F : Fn) (c : Ck) : Option PE → Option Expr → Prop
  | none, none => True
  | some e, some x => EJ am n q F c e x
  | _, _ => False

noncomputable def OVR (am : Amb) (π : List Addr) (h : Heap) : Option V → Value → Prop
  | none, x => x = .none
  | some v, x => VR am π h v x
theorem OVR.step {am : Amb} {Fs π π' : List Addr} {s s' : Shared} (x : Step Fs π s π' s') {v : Option V} {y : Value} (e : OVR am π s.heap v y) : OVR am π' s'.heap v y := by
  cases v with
  | none => exact e
  | some v => exact VR.step x e

theorem OptJ.ev {e : Option PE} {x : Option Expr} (h : OptJ am n q F c e x) {cx : Cx} {ρ : List V} {A : Around} {res π : List Addr} {Hc : H} {s : Shared} (B : Base am n q F c cx ρ A) (st : St (am.at res) q cx ρ π Hc A s) :
    JAt (am.at res) cx.stack A (valueOrNone (evalOpt x cx.env)) (evO q F ρ e Hc) (OVR (am.at res)) π s := by
  cases e with
  | none => cases x with
    | none => simp only [qO_1, qO_2]; exact .inr (wpAny_pure (OkP.here st.hr rfl))
    | some x => exact h.elim
  | some e => cases x with
    | none => exact h.elim
    | some x =>
      simp only [qO_1, qO_2]
      have h1 : JAt (am.at res) cx.stack A (eval x cx.env) (evE q F ρ e Hc) (VR (am.at res)) π s := h B st
      rcases h1 with h1 | h1
      · exact .inl (by rw [h1]; rfl)
      · refine .inr (wpAny_mono h1 (fun a s' h2 => ?_) fun a s' h2 => ?_)
        · refine hold fun _ k_ => ?_
          obtain ⟨b, H', π', h3, h4, h5, h6⟩ := h2
          refine k_ ?_
          exact ⟨some b, H', π', by rw [h3]; rfl, h4, h5, h6⟩
        · refine hold fun _ k_ => ?_
          obtain ⟨c', H'', π', e', C, fl, h, r2, r3, r4, r5, r6⟩ := h2
          refine k_ ?_
          exact ⟨c', H'', π', e', C, fl, by rw [h]; rfl, r2, r3, r4, r5, r6⟩

theorem ej_slice {a : PE} {lo hi : Option PE} {v : Expr} {l u : Option Expr} {p p' : Pos} (ha : EJ am n q F c a v) (hl : OptJ am n q F c lo l) (hu : OptJ am n q F c hi u) : EJ am n q F c (.slice a lo hi) (.Subscript v (.Slice l u none p') p) := fun {cx ρ A res π Hc s} B st => by
  simp only [qE_1, qE_2, qE_3, qE_4, qE_5, qE_6, qE_7, qE_8, qE_9, qE_10, qE_11, qE_12, qE_13, qE_14, qE_15, qE_16, qE_17, qE_18, qE_19, qE_20, qE_21, qE_22, qE_23, qE_24, qE_25, qE_26, qE_27, qE_28, qE_29, qE_30, qE_31, qE_32, qE_33, qE_34, qE_35, qE_36, qE_37, qE_38]
  refine JAt.congr (m' := eval v cx.env >>= fun o => holding [o] (valueOrNone (evalOpt l cx.env) >>= fun a => holding [a] (valueOrNone (evalOpt u cx.env)) >>= fun b => holding [a, b] (pure .none) >>= fun d => newFields "slice" [a, b, d]) >>= fun i => standAt p >>= fun _ => subscriptTail v (.Slice l u none p') o i) rfl rfl ?_
  refine JAt.bind (ha B st) fun x v' H1 π1 s1 _ hs1 hr1 hv1 => ?_
  have st1 := st.step hs1 hr1
  refine JT.at (T := fun Q E s => wpAny am.M A (valueOrNone (evalOpt l cx.env)) (fun a s₁ => wpAny am.M A (valueOrNone (evalOpt u cx.env)) (fun b s₂ => wpAny am.M A (newFields "slice" [a, b, .none]) (fun i s₃ => wpAny am.M A (subscriptTail v (.Slice l u none p') x i) Q E s₃) E s₂) E s₁) E s)
    (JT.bind (fun a => PT.seq _ _ fun b => PT.seq _ _ fun i => PT.wp _ _) (hl.ev B st1) fun y w H2 π2 s2 _ hs2 hr2 hv2 => ?_) fun Q E h => ?_
  · have st2 := st1.step hs2 hr2
    refine JT.bind (fun a => PT.seq _ _ fun i => PT.wp _ _) (hu.ev B st2) fun z w2 H3 π3 s3 _ hs3 hr3 hv3 => ?_
    have hv1' := (hv1.step hs2).step hs3
    have hv2' := hv2.step hs3
    unfold pySlice
    cases hlo : w.mapM asInt? with
    | none => exact .inl rfl
    | some lo => cases hhi : w2.mapM asInt? with
      | none => exact .inl rfl
      | some hi =>
        have part : ∀ (w : Option V) (lo : Option Int) (y : Value), OVR (am.at res) π3 s3.heap w y → w.mapM asInt? = some lo → IsPart y lo := by
          intro w lo y h1 h2
          cases w with
          | none => cases h1; cases h2; exact .none
          | some v =>
            cases v with
            | int i => obtain ⟨t, rfl⟩ := h1; cases h2; exact .int i t
            | _ => cases h2
        cases v' with
        | tup vs => exact .inl rfl
        | _ =>
          dsimp only
          cases hi' : litems H3 _ with
          | none => exact .inl rfl
          | some vs => exact .inr (wp_slice (am := am.at res) hr3 hv1' hi' (part _ _ _ hv2' hlo) (part _ _ _ hv3 hhi) fun y s' h => h)
  · refine wpAny_bind (wpAny_holding (wpAny_bind (wpAny_mono h (fun a s1 h1 => wpAny_bind (wpAny_holding (wpAny_mono h1 (fun b s2 h2 => wpAny_bind (wpAny_holding (wpAny_pure (wpAny_mono h2 (fun i s3 h3 => wpAny_bind (wpAny_standAt h3)) fun _ _ x => x)))) fun _ _ x => x))) fun _ _ x => x)))
end
end Mine

namespace Mine
open PySem PySem.W PyProof.Rows

section
variable {am : Amb} {n : Nat} {q : Bool} {F : Fn} {c : Ck}

theorem HR.unhold {am : Amb} {stack : List Env} {π : List Addr} {Hc : H} {h : Heap} {l : Addr} (x : HR (am.hold l) stack π Hc h) : HR am stack π Hc h :=
  ⟨x.base, x.frames, x.len, x.nodup, fun a ha => x.res a (List.mem_cons_of_mem _ ha), x.off, fun i c a h1 h2 => by
    have := x.cell i c a h1 h2
    cases c with
    | list vs => obtain ⟨xs, e1, e2, e3⟩ := this; exact ⟨xs, e1, e2, e3.reserve.2⟩
    | dict es => exact this⟩

/-- a good end that made a new list: nothing bears it yet -/
noncomputable def FrP (am : Amb) (stack : List Env) (π : List Addr) (s : Shared) (r : R V) (x : Value) (s' : Shared) : Prop :=
  ∃ vs H1 π1 l xs, r = .ok (.lst vs) H1 ∧ x = .ref l ∧ vs.length ≤ 1000000 ∧ s.heap.get? l = none ∧ (l ∉ π1 ∧ l ∉ Fs stack ∧ l ∉ am.res ∧ am.B.get? l = none) ∧ Step (Fs stack) π s π1 s' ∧ HR (am.hold l) stack π1 H1 s'.heap ∧ PL s'.heap l xs ∧ VRs (am.hold l) π1 s'.heap vs xs

/-- all that stood knows nothing of a thing made now -/
theorem HR.held {am : Amb} {stack : List Env} {π : List Addr} {Hc : H} {h h' : Heap} {l : Addr} (hr : HR am stack π Hc h) (hl : h.get? l = none) (k : ∀ b o, h.get? b = some o → h'.get? b = some o) (ho : ∃ o, h'.get? l = some o ∧ ∀ us, o.data ≠ .fields us) :
    HR (am.hold l) stack π Hc h' := by
  have hr' := hr.keeps k
  refine ⟨hr'.base, hr'.frames, hr'.len, hr'.nodup, fun a ha => ?_, hr'.off, fun i c a h1 h2 => ?_⟩
  · rcases List.mem_cons.mp ha with rfl | ha
    · exact ho
    · exact hr'.res a ha
  · have := hr.cell i c a h1 h2
    cases c with
    | list vs =>
      refine hold fun _ k_ => ?_
      obtain ⟨xs, ⟨o, n, e0, e1⟩, e2, e3⟩ := this
      refine k_ ?_
      exact ⟨xs, ⟨o, n, k _ _ e0, e1⟩, e2, (e3.held hl).keeps k⟩
    | dict es => exact this

theorem FrP.new {am : Amb} {stack : List Env} {π : List Addr} {s : Shared} {r : R V} {x : Value} {s1 s' : Shared} {vs : List V} {H1 : H} {π1 : List Addr} (h1 : r = .ok (.lst vs) H1) (h2 : Step (Fs stack) π s π1 s1) (h3 : HR am stack π1 H1 s1.heap) (h4 : vs.length ≤ 1000000) (h5 : NewL am π1 s1 vs x s') :
    FrP am stack π s r x s' := by
  refine hold fun _ k_ => ?_
  obtain ⟨l, xs, h', tk, rfl, rfl, k, e1, e2, e3⟩ := h5
  refine k_ ?_
  refine ⟨vs, H1, π1, l, xs, h1, rfl, h4, ?_, ⟨fresh_pi h3 e1, fresh_fs h3 e1, fresh_res h3 e1, none_of_stays h3.base e1⟩, h2.trans (Step.keeps k), ?_, e2, e3⟩
  · cases hq : s.heap.get? l with
    | none => rfl
    | some o => obtain ⟨o', h6⟩ := h2.ext.alive l o hq; rw [e1] at h6; cases h6
  · refine h3.held e1 k ?_
    refine hold fun _ k_ => ?_
    obtain ⟨o, n, ho, _, _, hd⟩ := e2
    refine k_ ?_
    exact ⟨o, ho, fun us q => by rw [hd] at q; cases q⟩

theorem FrP.lst {am : Amb} {stack : List Env} {π : List Addr} {s : Shared} {r : R V} {x : Value} {s' : Shared} (h : FrP am stack π s r x s') : OkP am stack (VR am) π s r x s' := by
  refine hold fun _ k_ => ?_
  obtain ⟨vs, H1, π1, l, xs, rfl, rfl, h3, h4, h5, h6, h7, h8, h9⟩ := h
  refine k_ ?_
  refine ⟨_, H1, π1, rfl, h6, h7.unhold, ?_⟩
  simp only [VR]
  exact ⟨l, xs, rfl, ⟨h5.1, h5.2.2.1⟩, h8.is, h3, h9.reserve.2⟩

theorem FrP.cell {am : Amb} {stack : List Env} {π : List Addr} {s : Shared} {r : R V} {x : Value} {s' : Shared} (h : FrP am stack π s r x s') :
    OkP am stack (VR am) π s (r.bind fun x h => match x with | .lst vs => .ok (.ref h.length) (h ++ [.list vs]) | _ => .bad) x s' := by
  refine hold fun _ k_ => ?_
  obtain ⟨vs, H1, π1, l, xs, rfl, rfl, h3, h4, h5, h6, h7, h8, h9⟩ := h
  refine k_ ?_
  refine ⟨_, _, π1 ++ [l], rfl, ⟨h6.same, h6.ext, ?_⟩, ⟨h7.base, h7.frames, by simp [h7.len], ?_, h7.unhold.res, ?_, ?_⟩, ?_⟩
  · obtain ⟨δ, rfl, hδ⟩ := h6.grow
    refine ⟨δ ++ [l], by simp, fun a ha => ?_⟩
    rcases List.mem_append.mp ha with ha | ha
    · exact hδ a ha
    · rw [List.mem_singleton.mp ha]; exact h4
  · rw [List.nodup_append]
    exact ⟨h7.nodup, by simp, fun a ha b hb => by rw [List.mem_singleton.mp hb]; exact fun q => h5.1 (q ▸ ha)⟩
  · intro a ha
    rcases List.mem_append.mp ha with ha | ha
    · exact h7.off a ha
    · rw [List.mem_singleton.mp ha]; exact ⟨h5.2.2.2, h5.2.1⟩
  · intro i c a hi ha
    by_cases hlt : i < H1.length
    · rw [List.getElem?_append_left hlt] at hi
      rw [List.getElem?_append_left (by rw [h7.len]; exact hlt)] at ha
      have hc := h7.cell i c a hi ha
      cases c with
      | list ws => obtain ⟨ys, q1, q2, q3⟩ := hc; exact ⟨ys, q1, q2, q3.reserve.1⟩
      | dict es => exact hc
    · have hi' : i = H1.length := by
        have := (List.getElem?_eq_some_iff.mp hi).1
        simp only [List.length_append, List.length_singleton] at this
        omega
      subst hi'
      simp only [List.getElem?_concat_length, Option.some.injEq] at hi
      rw [← h7.len] at ha
      simp only [List.getElem?_concat_length, Option.some.injEq] at ha
      subst hi ha
      exact ⟨xs, h8, h3, h9.reserve.1⟩
  · simp only [VR]
    exact ⟨l, rfl, by rw [← h7.len]; simp⟩

noncomputable def JF (am : Amb) (stack : List Env) (T : PT Value) (r : R V) (π : List Addr) (s : Shared) : Prop := r = .bad ∨ T (FrP am stack π s r) (ErP am stack π s r) s

theorem FrP.step {am : Amb} {stack : List Env} {π π₁ : List Addr} {s s₁ : Shared} {r : R V} {a : Value} {s' : Shared}
    (x : Step (Fs stack) π s π₁ s₁) (y : FrP am stack π₁ s₁ r a s') : FrP am stack π s r a s' := by
  refine hold fun _ k_ => ?_
  obtain ⟨vs, H1, π1, l, xs, h1, h2, h3, h4, h5, h6, h7⟩ := y
  refine k_ ?_
  refine ⟨vs, H1, π1, l, xs, h1, h2, h3, ?_, h5, x.trans h6, h7⟩
  cases hq : s.heap.get? l with
  | none => rfl
  | some o => obtain ⟨o', h6⟩ := x.ext.alive l o hq; rw [h4] at h6; cases h6

section
variable {am : Amb} {stack : List Env} {A : Around} {α β γ δ : Type} {Rel : List Addr → Heap → β → α → Prop} {π : List Addr} {s : Shared}
theorem JF.bind {m : Sem α} {T : α → PT Value} (hT : ∀ a, PT.Mono (T a)) {r : R β} {g : β → H → R V} (h1 : JAt am stack A m r Rel π s)
    (h2 : ∀ a b H' π' s', r = .ok b H' → Step (Fs stack) π s π' s' → HR am stack π' H' s'.heap → Rel π' s'.heap b a → JF am stack (T a) (g b H') π' s') :
    JF am stack (fun Q E s => wpAny am.M A m (fun a s₁ => T a Q E s₁) E s) (r.bind g) π s := by
  rcases h1 with rfl | h1
  · exact .inl rfl
  · cases r with
    | bad => exact .inl rfl
    | err c H' =>
      refine .inr (wpAny_mono h1 (fun a s' h => ?_) fun e s' h => ?_)
      · obtain ⟨_, _, _, h, _⟩ := h; cases h
      · refine hold fun _ k_ => ?_
        obtain ⟨c', H'', π', e', C, fl, h, r2, r3, r4, r5, r6⟩ := h
        refine k_ ?_
        cases h
        exact ⟨c, H', π', e', C, fl, rfl, r2, r3, r4, r5, r6⟩
    | ok b H' =>
      by_cases hb : g b H' = .bad
      · exact .inl hb
      · refine .inr (wpAny_mono h1 (fun a s' h => ?_) fun e s' h => ?_)
        · refine hold fun _ k_ => ?_
          obtain ⟨b', H'', π', h, h3, h4, h5⟩ := h
          refine k_ ?_
          cases h
          rcases h2 a b H' π' s' rfl h3 h4 h5 with h6 | h6
          · exact absurd h6 hb
          · exact hT a _ _ _ _ _ (fun _ _ y => FrP.step h3 y) (fun _ _ y => ErP.step h3 y) h6
        · obtain ⟨_, _, _, _, _, _, h, _⟩ := h; cases h
theorem JF.rule {T T' : PT Value} {r : R V} (h : JF am stack T r π s) (k : ∀ Q E, T Q E s → T' Q E s) : JF am stack T' r π s := by
  rcases h with h | h
  · exact .inl h
  · exact .inr (k _ _ h)
/-- told by value -/
theorem JF.lst {T : PT Value} {m : Sem Value} {r : R V} (h : JF am stack T r π s) (k : ∀ Q E, T Q E s → wpAny am.M A m Q E s) : JAt am stack A m r (VR am) π s := by
  rcases h with h | h
  · exact .inl h
  · refine .inr (wpAny_mono (k _ _ h) (fun a s' h => ?_) fun _ _ h => h)
    exact h.lst
/-- as a cell -/
theorem JF.cell {T : PT Value} {m : Sem Value} {r : R V} (h : JF am stack T r π s) (k : ∀ Q E, T Q E s → wpAny am.M A m Q E s) :
    JAt am stack A m (r.bind fun x h => match x with | .lst vs => .ok (.ref h.length) (h ++ [.list vs]) | _ => .bad) (VR am) π s := by
  rcases h with rfl | h
  · exact .inl rfl
  · refine .inr (wpAny_mono (k _ _ h) (fun a s' h => ?_) fun _ _ h => ?_)
    · exact h.cell
    · refine hold fun _ k_ => ?_
      obtain ⟨c', H'', π', e', C, fl, rfl, r2, r3, r4, r5, r6⟩ := h
      refine k_ ?_
      exact ⟨c', H'', π', e', C, fl, rfl, r2, r3, r4, r5, r6⟩
end

/-- a form that makes a new list -/
noncomputable def FJ (am : Amb) (n : Nat) (q : Bool) (F : Fn) (c : Ck) (e : PE) (ex : Expr) : Prop := ∀ {cx : Cx} {ρ : List V} {A : Around} {res π : List Addr} {Hc : H} {s : Shared}, Base am n q F c cx ρ A → St (am.at res) q cx ρ π Hc A s →
  JF (am.at res) cx.stack (fun Q E s => wpAny am.M A (eval ex cx.env) Q E s) (evE q F ρ e Hc) π s
theorem FJ.ej {e : PE} {ex : Expr} (h : FJ am n q F c e ex) : EJ am n q F c e ex := fun {cx ρ A res π Hc s} B st => (h B st).lst fun _ _ x => x
theorem FJ.own {e : PE} {ex : Expr} (h : FJ am n q F c e ex) : EJ am n q F c (.own e) ex := fun {cx ρ A res π Hc s} B st => by
  simp only [qE_1, qE_2, qE_3, qE_4, qE_5, qE_6, qE_7, qE_8, qE_9, qE_10, qE_11, qE_12, qE_13, qE_14, qE_15, qE_16, qE_17, qE_18, qE_19, qE_20, qE_21, qE_22, qE_23, qE_24, qE_25, qE_26, qE_27, qE_28, qE_29, qE_30, qE_31, qE_32, qE_33, qE_34, qE_35, qE_36, qE_37, qE_38]
  exact (h B st).cell fun _ _ x => x

theorem fj_list {es : List PE} {xs : List Expr} {p : Pos} (h : AllJ am n q F c es xs) : FJ am n q F c (.list es) (.List xs p) := fun {cx ρ A res π Hc s} B st => by
  simp only [qE_1, qE_2, qE_3, qE_4, qE_5, qE_6, qE_7, qE_8, qE_9, qE_10, qE_11, qE_12, qE_13, qE_14, qE_15, qE_16, qE_17, qE_18, qE_19, qE_20, qE_21, qE_22, qE_23, qE_24, qE_25, qE_26, qE_27, qE_28, qE_29, qE_30, qE_31, qE_32, qE_33, qE_34, qE_35, qE_36, qE_37, qE_38]
  refine JF.rule (T := fun Q E s => wpAny am.M A (spliced (plainArgs xs cx.env)) (fun ys s₁ => wpAny am.M A (newList ys) Q E s₁) E s)
    (JF.bind (fun _ => PT.wp _ _) (h.args B st) fun ys vs H1 π1 s1 _ hs1 hr1 hv1 => ?_) fun Q E h' => ?_
  · unfold mkL
    split
    · rename_i hle
      exact .inr (wpAny_newList (FrP.new rfl (.refl ..) hr1 hle (NewL.push (n := 0) (tk := s1.toks) hv1 rfl rfl rfl)) (by rw [hv1.len]; have := mil_le_line; omega))
    · exact .inl rfl
  · rw [arm_eval_List, starEach_plain _ h.stars]
    exact wpAny_bind (wpAny_standAt (wpAny_bind h'))

theorem ej_tup {es : List PE} {xs : List Expr} {k : Nat} {p : Pos} (h : AllJ am n q F c es xs) : EJ am n q F c (.tup es) (.Tuple xs k p) := fun {cx ρ A res π Hc s} B st => by
  simp only [qE_1, qE_2, qE_3, qE_4, qE_5, qE_6, qE_7, qE_8, qE_9, qE_10, qE_11, qE_12, qE_13, qE_14, qE_15, qE_16, qE_17, qE_18, qE_19, qE_20, qE_21, qE_22, qE_23, qE_24, qE_25, qE_26, qE_27, qE_28, qE_29, qE_30, qE_31, qE_32, qE_33, qE_34, qE_35, qE_36, qE_37, qE_38]
  refine JAt.congr (arm_eval_Tuple ..) rfl (JAt.standAt ?_)
  rw [starEach_plain _ h.stars]
  refine JAt.bind (h.args B st) fun ys vs H1 π1 s1 _ hs1 hr1 hv1 => ?_
  unfold mkT
  split
  · rename_i hle
    exact .inr (wpAny_newTuple (OkP.tup (n := 0) hr1 hv1 hle rfl rfl) (by rw [hv1.len]; have := mil_le_line; omega))
  · exact .inl rfl

theorem ej_dict0 {p : Pos} : EJ am n q F c .dict0 (.Dict [] [] p) := fun {cx ρ A res π Hc s} B st => by
  simp only [qE_1, qE_2, qE_3, qE_4, qE_5, qE_6, qE_7, qE_8, qE_9, qE_10, qE_11, qE_12, qE_13, qE_14, qE_15, qE_16, qE_17, qE_18, qE_19, qE_20, qE_21, qE_22, qE_23, qE_24, qE_25, qE_26, qE_27, qE_28, qE_29, qE_30, qE_31, qE_32, qE_33, qE_34, qE_35, qE_36, qE_37, qE_38]
  refine .inr (wpAny_Dict_empty ?_)
  have k : ∀ b o', s.heap.get? b = some o' → (s.heap.push { cls := .type "dict", data := .dict #[] }).get? b = some o' := fun _ _ e => Heap.get?_push_of_some _ e
  refine OkP.keeps (tk := s.toks) st.hr k ?_
  simp only [VR]
  exact ⟨_, _, _, _, rfl, ⟨fresh_pi st.hr (size_none _), fresh_res st.hr (size_none _)⟩, Heap.get?_push_size _ rfl, rfl, rfl⟩

/-- a call of a builtin by its name -/
theorem wp_call_bt {cx : Cx} {ρ : List V} {A : Around} {res π : List Addr} {Hc : H} {s : Shared} (B : Base am n q F c cx ρ A) (hr : HR (am.at res) cx.stack π Hc s.heap) {x : Str} {v : Value} {y : Expr} {ys : List Expr} {p p' : Pos} {Q : Value → Shared → Prop} {E : Value → Shared → Prop} (hx : c.glob x = true)
    (hv : (x, v) ∈ bTab) (hs : ∀ z ∈ y :: ys, isStar z = false)
    (h : wpAny am.M A (spliced (plainArgs (y :: ys) cx.env)) (fun vs s₁ => wpAny am.M A (PySem.call v vs []) Q E s₁) E s) : wpAny am.M A (eval (.Call (.Name x p) (y :: ys) [] p') cx.env) Q E s := by
  have hp : (plainArgs (y :: ys) cx.env).any (·.1) = false := by
    simp [plainArgs, List.any_eq_false]
  refine wpAny_Call_Name_kw (wp_bt B hr hx hv ?_)
  rw [starEach_plain _ hs]
  have h' : wpAny am.M A (evalArgs v true (plainArgs (y :: ys) cx.env) []) (fun a s₁ => wpAny am.M A (PySem.call v ([] ++ a.pos) a.kw) Q E s₁) E s := Calls.evalArgs_plain h
  rcases bt_kind hv with ⟨id, rfl⟩ | ⟨T, rfl⟩
  · exact Calls.callWith_builtin hp h'
  · exact PySem.callWith_type hp h'
end

end Mine

namespace Mine
open PySem PySem.W PyProof.Rows

theorem mapRefs_len (g : Nat → Option V) : ∀ {vs ws : List V}, V.mapRefs g vs = some ws → ws.length = vs.length
  | [], ws, h => by simp only [V.mapRefs, Option.some.injEq] at h; subst h; rfl
  | v :: vs, ws, h => by
    simp only [V.mapRefs, Option.bind_eq_some_iff, Option.map_eq_some_iff] at h
    refine hold fun _ k_ => ?_
    obtain ⟨v', _, ws', h2, rfl⟩ := h
    refine k_ ?_
    simp [mapRefs_len g h2]

section
variable {am : Amb} {π δ : List Addr} {h : Heap}

mutual
theorem VR.mapRef {g : Nat → Option V} (hg : ∀ i a w, (π ++ δ)[i]? = some a → g i = some w → VR am π h w (.ref a)) :
    ∀ {v v' : V} {x : Value}, VR am (π ++ δ) h v x → V.mapRef g v = some v' → VR am π h v' x
  | .undef, _, _, e, _ => e.elim
  | .none, _, _, e, k => by simp only [V.mapRef, Option.some.injEq] at k; subst k; exact e
  | .bool _, _, _, e, k => by simp only [V.mapRef, Option.some.injEq] at k; subst k; exact e
  | .int _, _, _, e, k => by simp only [V.mapRef, Option.some.injEq] at k; subst k; exact e
  | .str _, _, _, e, k => by simp only [V.mapRef, Option.some.injEq] at k; subst k; exact e
  | .tup vs, _, x, e, k => by
    simp only [V.mapRef, Option.map_eq_some_iff] at k
    obtain ⟨ws, k, rfl⟩ := k
    simp only [VR] at e ⊢
    refine hold fun _ k_ => ?_
    obtain ⟨a, xs, h1, h2, h3, h4, h5⟩ := e
    refine k_ ?_
    exact ⟨a, xs, h1, ⟨fun hm => h2.1 (List.mem_append_left _ hm), h2.2⟩, h3, by rw [mapRefs_len g k]; exact h4, VRs.mapRefs hg h5 k⟩
  | .lst vs, _, x, e, k => by
    simp only [V.mapRef, Option.map_eq_some_iff] at k
    obtain ⟨ws, k, rfl⟩ := k
    simp only [VR] at e ⊢
    refine hold fun _ k_ => ?_
    obtain ⟨a, xs, h1, h2, h3, h4, h5⟩ := e
    refine k_ ?_
    exact ⟨a, xs, h1, ⟨fun hm => h2.1 (List.mem_append_left _ hm), h2.2⟩, h3, by rw [mapRefs_len g k]; exact h4, VRs.mapRefs hg h5 k⟩
  | .ref i, _, x, e, k => by
    simp only [V.mapRef] at k
    simp only [VR] at e
    obtain ⟨a, rfl, h2⟩ := e
    exact hg i a _ h2 k
  | .exc _, _, _, e, _ => e.elim
  | .dct, _, _, e, k => by
    simp only [V.mapRef, Option.some.injEq] at k; subst k
    simp only [VR] at e ⊢
    refine hold fun _ k_ => ?_
    obtain ⟨a, o, es, ep, h1, h2, r⟩ := e
    refine k_ ?_
    exact ⟨a, o, es, ep, h1, ⟨fun hm => h2.1 (List.mem_append_left _ hm), h2.2⟩, r⟩
theorem VRs.mapRefs {g : Nat → Option V} (hg : ∀ i a w, (π ++ δ)[i]? = some a → g i = some w → VR am π h w (.ref a)) :
    ∀ {vs ws : List V} {xs : List Value}, VRs am (π ++ δ) h vs xs → V.mapRefs g vs = some ws → VRs am π h ws xs
  | [], _, _, e, k => by simp only [V.mapRefs, Option.some.injEq] at k; subst k; exact e
  | v :: vs, ws, xs, e, k => by
    simp only [V.mapRefs, Option.bind_eq_some_iff, Option.map_eq_some_iff] at k
    refine hold fun _ k_ => ?_
    obtain ⟨v', k1, ws', k2, rfl⟩ := k
    refine k_ ?_
    simp only [VRs] at e ⊢
    refine hold fun _ k_ => ?_
    obtain ⟨x, xs', rfl, h1, h2⟩ := e
    refine k_ ?_
    exact ⟨x, xs', rfl, VR.mapRef hg h1 k1, VRs.mapRefs hg h2 k2⟩
end

theorem VR.frzAt {stack : List Env} {H' : H} (hr : HR am stack (π ++ δ) H' h) (hres : ∀ a ∈ δ, a ∉ am.res) :
    ∀ (k : Nat) (i : Nat) (a : Addr) (w : V), (π ++ δ)[i]? = some a → Mine.frzAt k π.length H' i = some w → VR am π h w (.ref a) := by
  have low : ∀ i a, (π ++ δ)[i]? = some a → i < π.length → VR am π h (.ref i) (.ref a) := fun i a h1 h2 => by
    simp only [VR]
    rw [List.getElem?_append_left h2] at h1
    exact ⟨a, rfl, h1⟩
  intro k
  induction k with
  | zero =>
    intro i a w h1 h2
    unfold Mine.frzAt at h2
    split at h2
    · cases h2; exact low i a h1 ‹_›
    · cases h2
  | succ k ih =>
    intro i a w h1 h2
    unfold Mine.frzAt at h2
    split at h2
    · cases h2; exact low i a h1 ‹_›
    · rename_i hi
      split at h2
      · rename_i vs hv
        simp only [Option.map_eq_some_iff] at h2
        obtain ⟨ws, h2, rfl⟩ := h2
        refine hold fun _ k_ => ?_
        obtain ⟨xs, h3, h4, h5⟩ := hr.cell i _ a hv h1
        refine k_ ?_
        simp only [VR]
        have hd : a ∈ δ := by
          rw [List.getElem?_append_right (by omega)] at h1
          exact List.mem_of_getElem? h1
        have hn := hr.nodup
        rw [List.nodup_append] at hn
        exact ⟨a, xs, rfl, ⟨fun hm => hn.2.2 a hm a hd rfl, hres a hd⟩, h3.is, by rw [mapRefs_len _ h2]; exact h4, VRs.mapRefs ih h5 h2⟩
      · cases h2

mutual
/-- what knew only the old cells does so still -/
theorem VR.cut {h₀ : Heap} : ∀ {v : V} {x x₀ : Value}, VR am (π ++ δ) h v x → VR am π h₀ v x₀ → VR am π h v x
  | .undef, _, _, e, _ => e
  | .none, _, _, e, _ => e
  | .bool _, _, _, e, _ => e
  | .int _, _, _, e, _ => e
  | .str _, _, _, e, _ => e
  | .tup vs, x, x₀, e, f => by
    simp only [VR] at e f ⊢
    refine hold fun _ k_ => ?_
    obtain ⟨a, xs, h1, h2, h3, h4, h5⟩ := e
    refine k_ ?_
    refine hold fun _ k_ => ?_
    obtain ⟨_, ys, _, _, _, _, f5⟩ := f
    refine k_ ?_
    exact ⟨a, xs, h1, ⟨fun hm => h2.1 (List.mem_append_left _ hm), h2.2⟩, h3, h4, VRs.cut h5 f5⟩
  | .lst vs, x, x₀, e, f => by
    simp only [VR] at e f ⊢
    refine hold fun _ k_ => ?_
    obtain ⟨a, xs, h1, h2, h3, h4, h5⟩ := e
    refine k_ ?_
    refine hold fun _ k_ => ?_
    obtain ⟨_, ys, _, _, _, _, f5⟩ := f
    refine k_ ?_
    exact ⟨a, xs, h1, ⟨fun hm => h2.1 (List.mem_append_left _ hm), h2.2⟩, h3, h4, VRs.cut h5 f5⟩
  | .ref i, x, x₀, e, f => by
    simp only [VR] at e f ⊢
    obtain ⟨a, h1, h2⟩ := e
    obtain ⟨b, _, f2⟩ := f
    rw [List.getElem?_append_left (List.getElem?_eq_some_iff.mp f2).1] at h2
    exact ⟨a, h1, h2⟩
  | .exc _, _, _, e, _ => e
  | .dct, _, _, e, _ => by
    simp only [VR] at e ⊢
    refine hold fun _ k_ => ?_
    obtain ⟨a, o, es, ep, h1, h2, r⟩ := e
    refine k_ ?_
    exact ⟨a, o, es, ep, h1, ⟨fun hm => h2.1 (List.mem_append_left _ hm), h2.2⟩, r⟩
theorem VRs.cut {h₀ : Heap} : ∀ {vs : List V} {xs xs₀ : List Value}, VRs am (π ++ δ) h vs xs → VRs am π h₀ vs xs₀ → VRs am π h vs xs
  | [], _, _, e, _ => e
  | v :: vs, xs, xs₀, e, f => by
    simp only [VRs] at e f ⊢
    refine hold fun _ k_ => ?_
    obtain ⟨x, xs', rfl, h1, h2⟩ := e
    refine k_ ?_
    refine hold fun _ k_ => ?_
    obtain ⟨y, ys', rfl, f1, f2⟩ := f
    refine k_ ?_
    exact ⟨x, xs', rfl, VR.cut h1 f1, VRs.cut h2 f2⟩
end

theorem HR.cut {stack : List Env} {Hc H' : H} {h₀ : Heap} (hr : HR am stack (π ++ δ) H' h) (hr₀ : HR am stack π Hc h₀) (ht : H'.take Hc.length = Hc) : HR am stack π Hc h := by
  refine ⟨hr.base, hr.frames, hr₀.len, hr₀.nodup, hr.res, fun a ha => hr.off a (List.mem_append_left _ ha), fun i c a h1 h2 => ?_⟩
  have hi : i < Hc.length := (List.getElem?_eq_some_iff.mp h1).1
  have h3 : H'[i]? = some c := by
    have := congrArg (fun l => l[i]?) ht
    simp only [List.getElem?_take, hi, if_true] at this
    rw [this]; exact h1
  have h4 : (π ++ δ)[i]? = some a := by rw [List.getElem?_append_left (by rw [hr₀.len]; exact hi)]; exact h2
  have h5 := hr.cell i c a h3 h4
  have h6 := hr₀.cell i c a h1 h2
  cases c with
  | list vs =>
    refine hold fun _ k_ => ?_
    obtain ⟨xs, e1, e2, e3⟩ := h5
    refine k_ ?_
    refine hold fun _ k_ => ?_
    obtain ⟨ys, f1, f2, f3⟩ := h6
    refine k_ ?_
    exact ⟨xs, e1, e2, e3.cut f3⟩
  | dict es => exact h5
end

theorem Step.less {Fs π π' : List Addr} {s s' : Shared} (x : Step Fs π s π' s') : Step Fs π s π s' := ⟨x.same, x.ext, [], by simp, by simp⟩

theorem JAt.pcall {am : Amb} {stack : List Env} {A : Around} {π : List Addr} {s : Shared} {Hc : H} {m : Sem Value} {r : R V} (hr : HR am stack π Hc s.heap) (h : JAt am stack A m r (VR am) π s) : JAt am stack A m (Mine.pcall Hc r) (VR am) π s := by
  rcases h with rfl | h
  · exact .inl rfl
  · cases r with
    | bad => exact .inl rfl
    | err c H' =>
      simp only [Mine.pcall]
      split
      · rename_i ht
        refine .inr (wpAny_mono h (fun a s' h => ?_) fun e s' h => ?_)
        · obtain ⟨_, _, _, h, _⟩ := h; cases h
        · refine hold fun _ k_ => ?_
          obtain ⟨c', H'', π', e', C, fl, h1, h2, h3, h4, h5, h6⟩ := h
          refine k_ ?_
          cases h1
          obtain ⟨δ, rfl, hδ⟩ := h4.grow
          exact ⟨c, Hc, π, e', C, fl, rfl, h2, h3, h4.less, h5.cut hr ht, h6⟩
      · exact .inl rfl
    | ok v H' =>
      simp only [Mine.pcall]
      split
      · rename_i ht
        cases hf : frz Hc.length H' v with
        | none => exact .inl rfl
        | some w =>
          refine .inr (wpAny_mono h (fun a s' h => ?_) fun e s' h => ?_)
          · refine hold fun _ k_ => ?_
            obtain ⟨b, H'', π', h1, h2, h3, h4⟩ := h
            refine k_ ?_
            cases h1
            obtain ⟨δ, rfl, hδ⟩ := h2.grow
            refine ⟨w, Hc, π, rfl, h2.less, h3.cut hr ht, ?_⟩
            rw [← hr.len] at hf
            exact VR.mapRef (VR.frzAt h3 (fun a ha hm => by
              obtain ⟨o, ho, _⟩ := hr.res a hm
              rw [hδ a ha] at ho; cases ho) 4) h4 hf
          · obtain ⟨_, _, _, _, _, _, h, _⟩ := h; cases h
      · exact .inl rfl

section
variable {am : Amb} {n : Nat} {q : Bool} {F : Fn} {c : Ck}

theorem spl1 {M : Model} {A : Around} {env : Env} {y : Expr} {Q : List Value → Shared → Prop} {E : Value → Shared → Prop} {s : Shared} (h : wpAny M A (eval y env) (fun v s₁ => Q [v] s₁) E s) : wpAny M A (spliced (plainArgs [y] env)) Q E s :=
  Calls.spliced_cons (wpAny_mono h (fun _ _ h => Calls.spliced_nil h) fun _ _ x => x)
theorem spl2 {M : Model} {A : Around} {env : Env} {y z : Expr} {Q : List Value → Shared → Prop} {E : Value → Shared → Prop} {s : Shared} (h : wpAny M A (eval y env) (fun v s₁ => wpAny M A (eval z env) (fun w s₂ => Q [v, w] s₂) E s₁) E s) : wpAny M A (spliced (plainArgs [y, z] env)) Q E s :=
  Calls.spliced_cons (wpAny_mono h (fun _ _ h => spl1 h) fun _ _ x => x)

noncomputable def bfVal : Bf → Value
  | .len => .builtin "len" | .all => .builtin "all" | .any => .builtin "any" | .sorted => .builtin "sorted" | .min => .builtin "min" | .sum => .builtin "sum"
  | .list => .type "list" | .tuple => .type "tuple" | .int => .type "int" | .str => .type "str" | .listRev => .type "list" | .listRange => .type "list"

theorem bf_tab (f : Bf) : (bfName f, bfVal f) ∈ bTab := by cases f <;> exact bt_mem (by kernel_rfl)

theorem Hd.quiet {A : Around} {π Fs : List Addr} {h : Heap} (x : Hd true A π Fs h) : A.handled = none := x

theorem op_bf {f : Bf} {am : Amb} {stack : List Env} {A : Around} {π : List Addr} {s : Shared} {Hc : H} {a : V} {x : Value} (hf : f.ready = true) (h0 : f ≠ .listRev) (hq : f.walks = true → A.handled = none) (hr : HR am stack π Hc s.heap) (ha : VR am π s.heap a x) :
    JAt am stack A (PySem.call (bfVal f) [x]) (R.opt (bf f Hc a) Hc) (VR am) π s := by
  cases f with
  | len => exact op_len hr ha
  | list => exact op_list hr ha
  | tuple => exact op_tuple hr ha
  | int => exact op_int hr ha
  | str => exact op_str hr ha
  | all => exact op_all (hq rfl) hr ha
  | any => exact op_any (hq rfl) hr ha
  | listRev => exact absurd rfl h0
  | _ => simp [Bf.ready] at hf

theorem ej_bf {f : Bf} {a : PE} {y : Expr} {p p' : Pos} (h0 : f ≠ .listRev) (hx : c.glob (bfName f) = true) (hy : isStar y = false) (ha : EJ am n q F c a y) : EJ am n q F c (.bf f a) (.Call (.Name (bfName f) p) [y] [] p') := fun {cx ρ A res π Hc s} B st => by
  simp only [qE_1, qE_2, qE_3, qE_4, qE_5, qE_6, qE_7, qE_8, qE_9, qE_10, qE_11, qE_12, qE_13, qE_14, qE_15, qE_16, qE_17, qE_18, qE_19, qE_20, qE_21, qE_22, qE_23, qE_24, qE_25, qE_26, qE_27, qE_28, qE_29, qE_30, qE_31, qE_32, qE_33, qE_34, qE_35, qE_36, qE_37, qE_38]
  split
  · exact .inl rfl
  · rename_i hq
    simp only [Bool.or_eq_true, Bool.and_eq_true, Bool.not_eq_true', not_or, not_and, Bool.not_eq_false] at hq
    refine JT.at (T := fun Q E s => wpAny am.M A (eval y cx.env) (fun v s₁ => wpAny am.M A (PySem.call (bfVal f) [v]) Q E s₁) E s) (JT.bind (fun _ => PT.wp _ _) (ha B st) fun x v H1 π1 s1 _ hs1 hr1 hv1 => JAt.pt ?_)
      fun Q E h => wp_call_bt B st.hr hx (bf_tab f) (by simpa using hy) (spl1 h)
    refine op_bf hq.2 h0 (fun hw => ?_) hr1 hv1
    cases q with
    | false => exact absurd hw (by simpa using hq.1)
    | true => exact Hd.quiet st.hd

theorem fj_bflist {a : PE} {y : Expr} {p p' : Pos} (hx : c.glob (bfName .list) = true) (hy : isStar y = false) (ha : EJ am n q F c a y) : FJ am n q F c (.bf .list a) (.Call (.Name (bfName .list) p) [y] [] p') := fun {cx ρ A res π Hc s} B st => by
  have e : evE q F ρ (.bf .list a) Hc = (evE q F ρ a Hc).bind fun x h => R.opt (bf .list h x) h := by
    simp only [qE_1, qE_2, qE_3, qE_4, qE_5, qE_6, qE_7, qE_8, qE_9, qE_10, qE_11, qE_12, qE_13, qE_14, qE_15, qE_16, qE_17, qE_18, qE_19, qE_20, qE_21, qE_22, qE_23, qE_24, qE_25, qE_26, qE_27, qE_28, qE_29, qE_30, qE_31, qE_32, qE_33, qE_34, qE_35, qE_36, qE_37, qE_38, Bf.ready, Bf.walks]; simp
  rw [e]
  refine JF.rule (T := fun Q E s => wpAny am.M A (eval y cx.env) (fun v s₁ => wpAny am.M A (PySem.call (.type "list") [v]) Q E s₁) E s) (JF.bind (fun _ => PT.wp _ _) (ha B st) fun x v H1 π1 s1 _ hs1 hr1 hv1 => ?_)
      fun Q E h => wp_call_bt B st.hr hx (bf_tab .list) (by simpa using hy) (spl1 h)
  unfold bf
  dsimp only
  cases hi : items H1 v with
  | none => exact .inl rfl
  | some vs =>
    obtain ⟨xs, hz⟩ : ∃ xs : List Value, vs.length ≤ 1000000 := ⟨[], by
      rcases items_at hr1 hv1 hi with ⟨l, xs, h⟩
      rcases h with ⟨_, h⟩
      first | exact h.2.1 | exact h.1 | omega⟩
    exact .inr (wp_list (am := am.at res) hr1 hv1 hi fun y s' h => FrP.new rfl (.refl ..) hr1 hz h)

theorem fj_rev {a : PE} {y : Expr} {p p' p2 p2' : Pos} (hx : c.glob (bfName .list) = true) (hx2 : c.glob "reversed" = true) (hy : isStar y = false) (ha : EJ am n q F c a y) :
    FJ am n q F c (.bf .listRev a) (.Call (.Name (bfName .listRev) p) [.Call (.Name "reversed" p2) [y] [] p2'] [] p') := fun {cx ρ A res π Hc s} B st => by
  simp only [qE_1, qE_2, qE_3, qE_4, qE_5, qE_6, qE_7, qE_8, qE_9, qE_10, qE_11, qE_12, qE_13, qE_14, qE_15, qE_16, qE_17, qE_18, qE_19, qE_20, qE_21, qE_22, qE_23, qE_24, qE_25, qE_26, qE_27, qE_28, qE_29, qE_30, qE_31, qE_32, qE_33, qE_34, qE_35, qE_36, qE_37, qE_38]
  split
  · exact .inl rfl
  · rename_i hq
    have hq' : q = true := by cases q <;> simp [Bf.walks] at hq ⊢
    subst hq'
    have hh := Hd.quiet st.hd
    refine JF.rule (T := fun Q E s => wpAny am.M A (eval y cx.env) (fun v s₁ => wpAny am.M A (PySem.call (.type "reversed") [v]) (fun i s₂ => wpAny am.M A (PySem.call (.type "list") [i]) Q E s₂) E s₁) E s)
      (JF.bind (fun _ => PT.seq _ _ fun _ => PT.wp _ _) (ha B st) fun x v H1 π1 s1 _ hs1 hr1 hv1 => ?_)
      fun Q E h => wp_call_bt B st.hr hx (bf_tab .listRev) (fun z hz => by rw [List.mem_singleton.mp hz]; rfl) (spl1 (wp_call_bt B st.hr hx2 (bt_mem (by kernel_rfl)) (by simpa using hy) (spl1 h)))
    unfold bf
    dsimp only
    cases hi : litems H1 v with
    | none => exact .inl rfl
    | some vs =>
      refine hold fun _ k_ => ?_
      obtain ⟨l, xs, _, _, hz, _⟩ := litems_at hr1 hv1 hi
      refine k_ ?_
      exact .inr (wp_listRev (am := am.at res) hh hr1 hv1 hi fun y s' h => FrP.new rfl (.refl ..) hr1 (by simpa using hz) h)
end

end Mine

namespace Mine
open PySem PySem.W PyProof.Rows

section
variable {am : Amb} {n : Nat} {q : Bool} {F : Fn} {c : Ck}



/-- the names of types, as they stand -/
theorem wp_ty {cx : Cx} {ρ : List V} {A : Around} {res π : List Addr} {Hc : H} {s : Shared} (B : Base am n q F c cx ρ A) (hr : HR (am.at res) cx.stack π Hc s.heap) {t : Ty} {x : Expr} {Q : Value → Shared → Prop} {E : Value → Shared → Prop} (hp : tyPl t = true) (hk : ckTy c t x = true) (h : Q (tyVal t) s) :
    wpAny am.M A (eval x cx.env) Q E s := by
  obtain ⟨p, rfl, hk'⟩ := ckTy_inv hk
  refine wp_bt B hr hk' ?_ h
  cases t <;> first | exact noB hp | exact bt_mem (by kernel_rfl)

theorem wp_tys {cx : Cx} {ρ : List V} {A : Around} {res π : List Addr} {Hc : H} {s : Shared} (B : Base am n q F c cx ρ A) (hr : HR (am.at res) cx.stack π Hc s.heap) : ∀ {ts : List Ty} {xs : List Expr} {Q : List Value → Shared → Prop} {E : Value → Shared → Prop}, ts.all tyPl = true → ckTys c ts xs = true → Q (ts.map tyVal) s →
    wpAny am.M A (spliced (plainArgs xs cx.env)) Q E s
  | [], [], Q, E, _, _, h => Calls.spliced_nil h
  | t :: ts, x :: xs, Q, E, hp, hk, h => by
    simp only [List.all_cons, Bool.and_eq_true] at hp
    simp only [ckTys, Bool.and_eq_true] at hk
    exact Calls.spliced_cons (wp_ty B hr hp.1 hk.1 (wp_tys B hr hp.2 hk.2 h))
  | [], _ :: _, _, _, _, hk, _ => by simp [ckTys] at hk
  | _ :: _, [], _, _, _, hk, _ => by simp [ckTys] at hk
theorem tys_star : ∀ {ts : List Ty} {xs : List Expr}, ckTys c ts xs = true → ∀ x ∈ xs, isStar x = false
  | [], [], _ => by simp
  | t :: ts, x :: xs, hk => by
    simp only [ckTys, Bool.and_eq_true] at hk
    intro y hy
    rcases List.mem_cons.mp hy with rfl | hy
    · obtain ⟨p, rfl, _⟩ := ckTy_inv hk.1; rfl
    · exact tys_star hk.2 y hy
  | [], _ :: _, hk => by simp [ckTys] at hk
  | _ :: _, [], hk => by simp [ckTys] at hk
theorem tyPl_plain {t : Ty} (h : tyPl t = true) : t.plain = true := by cases t <;> first | rfl | (simp [tyPl] at h; done)
theorem tyPl_all {ts : List Ty} (h : ts.all tyPl = true) : ts.all Ty.plain = true := by
  simp only [List.all_eq_true] at h ⊢; exact fun t ht => tyPl_plain (h t ht)

theorem ej_isinst {a : PE} {t : Ty} {y x : Expr} {p p' : Pos} (hx : c.glob "isinstance" = true) (hp : tyPl t = true) (hk : ckTy c t x = true) (hy : isStar y = false) (ha : EJ am n q F c a y) :
    EJ am n q F c (.isinst a [t]) (.Call (.Name "isinstance" p) [y, x] [] p') := fun {cx ρ A res π Hc s} B st => by
  simp only [qE_1, qE_2, qE_3, qE_4, qE_5, qE_6, qE_7, qE_8, qE_9, qE_10, qE_11, qE_12, qE_13, qE_14, qE_15, qE_16, qE_17, qE_18, qE_19, qE_20, qE_21, qE_22, qE_23, qE_24, qE_25, qE_26, qE_27, qE_28, qE_29, qE_30, qE_31, qE_32, qE_33, qE_34, qE_35, qE_36, qE_37, qE_38]
  refine JT.at (T := fun Q E s => wpAny am.M A (eval y cx.env) (fun v s₁ => wpAny am.M A (eval x cx.env) (fun w s₂ => wpAny am.M A (PySem.call (.builtin "isinstance") [v, w]) Q E s₂) E s₁) E s)
    (JT.bind (fun _ => PT.seq _ _ fun _ => PT.wp _ _) (ha B st) fun z v H1 π1 s1 _ hs1 hr1 hv1 => ?_)
    fun Q E h => wp_call_bt B st.hr hx (bt_mem (by kernel_rfl)) (by intro z hz; rcases List.mem_cons.mp hz with rfl | hz; exact hy; exact tys_star (c := c) (ts := [t]) (xs := [x]) (by simp [ckTys, hk]) z hz) (spl2 h)
  refine JT.rule (JAt.pt (op_isi (A := A) (am := am.at res) B.ok.K hr1 hv1 (tyPl_plain hp))) fun Q E h => ?_
  exact wp_ty B hr1 hp hk h

theorem ej_isinst2 {a : PE} {ts : List Ty} {y : Expr} {xs : List Expr} {k : Nat} {p p' p2 : Pos} (hx : c.glob "isinstance" = true) (hp : ts.all tyPl = true) (hk : ckTys c ts xs = true) (hts : ts ≠ []) (hl : ts.length ≤ 1000) (hy : isStar y = false) (ha : EJ am n q F c a y) :
    EJ am n q F c (.isinst a ts) (.Call (.Name "isinstance" p) [y, .Tuple xs k p2] [] p') := fun {cx ρ A res π Hc s} B st => by
  simp only [qE_1, qE_2, qE_3, qE_4, qE_5, qE_6, qE_7, qE_8, qE_9, qE_10, qE_11, qE_12, qE_13, qE_14, qE_15, qE_16, qE_17, qE_18, qE_19, qE_20, qE_21, qE_22, qE_23, qE_24, qE_25, qE_26, qE_27, qE_28, qE_29, qE_30, qE_31, qE_32, qE_33, qE_34, qE_35, qE_36, qE_37, qE_38]
  refine JT.at (T := fun Q E s => wpAny am.M A (eval y cx.env) (fun v s₁ => wpAny am.M A (eval (.Tuple xs k p2) cx.env) (fun w s₂ => wpAny am.M A (PySem.call (.builtin "isinstance") [v, w]) Q E s₂) E s₁) E s)
    (JT.bind (fun _ => PT.seq _ _ fun _ => PT.wp _ _) (ha B st) fun z v H1 π1 s1 _ hs1 hr1 hv1 => ?_)
    fun Q E h => wp_call_bt B st.hr hx (bt_mem (by kernel_rfl)) (by intro z hz; rcases List.mem_cons.mp hz with rfl | hz; exact hy; rw [List.mem_singleton.mp hz]; rfl) (spl2 h)
  let o : Obj := { cls := .type "tuple", data := .seq (ts.map tyVal).toArray }
  have kk : ∀ b o', s1.heap.get? b = some o' → (s1.heap.push o).get? b = some o' := fun b o' q => Heap.get?_push_of_some _ q
  have stp : Step (Fs cx.stack) π1 s1 π1 { s1 with heap := s1.heap.push o } := Step.keeps (tk := s1.toks) kk
  have base := op_isi2 (A := A) (am := am.at res) (s := { s1 with heap := s1.heap.push o }) (ts := ts) (tp := s1.heap.objs.size) (n := 0) (dd := none) (sl := #[]) B.ok.K (hr1.keeps kk) (hv1.keeps kk) (tyPl_all hp) hts (Heap.get?_push_size _ rfl)
  rcases base with h | h
  · exact .inl h
  · refine .inr ?_
    rw [arm_eval_Tuple, starEach_plain _ (tys_star hk)]
    refine wpAny_bind (wpAny_standAt (wpAny_bind (wp_tys B hr1 hp hk ?_)))
    exact wpAny_newTuple (wpAny_mono h (fun _ _ y => OkP.step stp y) fun _ _ y => ErP.step stp y) (by simp [sizeLine]; omega)

theorem ej_call {k : Bool} {f : String} {es : List PE} {x : Expr} {xs : List Expr} {p p' : Pos} (hx : c.glob (Str.ofString f) = true) (hf : f ∈ c.fns) (h : AllJ am n q F c es (x :: xs)) :
    EJ am n q F c (.call k f es) (.Call (.Name (Str.ofString f) p) (x :: xs) [] p') := fun {cx ρ A res π Hc s} B st => by
  simp only [qE_1, qE_2, qE_3, qE_4, qE_5, qE_6, qE_7, qE_8, qE_9, qE_10, qE_11, qE_12, qE_13, qE_14, qE_15, qE_16, qE_17, qE_18, qE_19, qE_20, qE_21, qE_22, qE_23, qE_24, qE_25, qE_26, qE_27, qE_28, qE_29, qE_30, qE_31, qE_32, qE_33, qE_34, qE_35, qE_36, qE_37, qE_38]
  obtain ⟨a, fa⟩ := B.ck.fns f hf
  refine hold fun _ k_ => ?_
  obtain ⟨ga, o, fd, ho, hd⟩ := id fa
  refine k_ ?_
  refine JAt.seqP (m := spliced (plainArgs (x :: xs) cx.env)) (f := fun vs => PySem.call (.ref a) vs []) (P := fun _ s₁ => s₁.heap.get? a = some o ∧ o.data = .func fd) (fun Q E h' => ?_) (h.args B st) fun ys vs H1 π1 s1 _ hs1 hr1 hv1 => ⟨⟨hr1.base a o ho, hd⟩, ?_⟩
  · refine wpAny_Call_Name_kw (wp_glob B st.hr hx ga ?_)
    rw [starEach_plain _ h.stars]
    exact Calls.callWith_function (o := o) (fd := fd) (Calls.evalArgs_plain h')
  · have J := B.fn.call res q f a vs ys cx.stack A π1 H1 s1 fa B.as hr1 (st.hd.step hs1) (.inl hv1)
    cases k with
    | true => exact J
    | false => exact JAt.pcall hr1 J

end

end Mine

namespace Mine
open PySem PySem.W PyProof.Rows

theorem PL.update {h : Heap} {l : Addr} {xs : List Value} (pl : PL h l xs) (f : Array Value → Array Value) : PL (h.update l (Obj.mapSeq f)) l (f (List.toArray xs)).toList := by
  refine hold fun _ k_ => ?_
  obtain ⟨o, n, ho, hc, hdi, hd⟩ := pl
  refine k_ ?_
  obtain ⟨n', hd'⟩ := Obj.data_mapSeq hd f
  refine ⟨_, n', Heap.get?_update_self _ ho (Obj.isFreed_of_seq hd'), (Obj.cls_mapSeq ..).trans hc, ?_, by simpa using hd'⟩
  refine hold fun _ k_ => ?_
  obtain ⟨c, d, dt, sl⟩ := o
  refine k_ ?_
  simp only at hd hdi
  subst hd hdi
  rfl

theorem funFrames_but {h h' base : Heap} {l : Addr} (k : ∀ b o, b ≠ l → h.get? b = some o → h'.get? b = some o) (hl : ∃ o, h'.get? l = some o ∧ ∀ us, o.data ≠ .fields us) :
    ∀ {st : List Env}, h.FunFrames base st → h'.FunFrames base st
  | [], _ => trivial
  | e :: st, x => by
    refine hold fun _ k_ => ?_
    obtain ⟨h1, ⟨L, o, h2, h3, h4, h5⟩, h6⟩ := x
    refine k_ ?_
    refine ⟨h1, ?_, funFrames_but k hl h6⟩
    by_cases hL : L = l
    · subst hL
      obtain ⟨o', h7, h8⟩ := hl
      exact ⟨L, o', h2, h3, h7, h8⟩
    · exact ⟨L, o, h2, h3, k L o hL h4, h5⟩

theorem mem_of_get {π : List Addr} {i : Nat} {l : Addr} (h : π[i]? = some l) : l ∈ π := List.mem_of_getElem? h

theorem pi_inj {π : List Addr} (hn : π.Nodup) {i j : Nat} {l : Addr} (h1 : π[i]? = some l) (h2 : π[j]? = some l) : i = j := by
  exact (List.getElem?_inj (List.getElem?_eq_some_iff.mp h1).1 hn).mp (h1.trans h2.symm)

/-- a cell's list is another now -/
theorem HR.put {am : Amb} {stack : List Env} {π : List Addr} {Hc : H} {s : Shared} (hr : HR am stack π Hc s.heap) {i : Nat} {l : Addr} (hi : π[i]? = some l) {vs : List V} {xs : List Value} (hz : vs.length ≤ 1000000) {h' : Heap} {tk : Nat}
    (k : ∀ b o, b ≠ l → s.heap.get? b = some o → h'.get? b = some o) (pl : PL h' l xs) (hv : VRs am π s.heap vs xs) :
    Step (Fs stack) π s π { s with heap := h', toks := tk } ∧ HR am stack π (Hc.set i (.list vs)) h' := by
  have hl := mem_of_get hi
  have nf : ∃ o, h'.get? l = some o ∧ ∀ us, o.data ≠ .fields us := by
    refine hold fun _ k_ => ?_
    obtain ⟨o, n, ho, _, _, hd⟩ := pl
    refine k_ ?_
    exact ⟨o, ho, fun us q => by rw [hd] at q; cases q⟩
  have st : Step (Fs stack) π s π { s with heap := h', toks := tk } := by
    refine ⟨⟨h', tk, rfl⟩, ⟨fun a o e h1 _ => k a o (fun q => h1 (q ▸ hl)) e, fun a o e h1 => ⟨o.slots, k a o (fun q => h1 (q ▸ hl)) e⟩, fun a o e => ?_⟩, [], by simp, by simp⟩
    by_cases ha : a = l
    · subst ha; obtain ⟨o, ho, _⟩ := nf; exact ⟨o, ho⟩
    · exact ⟨o, k a o ha e⟩
  refine ⟨st, ⟨fun a o e => ?_, funFrames_but k nf hr.frames, by simp [hr.len], hr.nodup, fun a ha => ?_, hr.off, fun j c a h1 h2 => ?_⟩⟩
  · exact k a o (fun q => by subst q; rw [(hr.off a hl).1] at e; cases e) (hr.base a o e)
  · by_cases hq : a = l
    · subst hq; exact nf
    · obtain ⟨o, ho, hd⟩ := hr.res a ha
      exact ⟨o, k a o hq ho, hd⟩
  · by_cases hj : j = i
    · subst hj
      have hlt : j < Hc.length := by rw [← hr.len]; exact (List.getElem?_eq_some_iff.mp hi).1
      rw [List.getElem?_set_self hlt] at h1
      cases h1
      rw [hi] at h2; cases h2
      exact ⟨xs, pl, hz, hv.step st⟩
    · rw [List.getElem?_set_ne (Ne.symm hj)] at h1
      have hne : a ≠ l := fun q => hj (pi_inj hr.nodup (q ▸ h2) hi)
      have h3 := hr.cell j c a h1 h2
      cases c with
      | list ws =>
        refine hold fun _ k_ => ?_
        obtain ⟨ys, ⟨o, n, ho, r⟩, e2, e3⟩ := h3
        refine k_ ?_
        exact ⟨ys, ⟨o, n, k a o hne ho, r⟩, e2, e3.step st⟩
      | dict es => exact h3.elim

theorem PT.and {γ : Type} {P : Shared → Prop} {T : PT γ} (h : PT.Mono T) : PT.Mono (fun Q E s => P s ∧ T Q E s) := fun Q Q' E E' s h1 h2 x => ⟨x.1, h Q Q' E E' s h1 h2 x.2⟩

section
variable {am : Amb} {stack : List Env} {A : Around} {π : List Addr} {s : Shared} {Hc : H}

theorem lcell_at {a : V} {x : Value} (hr : HR am stack π Hc s.heap) (ha : VR am π s.heap a x) (hc : lcell Hc a = true) :
    ∃ i l vs xs, a = .ref i ∧ x = .ref l ∧ π[i]? = some l ∧ Hc[i]? = some (.list vs) ∧ PL s.heap l xs ∧ vs.length ≤ 1000000 ∧ VRs am π s.heap vs xs := by
  cases a with
  | ref i =>
    simp only [lcell] at hc
    simp only [VR] at ha
    obtain ⟨l, rfl, hl⟩ := ha
    split at hc
    · rename_i vs hv
      refine hold fun _ k_ => ?_
      obtain ⟨xs, h1, h2, h3⟩ := hr.cell i _ l hv hl
      refine k_ ?_
      exact ⟨i, l, vs, xs, rfl, rfl, hl, hv, h1, h2, h3⟩
    · cases hc
  | _ => simp [lcell] at hc

theorem onList_lcell {a : V} {f : List V → Option (V × List V)} (h : lcell Hc a = false) : onList Hc a f = .bad := by
  cases a with
  | ref i =>
    simp only [lcell, onList] at h ⊢
    cases hq : Hc[i]? with
    | none => rfl
    | some c => cases c with
      | list vs => rw [hq] at h; cases h
      | dict es => rfl
  | _ => rfl

theorem op_append {a b : V} {x y : Value} (hr : HR am stack π Hc s.heap) (ha : VR am π s.heap a x) (hb : VR am π s.heap b y) :
    JAt am stack A (PySem.call (.builtin "list.append") [x, y]) (onList Hc a fun vs => some (.none, vs ++ [b])) (VR am) π s := by
  cases hc : lcell Hc a with
  | false => exact .inl (onList_lcell hc)
  | true =>
    refine hold fun _ k_ => ?_
    obtain ⟨i, l, vs, xs, rfl, rfl, hi, hH, pl, hz, hv⟩ := lcell_at hr ha hc
    refine k_ ?_
    simp only [onList, hH]
    split
    · rename_i hle
      refine hold fun _ k_ => ?_
      obtain ⟨o, n, ho, hcl, hdi, hd⟩ := id pl
      refine k_ ?_
      refine .inr (wpAny_call_entry slot_list_append pl.is.typeIs entry_list_append ?_ (args_list_append _ _))
      show wpAny _ _ (updateSeq l (·.push y) >>= fun _ => ret .none) _ _ s
      refine wpAny_bind ?_
      have e := hv.len
      refine wpAny_updateSeq ho hd (wpAny_pure ⟨.none, rfl, ?_⟩) (hz := by simp only [List.size_toArray]; have := mil_le_line; omega)
      have pl' := pl.update (·.push y)
      have hp := HR.put (tk := s.toks) hr hi hle (xs := xs ++ [y]) (h' := s.heap.update l (Obj.mapSeq (·.push y))) (fun b o h1 h2 => (Heap.SameBut.update ..).extBut b o h1 h2) (by simpa using pl') (hv.append (.single hb))
      exact ⟨.none, _, π, rfl, hp.1, hp.2, rfl⟩
    · exact .inl rfl
end

section
variable {am : Amb} {n : Nat} {q : Bool} {F : Fn} {c : Ck}

theorem base_of {o : Expr} {name : Str} {env : Env} (h : okBase o = true) : attributeBase o name env (eval o env) = eval o env := by
  cases o <;> first | rfl | exact noB h

/-- a method of a list, with one argument -/
theorem ej_method1 {e : PE} {o a : PE} {v y : Expr} {name : Str} {id : String} {p p' : Pos} {g : V → V → H → R V} (hb : okBase v = true) (hl : (p.endLine == p'.line) = true) (hy : isStar y = false) (slot : Slot "list" name id) (hty : typeOf (.builtin id) = pure (.type "method_descriptor"))
    (ho : EJ am n q F c o v) (ha : EJ am n q F c a y) (he : ∀ ρ Hc, evE q F ρ e Hc = (evE q F ρ o Hc).bind fun x h => if lcell h x then (evE q F ρ a h).bind fun y h => g x y h else .bad)
    (op : ∀ {res : List Addr} {stack : List Env} {A : Around} {π : List Addr} {s : Shared} {Hc : H} {a b : V} {x y : Value}, AS n stack A → HR (am.at res) stack π Hc s.heap → VR (am.at res) π s.heap a x → VR (am.at res) π s.heap b y → JAt (am.at res) stack A (PySem.call (.builtin id) [x, y]) (g a b Hc) (VR (am.at res)) π s) :
    EJ am n q F c e (.Call (.Attribute v name p) [y] [] p') := fun {cx ρ A res π Hc s} B st => by
  rw [he]
  have hst : ∀ z ∈ [y], isStar z = false := by simpa using hy
  refine JT.at (T := fun Q E s => wpAny am.M A (eval v cx.env) (fun ov s₁ => (s₁.TypeIs ov "list" ∧ (∀ a, ov = .ref a → ∃ ob, s₁.heap.get? a = some ob ∧ ob.dict = none)) ∧ wpAny am.M A (eval y cx.env) (fun w s₂ => wpAny am.M A (PySem.call (.builtin id) [ov, w]) Q E s₂) E s₁) E s)
    (JT.bind (fun _ => PT.and (PT.seq _ _ fun _ => PT.wp _ _)) (ho B st) fun x u H1 π1 s1 _ hs1 hr1 hv1 => ?_) fun Q E h => ?_
  · split
    · rename_i hc
      refine hold fun _ k_ => ?_
      obtain ⟨i, l, vs, xs, rfl, rfl, hi, hH, pl, hz, hv⟩ := lcell_at hr1 hv1 hc
      refine k_ ?_
      have J : JT (am.at res) cx.stack (fun Q E s => wpAny am.M A (eval y cx.env) (fun w s₂ => wpAny am.M A (PySem.call (.builtin id) [.ref l, w]) Q E s₂) E s) ((evE q F ρ a H1).bind fun y h => g (.ref i) y h) (VR (am.at res)) π1 s1 :=
        JT.bind (fun _ => PT.wp _ _) (ha B (st.step hs1 hr1)) fun w u H2 π2 s2 _ hs2 hr2 hv2 => JAt.pt (op B.as hr2 (hv1.step hs2) hv2)
      exact J.rule fun Q E h => ⟨⟨pl.is.typeIs, fun a e => by cases e; obtain ⟨o, n, ho, _, hd, _⟩ := pl; exact ⟨o, ho, hd⟩⟩, h⟩
    · exact .inl rfl
  · refine wpAny_Call_method (T := "list") (id := id) (base_of hb) (by rw [starEach_plain _ hst]; rfl) hl PySem.F.plainAttrs_list slot hty (wpAny_mono h (fun ov s₁ h₁ => ⟨h₁.1.1, h₁.1.2, ?_⟩) fun _ _ x => x)
    rw [starEach_plain _ hst]
    exact Calls.callWith_builtin rfl (Calls.evalArgs_plain (spl1 h₁.2))

theorem ej_append {o a : PE} {v y : Expr} {p p' : Pos} (hb : okBase v = true) (hl : (p.endLine == p'.line) = true) (hy : isStar y = false) (ho : EJ am n q F c o v) (ha : EJ am n q F c a y) :
    EJ am n q F c (.append o a) (.Call (.Attribute v "append" p) [y] [] p') :=
  ej_method1 (id := "list.append") (g := fun x y h => onList h x fun vs => some (.none, vs ++ [y])) hb hl hy PySem.F.slot_list_append PySem.F.type_list_append ho ha (fun ρ Hc => by simp only [qE_1, qE_2, qE_3, qE_4, qE_5, qE_6, qE_7, qE_8, qE_9, qE_10, qE_11, qE_12, qE_13, qE_14, qE_15, qE_16, qE_17, qE_18, qE_19, qE_20, qE_21, qE_22, qE_23, qE_24, qE_25, qE_26, qE_27, qE_28, qE_29, qE_30, qE_31, qE_32, qE_33, qE_34, qE_35, qE_36, qE_37, qE_38]) fun _ hr h1 h2 => op_append hr h1 h2
end

section
variable {am : Amb} {stack : List Env} {A : Around} {π : List Addr} {s : Shared} {Hc : H}

theorem op_clear {a : V} {x : Value} (hr : HR am stack π Hc s.heap) (ha : VR am π s.heap a x) :
    JAt am stack A (PySem.call (.builtin "list.clear") [x]) (onList Hc a fun _ => some (.none, [])) (VR am) π s := by
  cases hc : lcell Hc a with
  | false => exact .inl (onList_lcell hc)
  | true =>
    refine hold fun _ k_ => ?_
    obtain ⟨i, l, vs, xs, rfl, rfl, hi, hH, pl, hz, hv⟩ := lcell_at hr ha hc
    refine k_ ?_
    simp only [onList, hH]
    rw [if_pos (by simp)]
    refine hold fun _ k_ => ?_
    obtain ⟨o, n, ho, hcl, hdi, hd⟩ := id pl
    refine k_ ?_
    refine .inr (wpAny_call_entry PySem.F.slot_list_clear pl.is.typeIs PySem.F.entry_list_clear ?_ (PySem.F.args_list_clear_1 _))
    show wpAny _ _ (Builtin.List.listItems (.ref l) >>= fun old => updateSeq l (fun _ => #[]) >>= fun _ => letGo old.toList.reverse >>= fun _ => ret .none) _ _ s
    refine wpAny_bind (wpAny_listItems ho hd ?_)
    refine wpAny_bind ?_
    have e := hv.len
    refine wpAny_updateSeq ho hd ?_ (hz := by simp only [List.size_toArray]; have := mil_le_line; omega)
    refine wpAny_bind (wpAny_letGo ?_)
    refine wpAny_pure ⟨.none, rfl, ?_⟩
    have pl' := pl.update (fun _ => #[])
    have hp := HR.put (tk := s.toks) hr hi (vs := []) (by simp) (xs := []) (h' := s.heap.update l (Obj.mapSeq (fun _ => #[]))) (fun b o h1 h2 => (Heap.SameBut.update ..).extBut b o h1 h2) (by simpa using pl') (by simp [VRs])
    exact ⟨.none, _, π, rfl, hp.1, hp.2, rfl⟩
end

section
variable {am : Amb} {n : Nat} {q : Bool} {F : Fn} {c : Ck}

/-- a method of a list, with no argument -/
theorem ej_method0 {e : PE} {o : PE} {v : Expr} {name : Str} {id : String} {p p' : Pos} {g : V → H → R V} (hb : okBase v = true) (hl : (p.endLine == p'.line) = true) (slot : Slot "list" name id) (hty : typeOf (.builtin id) = pure (.type "method_descriptor"))
    (ho : EJ am n q F c o v) (he : ∀ ρ Hc, evE q F ρ e Hc = (evE q F ρ o Hc).bind fun x h => if lcell h x then g x h else .bad)
    (op : ∀ {res : List Addr} {stack : List Env} {A : Around} {π : List Addr} {s : Shared} {Hc : H} {a : V} {x : Value}, AS n stack A → HR (am.at res) stack π Hc s.heap → VR (am.at res) π s.heap a x → JAt (am.at res) stack A (PySem.call (.builtin id) [x]) (g a Hc) (VR (am.at res)) π s) :
    EJ am n q F c e (.Call (.Attribute v name p) [] [] p') := fun {cx ρ A res π Hc s} B st => by
  rw [he]
  have hst : ∀ z ∈ ([] : List Expr), isStar z = false := by simp
  refine JT.at (T := fun Q E s => wpAny am.M A (eval v cx.env) (fun ov s₁ => (s₁.TypeIs ov "list" ∧ (∀ a, ov = .ref a → ∃ ob, s₁.heap.get? a = some ob ∧ ob.dict = none)) ∧ wpAny am.M A (PySem.call (.builtin id) [ov]) Q E s₁) E s)
    (JT.bind (fun _ => PT.and (PT.wp _ _)) (ho B st) fun x u H1 π1 s1 _ hs1 hr1 hv1 => ?_) fun Q E h => ?_
  · split
    · rename_i hc
      refine hold fun _ k_ => ?_
      obtain ⟨i, l, vs, xs, rfl, rfl, hi, hH, pl, hz, hv⟩ := lcell_at hr1 hv1 hc
      refine k_ ?_
      have J : JT (am.at res) cx.stack (fun Q E s => wpAny am.M A (PySem.call (.builtin id) [.ref l]) Q E s) (g (.ref i) H1) (VR (am.at res)) π1 s1 := JAt.pt (op B.as hr1 hv1)
      exact J.rule fun Q E h => ⟨⟨pl.is.typeIs, fun a e => by cases e; obtain ⟨o, n, ho, _, hd, _⟩ := pl; exact ⟨o, ho, hd⟩⟩, h⟩
    · exact .inl rfl
  · refine wpAny_Call_method (T := "list") (id := id) (base_of hb) (by rw [starEach_plain _ hst]; rfl) hl PySem.F.plainAttrs_list slot hty (wpAny_mono h (fun ov s₁ h₁ => ⟨h₁.1.1, h₁.1.2, ?_⟩) fun _ _ x => x)
    rw [starEach_plain _ hst]
    exact Calls.callWith_builtin rfl (evalArgs_nil3 h₁.2)

theorem ej_clear {o : PE} {v : Expr} {p p' : Pos} (hb : okBase v = true) (hl : (p.endLine == p'.line) = true) (ho : EJ am n q F c o v) : EJ am n q F c (.clear o) (.Call (.Attribute v "clear" p) [] [] p') :=
  ej_method0 (id := "list.clear") (g := fun x h => onList h x fun _ => some (.none, [])) hb hl PySem.F.slot_list_clear PySem.F.type_list_clear ho (fun ρ Hc => by
    show (evE q F ρ o Hc).bind _ = _
    congr 1
    funext x h
    cases e : lcell h x with
    | true => rfl
    | false => exact onList_lcell e) fun _ hr h1 => op_clear hr h1
end

end Mine

namespace Mine
open PySem PySem.W PyProof.Rows

/-- an iterator at its start -/
noncomputable def ItR (am : Amb) (stack : List Env) (A : Around) (h₀ : Heap) (π : List Addr) (h : Heap) (b : List V × Watch) (x : Value) : Prop :=
  ∃ I, x = .ref I ∧ h₀.get? I = none ∧ am.B.get? I = none ∧ (∃ Sx, Iter am stack A I b.2 b.1 Sx ∧ Sx 0 π h) ∧
    ∀ R h', (∀ a ∈ R, a ∈ am.res ∨ h.get? a = none) → (∀ b o, h.get? b = some o → h'.get? b = some o) → ∃ Sx, Iter (am.at R) stack A I b.2 b.1 Sx ∧ Sx 0 π h'

section
variable {am : Amb} {stack : List Env} {A : Around} {π : List Addr} {s : Shared} {Hc : H}

theorem base_none (hr : HR am stack π Hc s.heap) {a : Addr} (h : s.heap.get? a = none) : am.B.get? a = none := none_of_stays hr.base h

theorem ne_of_none {h : Heap} {a b : Addr} {o : Obj} (h1 : h.get? a = none) (h2 : h.get? b = some o) : b ≠ a := fun q => by subst q; rw [h1] at h2; cases h2

theorem not_R {am : Amb} {R : List Addr} {h : Heap} {a : Addr} {o : Obj} (hR : ∀ a ∈ R, a ∈ am.res ∨ h.get? a = none) (ho : h.get? a = some o) (ha : a ∉ am.res) : a ∉ R := fun q => by
  rcases hR a q with z | z
  · exact ha z
  · rw [ho] at z; cases z
theorem via_R {am : Amb} {R π : List Addr} {h : Heap} (hR : ∀ a ∈ R, a ∈ am.res ∨ h.get? a = none) : Via am (am.at R) π π h h := ⟨fun a o ho _ h1 h2 => ⟨⟨o.slots, ho⟩, h1, not_R hR ho h2⟩, fun _ _ e => e⟩

theorem op_iter {a : V} {x : Value} (hh : A.handled = none) (hr : HR am stack π Hc s.heap) (ha : VR am π s.heap a x) :
    JAt am stack A (pyIter x) (R.opt (iterOf Hc a) Hc) (ItR am stack A s.heap) π s := by
  have hI := size_none s.heap
  cases a with
  | lst vs =>
    simp only [VR] at ha
    refine hold fun _ k_ => ?_
    obtain ⟨l, xs, rfl, hl, h1, hz, hv⟩ := ha
    refine k_ ?_
    refine .inr (wpAny_pyIter_list h1 ?_)
    have k : ∀ b o, s.heap.get? b = some o → (s.heap.push { cls := .type "list_iterator", data := .fields #[.ref l, .int 0 0] }).get? b = some o := fun b o q => Heap.get?_push_of_some _ q
    have hp : (s.heap.push { cls := .type "list_iterator", data := .fields #[.ref l, .int 0 0] }).get? s.heap.objs.size = some _ := Heap.get?_push_size _ rfl
    obtain ⟨o, ho, r⟩ := id h1
    refine OkP.keeps (tk := s.toks) hr k ⟨_, rfl, hI, base_none hr hI, ⟨_, Iter.lst hh (l := l), ⟨fresh_pi hr hI, fresh_fs hr hI, ⟨_, hp, rfl, rfl⟩, ⟨hl.1, fresh_res hr hI, hl.2⟩, xs, h1.push _, hv.keeps k⟩⟩, fun R h' hR kk =>
      ⟨_, Iter.lst hh (l := l), ⟨fresh_pi hr hI, fresh_fs hr hI, ⟨_, kk _ _ hp, rfl, rfl⟩, ⟨hl.1, not_R hR hp (fresh_res hr hI), not_R hR (k _ _ ho) hl.2⟩, xs, ⟨o, kk _ _ (k _ _ ho), r⟩, ((hv.keeps k).via (via_R hR)).keeps kk⟩⟩⟩
  | tup vs =>
    simp only [VR] at ha
    refine hold fun _ k_ => ?_
    obtain ⟨l, xs, rfl, hl, h1, hz, hv⟩ := ha
    refine k_ ?_
    refine .inr (wpAny_pyIter_tuple h1 ?_)
    have k : ∀ b o, s.heap.get? b = some o → (s.heap.push { cls := .type "tuple_iterator", data := .fields #[.ref l, .int 0 0] }).get? b = some o := fun b o q => Heap.get?_push_of_some _ q
    have hp : (s.heap.push { cls := .type "tuple_iterator", data := .fields #[.ref l, .int 0 0] }).get? s.heap.objs.size = some _ := Heap.get?_push_size _ rfl
    obtain ⟨o, ho, r⟩ := h1
    refine OkP.keeps (tk := s.toks) hr k ⟨_, rfl, hI, base_none hr hI, ⟨_, Iter.tup hh (l := l), ⟨fresh_pi hr hI, fresh_fs hr hI, ⟨_, hp, rfl, rfl⟩, ⟨hl.1, fresh_res hr hI, hl.2⟩, xs, ⟨o, k _ _ ho, r⟩, hv.keeps k⟩⟩, fun R h' hR kk =>
      ⟨_, Iter.tup hh (l := l), ⟨fresh_pi hr hI, fresh_fs hr hI, ⟨_, kk _ _ hp, rfl, rfl⟩, ⟨hl.1, not_R hR hp (fresh_res hr hI), not_R hR (k _ _ ho) hl.2⟩, xs, ⟨o, kk _ _ (k _ _ ho), r⟩, ((hv.keeps k).via (via_R hR)).keeps kk⟩⟩⟩
  | ref i =>
    simp only [VR] at ha
    obtain ⟨l, rfl, hi⟩ := ha
    simp only [iterOf]
    cases hH : Hc[i]? with
    | none => exact .inl rfl
    | some cc =>
      have hc := hr.cell i cc l hH hi
      cases cc with
      | dict es => exact hc.elim
      | list vs =>
        refine hold fun _ k_ => ?_
        obtain ⟨xs, h1, hz, hv⟩ := hc
        refine k_ ?_
        refine .inr (wpAny_pyIter_list h1.is ?_)
        have k : ∀ b o, s.heap.get? b = some o → (s.heap.push { cls := .type "list_iterator", data := .fields #[.ref l, .int 0 0] }).get? b = some o := fun b o q => Heap.get?_push_of_some _ q
        have hp : (s.heap.push { cls := .type "list_iterator", data := .fields #[.ref l, .int 0 0] }).get? s.heap.objs.size = some _ := Heap.get?_push_size _ rfl
        refine OkP.keeps (tk := s.toks) hr k ⟨_, rfl, hI, base_none hr hI, ⟨_, Iter.cell hh, ⟨fresh_pi hr hI, ⟨fresh_fs hr hI, fresh_res hr hI⟩, l, hi, ⟨_, hp, rfl, rfl⟩⟩⟩, fun R h' hR kk =>
          ⟨_, Iter.cell hh, ⟨fresh_pi hr hI, ⟨fresh_fs hr hI, not_R hR hp (fresh_res hr hI)⟩, l, hi, ⟨_, kk _ _ hp, rfl, rfl⟩⟩⟩⟩
  | _ => exact .inl rfl

theorem upto_eq (n : Int) : upto n = (List.range n.toNat).map fun (i : Nat) => V.int (0 + (i : Int) * 1) := by
  unfold upto; congr 1; funext i; congr 1; omega

theorem range_at {a : Int} {k : Nat} (hh : A.handled = none) (hr : HR am stack π Hc s.heap) {o : Obj} (ho : o = { cls := .type "range_iterator", data := .fields #[rawInt a, rawInt (k : Int), rawInt 1] }) {tk : Nat} :
    OkP am stack (ItR am stack A s.heap) π s (.ok ((List.range k).map (fun (i : Nat) => V.int (a + (i : Int) * 1)), none) Hc) (.ref s.heap.objs.size) { s with heap := s.heap.push o, toks := tk } := by
  have hI := size_none s.heap
  subst ho
  have e1 : (a + ((0 : Nat) : Int) * 1) = a := by simp
  have e2 : ((k : Int) - ((0 : Nat) : Int)) = (k : Int) := by simp
  have hp : (s.heap.push { cls := .type "range_iterator", data := .fields #[rawInt a, rawInt (k : Int), rawInt 1] }).get? s.heap.objs.size = some { cls := .type "range_iterator", data := .fields #[rawInt (a + ((0 : Nat) : Int) * 1), rawInt ((k : Int) - ((0 : Nat) : Int)), rawInt 1] } := by
    rw [e1, e2]; exact Heap.get?_push_size _ rfl
  exact OkP.keeps hr (fun b o q => Heap.get?_push_of_some _ q) ⟨_, rfl, hI, base_none hr hI, ⟨_, Iter.range hh a 1 k, ⟨fresh_pi hr hI, ⟨fresh_fs hr hI, fresh_res hr hI⟩, hp⟩⟩, fun R h' hR kk =>
    ⟨_, Iter.range hh a 1 k, ⟨fresh_pi hr hI, ⟨fresh_fs hr hI, not_R hR hp (fresh_res hr hI)⟩, kk _ _ hp⟩⟩⟩

theorem ItR.less {h₀ h₁ : Heap} (k : ∀ b o, h₀.get? b = some o → ∃ o', h₁.get? b = some o') {h : Heap} {b : List V × Watch} {x : Value} (e : ItR am stack A h₁ π h b x) : ItR am stack A h₀ π h b x := by
  refine hold fun _ k_ => ?_
  obtain ⟨I, h1, h2, r⟩ := e
  refine k_ ?_
  refine ⟨I, h1, ?_, r⟩
  cases hq : h₀.get? I with
  | none => rfl
  | some o => obtain ⟨o', h6⟩ := k I o hq; rw [h2] at h6; cases h6
theorem OkP.itLess {h₀ h₁ : Heap} (k : ∀ b o, h₀.get? b = some o → ∃ o', h₁.get? b = some o') {r : R (List V × Watch)} {x : Value} {s' : Shared} (e : OkP am stack (ItR am stack A h₁) π s r x s') : OkP am stack (ItR am stack A h₀) π s r x s' := by
  refine hold fun _ k_ => ?_
  obtain ⟨b, H', π', h1, h2, h3, h4⟩ := e
  refine k_ ?_
  exact ⟨b, H', π', h1, h2, h3, h4.less k⟩

theorem wp_range1 {k : Int} {t : Tok} (hh : A.handled = none) (hr : HR am stack π Hc s.heap) (hk : -1000000 ≤ k ∧ k ≤ 1000000) {E : Value → Shared → Prop} :
    wpAny am.M A (PySem.call (.type "range") [.int k t]) (fun x s₁ => wpAny am.M A (pyIter x) (OkP am stack (ItR am stack A s.heap) π s (.ok (upto k, none) Hc)) E s₁) E s := by
  refine call_range_1 ?_
  refine wpAny_pyIter_range (IsRange.new ..) (small_one (by decide) (by decide) (by omega) (by omega)) ?_
  have hsz : Builtin.Range.rangeSize 0 k 1 = (k.toNat : Int) := by rw [rangeSize_one]; split <;> omega
  rw [upto_eq]
  have k1 : ∀ b o, s.heap.get? b = some o → (s.heap.push { cls := .type "range", data := .fields #[.int 0 s.toks, .int k t, .int 1 (s.toks + 1)] }).get? b = some o := fun b o q => Heap.get?_push_of_some _ q
  refine OkP.step (Step.keeps (tk := s.toks + 1 + 1) k1) (OkP.itLess (fun b o q => ⟨o, k1 b o q⟩) (range_at (s := { s with heap := s.heap.push { cls := .type "range", data := .fields #[.int 0 s.toks, .int k t, .int 1 (s.toks + 1)] }, toks := s.toks + 1 + 1 }) (tk := s.toks + 1 + 1) hh (hr.keeps k1) ?_))
  rw [hsz]
end

section
variable {am : Amb} {n : Nat} {F : Fn} {c : Ck}

noncomputable def ItJ (am : Amb) (n : Nat) (F : Fn) (c : Ck) (it : PIt) (x : Expr) : Prop := ∀ {cx : Cx} {ρ : List V} {A : Around} {res π : List Addr} {Hc : H} {s : Shared}, Base am n true F c cx ρ A → St (am.at res) true cx ρ π Hc A s →
  JT (am.at res) cx.stack (fun Q E s => wpAny am.M A (eval x cx.env) (fun xv s₁ => wpAny am.M A (pyIter xv) Q E s₁) E s) (evIt true F ρ it Hc) (ItR (am.at res) cx.stack A s.heap) π s

theorem it_seq {e : PE} {x : Expr} (h : EJ am n true F c e x) : ItJ am n F c (.seq e) x := fun {cx ρ A res π Hc s} B st => by
  simp only [qI_1, qI_2, qI_3, qI_4, qI_5]
  exact JT.bind (fun _ => PT.wp _ _) (h B st) fun y v H1 π1 s1 _ hs1 hr1 hv1 => JAt.pt ((op_iter (Hd.quiet st.hd) hr1 hv1).mono fun _ _ _ _ e => e.less hs1.ext.alive)

theorem it_range1 {e : PE} {y : Expr} {p p' : Pos} (hx : c.glob "range" = true) (hy : isStar y = false) (h : EJ am n true F c e y) : ItJ am n F c (.range1 e) (.Call (.Name "range" p) [y] [] p') := fun {cx ρ A res π Hc s} B st => by
  simp only [qI_1, qI_2, qI_3, qI_4, qI_5]
  refine JT.rule (T := fun Q E s => wpAny am.M A (eval y cx.env) (fun v s₁ => wpAny am.M A (PySem.call (.type "range") [v]) (fun xv s₂ => wpAny am.M A (pyIter xv) Q E s₂) E s₁) E s)
    (JT.bind (fun _ => PT.seq _ _ fun _ => PT.wp _ _) (h B st) fun z v H1 π1 s1 _ hs1 hr1 hv1 => ?_) fun Q E h => wp_call_bt B st.hr hx (bt_mem (by kernel_rfl)) (by simpa using hy) (spl1 h)
  cases v with
  | int k =>
    simp only [VR] at hv1
    obtain ⟨t, rfl⟩ := hv1
    dsimp only
    split
    · rename_i hk; exact .inr (wpAny_mono (wp_range1 (Hd.quiet st.hd) hr1 hk) (fun _ _ h => wpAny_mono h (fun _ _ h => h.itLess hs1.ext.alive) fun _ _ h => h) fun _ _ h => h)
    · exact .inl rfl
  | _ => exact .inl rfl

end

end Mine

namespace Mine
open PySem PySem.W PyProof.Rows

theorem relab_lookup (outer : List (Str × NameKind)) : ∀ (names : List (Str × NameKind)) (y : Str), (relab outer names).lookup y = (names.lookup y).map fun k => if (k == .free && outer.lookup y == some .cell) = true then .cell else k
  | [], y => rfl
  | (n, k) :: r, y => by
    have ih := relab_lookup outer r y
    unfold relab at ih ⊢
    rw [List.map_cons]
    show List.lookup y ((if (k == NameKind.free && outer.lookup n == some .cell) = true then (n, NameKind.cell) else (n, k)) :: _) = _
    by_cases hy : y = n
    · subst hy
      by_cases hc : (k == .free && outer.lookup y == some .cell) = true
      · rw [if_pos hc]; simp only [List.lookup_cons, beq_self_eq_true, Option.map_some]; rw [if_pos hc]
      · rw [if_neg hc]; simp only [List.lookup_cons, beq_self_eq_true, Option.map_some]; rw [if_neg hc]
    · have hb : (y == n) = false := beq_eq_false_iff_ne.mpr hy
      by_cases hc : (k == .free && outer.lookup n == some .cell) = true
      · rw [if_pos hc]; simp only [List.lookup_cons, hb]; exact ih
      · rw [if_neg hc]; simp only [List.lookup_cons, hb]; exact ih

theorem lookup_mem {α β : Type} [BEq α] [LawfulBEq α] : ∀ {l : List (α × β)} {x : α} {v : β}, l.lookup x = some v → (x, v) ∈ l
  | [], _, _, h => by simp at h
  | (a, b) :: l, x, v, h => by
    rw [List.lookup_cons] at h
    cases hx : x == a with
    | true => rw [hx] at h; cases h; rw [eq_of_beq hx]; exact List.mem_cons_self
    | false => rw [hx] at h; exact List.mem_cons_of_mem _ (lookup_mem h)

theorem relabel_names {scope : Scope} {env : Env} (hk : env.scope.kind = .function) : (relabel scope env).names = relab env.scope.names scope.names := by
  unfold relabel relab
  simp only
  congr 1
  funext p
  obtain ⟨n, k⟩ := p
  simp only [hk, Env.kindOf, beq_self_eq_true, Bool.and_true]

/-- the closure of a comprehension's block -/
theorem closure_of {env : Env} : ∀ (names : List (Str × NameKind)) (acc : List (Str × Addr)), (∀ p ∈ names, p.2 = .free → ∃ c, env.cells.lookup p.1 = some c) → (∀ y c, acc.lookup y = some c → env.cells.lookup y = some c) →
    ∃ cl, (forIn names acc fun (p : Str × NameKind) (cs : List (Str × Addr)) => (if p.2 == .free then do let c ← cellOf env p.1; pure (ForInStep.yield ((p.1, c) :: cs)) else pure (ForInStep.yield cs) : Sem (ForInStep (List (Str × Addr))))) = (pure cl : Sem (List (Str × Addr))) ∧
      (∀ y c, cl.lookup y = some c → env.cells.lookup y = some c) ∧ (∀ p ∈ names, p.2 = .free → ∃ c, cl.lookup p.1 = some c) ∧ (∀ y c, acc.lookup y = some c → ∃ c', cl.lookup y = some c')
  | [], acc, _, h2 => ⟨acc, rfl, h2, by simp, fun y c h => ⟨c, h⟩⟩
  | p :: names, acc, h1, h2 => by
    rw [List.forIn_cons]
    by_cases hp : p.2 = .free
    · obtain ⟨c, hc⟩ := h1 p List.mem_cons_self hp
      have hcell : cellOf env p.1 = pure c := by unfold cellOf; rw [hc]
      have hb : (p.2 == NameKind.free) = true := by simp [hp]
      simp only [hb, if_true, hcell, pure_bind]
      obtain ⟨cl, e1, e2, e3, e4⟩ := closure_of names ((p.1, c) :: acc) (fun q hq => h1 q (List.mem_cons_of_mem _ hq)) (fun y c' h => by
        rw [List.lookup_cons] at h
        cases hx : y == p.1 with
        | true => rw [hx] at h; cases h; rw [eq_of_beq hx]; exact hc
        | false => rw [hx] at h; exact h2 y c' h)
      refine ⟨cl, e1, e2, fun q hq hqf => ?_, fun y c' h => ?_⟩
      · rcases List.mem_cons.mp hq with rfl | hq
        · exact e4 q.1 c (by simp [List.lookup_cons])
        · exact e3 q hq hqf
      · cases hx : y == p.1 with
        | true => exact e4 y c (by rw [List.lookup_cons, hx])
        | false => exact e4 y c' (by rw [List.lookup_cons, hx]; exact h)
    · have hb : (p.2 == NameKind.free) = false := by simpa using hp
      simp only [hb, Bool.false_eq_true, if_false, pure_bind]
      refine hold fun _ k_ => ?_
      obtain ⟨cl, e1, e2, e3, e4⟩ := closure_of names acc (fun q hq => h1 q (List.mem_cons_of_mem _ hq)) h2
      refine k_ ?_
      refine ⟨cl, e1, e2, fun q hq hqf => ?_, e4⟩
      rcases List.mem_cons.mp hq with rfl | hq
      · exact absurd hqf hp
      · exact e3 q hq hqf

theorem closure_for {scope : Scope} {env : Env} (h : ∀ p ∈ scope.names, p.2 = .free → ∃ c, env.cells.lookup p.1 = some c) :
    ∃ cl, closureFor scope env = pure cl ∧ (∀ y c, cl.lookup y = some c → env.cells.lookup y = some c) ∧ ∀ p ∈ scope.names, p.2 = .free → ∃ c, cl.lookup p.1 = some c := by
  refine hold fun _ k_ => ?_
  obtain ⟨cl, e1, e2, e3, _⟩ := closure_of scope.names [] h (by simp)
  refine k_ ?_
  refine ⟨cl, ?_, e2, e3⟩
  exact (congrArg (fun t : Sem (List (Str × Addr)) => t >>= fun cs => pure cs) e1).trans (pure_bind _ _)

section
variable {am : Amb} {π : List Addr} {h : Heap}

theorem ExcAt.held {c : String} {a l : Addr} (e : ExcAt am h c a) : ExcAt (am.hold l) h c a := e
theorem SR.held {v : V} {x : Value} {l : Addr} (hl : h.get? l = none) (e : SR am π h v x) : SR (am.hold l) π h v x := by
  rcases e with e | ⟨c, a, h1, h2, h3, h4⟩
  · exact .inl (e.held hl)
  · exact .inr ⟨c, a, h1, h2, h3, h4⟩
theorem ER.held {cx : Cx} {ρ : List V} {l : Addr} (hl : h.get? l = none) (e : ER am cx ρ π h) : ER (am.hold l) cx ρ π h :=
  ⟨e.ns, e.locOff, e.cellOff, e.apart, fun x i v h1 h2 h3 h4 => let ⟨v', h5, h6⟩ := e.var x i v h1 h2 h3 h4; ⟨v', h5, h6.held hl⟩⟩

/-- a reserved thing has changed -/
theorem HR.freed {stack : List Env} {Hc : H} {h' : Heap} {C : Addr} (hr : HR am stack π Hc h) (hC : C ∈ am.res) (hB : am.B.get? C = none) (hπ : C ∉ π) (p : Poke C h h') (ho : ∃ o, h'.get? C = some o ∧ ∀ us, o.data ≠ .fields us) : HR am stack π Hc h' := by
  refine ⟨fun b o e => p b o (fun q => by subst q; rw [hB] at e; cases e) (hr.base b o e), funFrames_but (fun b o h1 h2 => p b o h1 h2) ho hr.frames, hr.len, hr.nodup, fun a ha => ?_, hr.off, fun i c a h1 h2 => ?_⟩
  · by_cases hq : a = C
    · subst hq; exact ho
    · obtain ⟨o, h1, h2⟩ := hr.res a ha
      exact ⟨o, p a o hq h1, h2⟩
  · have hne : a ≠ C := fun q => hπ (q ▸ mem_of_get h2)
    have := hr.cell i c a h1 h2
    cases c with
    | list vs =>
      refine hold fun _ k_ => ?_
      obtain ⟨xs, ⟨o, n, e0, e1⟩, e2, e3⟩ := this
      refine k_ ?_
      exact ⟨xs, ⟨o, n, p _ _ hne e0, e1⟩, e2, e3.free fun b o hb e => p b o (fun q => hb (q ▸ hC)) e⟩
    | dict es => exact this

/-- a reserved thing has changed, and is reserved no more -/
theorem HR.out {stack : List Env} {Hc : H} {h' : Heap} {C : Addr} (hr : HR (am.hold C) stack π Hc h) (hC : C ∉ am.res) (hB : am.B.get? C = none) (hπ : C ∉ π) (hF : C ∉ Fs stack) (p : Poke C h h') : HR am stack π Hc h' := by
  have fr : ∀ {st : List Env}, h.FunFrames am.B st → (∀ a ∈ Fs st, a ≠ C) → h'.FunFrames am.B st := by
    intro st
    induction st with
    | nil => intro _ _; trivial
    | cons e st ih =>
      rintro ⟨h1, ⟨L, o, h2, h3, h4, h5⟩, h6⟩ hn
      refine ⟨h1, ⟨L, o, h2, h3, p L o (hn L ?_) h4, h5⟩, ih h6 fun a ha => hn a ?_⟩
      · simp [h2]
      · simp only [Fs, List.filterMap_cons, h2, List.mem_cons]; exact .inr ha
  refine ⟨fun b o e => p b o (fun q => by subst q; have e' : am.B.get? b = some o := e; rw [hB] at e'; cases e') (hr.base b o e), fr hr.frames (fun a ha q => hF (q ▸ ha)), hr.len, hr.nodup, fun a ha => ?_, hr.off, fun i c a h1 h2 => ?_⟩
  · obtain ⟨o, h1, h2⟩ := hr.res a (List.mem_cons_of_mem _ ha)
    exact ⟨o, p a o (fun q => hC (q ▸ ha)) h1, h2⟩
  · have hne : a ≠ C := fun q => hπ (q ▸ mem_of_get h2)
    have := hr.cell i c a h1 h2
    cases c with
    | list vs =>
      refine hold fun _ k_ => ?_
      obtain ⟨xs, ⟨o, n, e0, e1⟩, e2, e3⟩ := this
      refine k_ ?_
      exact ⟨xs, ⟨o, n, p _ _ hne e0, e1⟩, e2, (e3.free fun b o hb e => p b o (fun q => hb (q ▸ List.mem_cons_self)) e).reserve.2⟩
    | dict es => exact this

theorem PL.at {l : Addr} {xs : List Value} {h' : Heap} (pl : PL h l xs) (k : ∀ o, h.get? l = some o → h'.get? l = some o) : PL h' l xs := let ⟨o, n, ho, r⟩ := pl; ⟨o, n, k o ho, r⟩
theorem Ns.at {l : Addr} {m : Str → Option Value} {h' : Heap} (hn : h.Ns l m) (k : ∀ o, h.get? l = some o → h'.get? l = some o) : h'.Ns l m := let ⟨o, es, ep, ho, r⟩ := hn; ⟨o, es, ep, k o ho, r⟩
theorem Ns.nf {l : Addr} {m : Str → Option Value} (hn : h.Ns l m) : ∃ o, h.get? l = some o ∧ ∀ us, o.data ≠ .fields us := let ⟨o, es, ep, ho, hd, _⟩ := hn; ⟨o, ho, fun us q => by rw [hd] at q; cases q⟩
theorem PL.nf {l : Addr} {xs : List Value} (pl : PL h l xs) : ∃ o, h.get? l = some o ∧ ∀ us, o.data ≠ .fields us := let ⟨o, n, ho, _, _, hd⟩ := pl; ⟨o, ho, fun us q => by rw [hd] at q; cases q⟩

/-- the names of a comprehension's block -/
theorem er_comp {c : Ck} {cx : Cx} {ρ : List V} {x : Str} {i : Nat} {scope : Scope} {cl : List (Str × Addr)} {C : Addr} {m : Str → Option Value} {v : V} {v' : Value} (e : ER am cx ρ π h) (hkf : cx.env.scope.kind = .function) (hnames : cx.env.scope.names = c.names) (hctx : cx.ctx = c.ctx) (hs : scopeOk c x scope = true)
    (hi : c.ctx.all (fun p => p.2 != i) = true) (hcl1 : ∀ y d, cl.lookup y = some d → cx.env.cells.lookup y = some d) (hcl2 : ∀ p ∈ scope.names, p.2 = .free → ∃ d, cl.lookup p.1 = some d) (hC : C ∉ π) (hn : h.Ns C m) (hm : m x = some v') (hv : VR am π h v v') :
    ER am ⟨compEnvC scope cl C cx.env, cx.stack, (x, i) :: cx.ctx⟩ (ρ.set i v) π h := by
  unfold scopeOk at hs
  simp only [Bool.and_eq_true, List.all_eq_true, beq_iff_eq, Bool.not_eq_true', Bool.or_eq_true, bne_iff_ne, ne_eq] at hs
  refine hold fun _ k_ => ?_
  obtain ⟨⟨⟨⟨hk, hall⟩, hx⟩, hx0⟩, h0⟩ := hs
  refine k_ ?_
  refine ⟨⟨m, hn⟩, hC, fun y d hd => ?_, fun y z d h1 h2 => e.apart y z d (hcl1 _ _ h1) (hcl1 _ _ h2), fun y j w h1 h2 h3 h4 => ?_⟩
  · refine hold fun _ k_ => ?_
    obtain ⟨a1, _, u, a3⟩ := e.cellOff y d (hcl1 y d hd)
    refine k_ ?_
    refine ⟨a1, fun q => ?_, u, a3⟩
    have hq : d = C := q
    subst hq
    refine hold fun _ k_ => ?_
    obtain ⟨o, es, ep, ho, hd', _⟩ := hn
    refine k_ ?_
    obtain ⟨o2, ho2, hd2⟩ := a3
    rw [ho] at ho2; cases ho2; rw [hd'] at hd2; cases hd2
  · have hkind : ∀ y, Env.kindOf (compEnvC scope cl C cx.env) y = (scope.names.lookup y).map fun k => if (k == .free && c.names.lookup y == some .cell) = true then .cell else k := by
      intro y
      show (relabel scope cx.env).names.lookup y = _
      rw [relabel_names hkf, relab_lookup, hnames]
    by_cases hy : y = x
    · subst hy
      rw [List.lookup_cons] at h1
      simp only [beq_self_eq_true, Option.some.injEq] at h1
      subst h1
      have hlt : i < ρ.length := by have := (List.getElem?_eq_some_iff.mp h2).1; simpa using this
      rw [List.getElem?_set_self hlt] at h2
      cases h2
      exact ⟨v', .inl ⟨by rw [hkind, hx]; rfl, m, hn, hm⟩, .inl hv⟩
    · have hb : (y == x) = false := beq_eq_false_iff_ne.mpr hy
      have h1' : c.ctx.lookup y = some j := by rw [List.lookup_cons, hb] at h1; rw [← hctx]; exact h1
      have hj : j ≠ i := by
        have := lookup_mem h1'
        simp only [List.all_eq_true, bne_iff_ne, ne_eq] at hi
        exact hi _ this
      rw [List.getElem?_set_ne (Ne.symm hj)] at h2
      unfold Vis at h4
      simp only [hkind] at h4
      cases hl : scope.names.lookup y with
      | none => rw [hl] at h4; simp at h4
      | some k =>
        have hmem := lookup_mem hl
        have hp := hall _ hmem
        by_cases hkl : k = .local
        · subst hkl
          rcases hp.1.1 with q | q
          · exact absurd rfl q
          · rcases q.1 with q | q
            · exact absurd q hy
            · simp only at q; rw [q, h0] at h1'; cases h1'
        · by_cases hkf' : k = .free
          · subst hkf'
            obtain ⟨d, hd⟩ := hcl2 _ hmem rfl
            have hcell := hcl1 y d hd
            have hout : cx.env.kindOf y = some .cell ∨ cx.env.kindOf y = some .free := by
              unfold Env.kindOf; rw [hnames]
              rcases hp.1.2 with (q | q) | q
              · exact absurd rfl q
              · exact .inl q
              · exact .inr q
            obtain ⟨u, h5, h6⟩ := e.var y j w (by rw [hctx]; exact h1') h2 h3 (by unfold Vis; rcases hout with q | q; exact .inr (.inl q); exact .inr (.inr q))
            refine ⟨u, .inr ⟨?_, d, hd, ?_⟩, h6⟩
            · rw [hkind, hl]; simp only [Option.map_some]; split <;> simp
            · rcases h5 with ⟨q, _⟩ | ⟨_, d', h7, h8⟩
              · rcases hout with q' | q' <;> rw [q'] at q <;> cases q
              · rw [hcell] at h7; cases h7; exact h8
          · rw [hl] at h4
            have hkc : k ≠ .cell := hp.2
            have hb2 : (k == NameKind.free) = false := by simpa using hkf'
            simp only [Option.map_some, hb2, Bool.false_and, Bool.false_eq_true, if_false, Option.some.injEq] at h4
            rcases h4 with q | q | q
            · exact absurd q hkl
            · exact absurd q hkc
            · exact absurd q hkf'
end

end Mine

namespace Mine
open PySem PySem.W PyProof.Rows

/-- where a comprehension's loop ends -/
structure LoopEnd (am : Amb) (stack : List Env) (π : List Addr) (s : Shared) (rs : List V) (Hf : H) (D C : Addr) (s' : Shared) : Prop where
  freshD : s.heap.get? D = none
  freshC : s.heap.get? C = none
  ne : D ≠ C
  resD : D ∉ am.res
  resC : C ∉ am.res
  baseD : am.B.get? D = none
  baseC : am.B.get? C = none
  fsD : D ∉ Fs stack
  fsC : C ∉ Fs stack
  rest : ∃ π' xs m, Step (Fs stack) π s π' s' ∧ HR ((am.hold D).hold C) stack π' Hf s'.heap ∧ PL s'.heap D xs ∧ VRs ((am.hold D).hold C) π' s'.heap rs xs ∧ s'.heap.Ns C m ∧ D ∉ π' ∧ C ∉ π'

section
variable {am : Amb} {n : Nat} {F : Fn} {c : Ck}

/-- the conditions of a comprehension -/
noncomputable def CJ (am : Amb) (n : Nat) (F : Fn) (c : Ck) (cond : Option PE) (ifs : List Expr) : Prop := ∀ {cx : Cx} {ρ : List V} {A : Around} {res π : List Addr} {Hc : H} {s : Shared}, Base am n true F c cx ρ A → St (am.at res) true cx ρ π Hc A s →
  JAt (am.at res) cx.stack A (forIn ifs true fun c r => if r = true then do let ok ← isTrue c cx.env (eval c cx.env); pure (ForInStep.yield ok) else pure (ForInStep.yield r)) (tr (evC true F ρ cond Hc)) BR π s

theorem cj_none : CJ am n F c none [] := fun {cx ρ A res π Hc s} B st => by
  simp only [qC_1, qC_2]
  exact .inr (wpAny_tests_nil (OkP.here st.hr rfl))
theorem cj_some {e : PE} {x : Expr} (h : TJ am n true F c e x) : CJ am n F c (some e) [x] := fun {cx ρ A res π Hc s} B st => by
  simp only [qC_1, qC_2]
  exact (h B st).rule fun Q E h => wpAny_tests_one h

theorem noErr {am : Amb} {stack : List Env} {β : Type} {π : List Addr} {s : Shared} {b : β} {Hc : H} {x : Value} {s' : Shared} {P : Prop} (h : ErP am stack π s (.ok b Hc) x s') : P := by
  obtain ⟨_, _, _, _, _, _, h, _⟩ := h; cases h

theorem JAt.okAt {am : Amb} {stack : List Env} {A : Around} {α β : Type} {Rel : List Addr → Heap → β → α → Prop} {π : List Addr} {s : Shared} {m : Sem α} {r : R β} {b : β} {Hc : H} {Q : α → Shared → Prop} {E : Value → Shared → Prop} (h : JAt am stack A m r Rel π s) (hr : r = .ok b Hc)
    (k : ∀ a π' s', Step (Fs stack) π s π' s' → HR am stack π' Hc s'.heap → Rel π' s'.heap b a → Q a s') : wpAny am.M A m Q E s := by
  subst hr
  rcases h with h | h
  · cases h
  · refine wpAny_mono h (fun a s' h => ?_) fun e s' h => noErr h
    refine hold fun _ k_ => ?_
    obtain ⟨b', H', π', h1, h2, h3, h4⟩ := h
    refine k_ ?_
    cases h1
    exact k a π' s' h2 h3 h4


theorem ne_nf {h : Heap} {a I : Addr} {o : Obj} {us : Array Value} (h1 : ∃ o, h.get? a = some o ∧ ∀ us, o.data ≠ .fields us) (h2 : h.get? I = some o) (h3 : o.data = .fields us) : a ≠ I := fun q => by
  subst q
  obtain ⟨o', h4, h5⟩ := h1
  rw [h2] at h4; cases h4
  exact h5 us h3

theorem wp_append {am : Amb} {A : Around} {s : Shared} {l : Addr} {xs : List Value} {y : Value} {Q : Value → Shared → Prop} {E : Value → Shared → Prop} (pl : PL s.heap l xs) (hz : xs.length ≤ 1000000)
    (h : PL (s.heap.update l (Obj.mapSeq (·.push y))) l (xs ++ [y]) → Poke l s.heap (s.heap.update l (Obj.mapSeq (·.push y))) → Q .none { s with heap := s.heap.update l (Obj.mapSeq (·.push y)) }) :
    wpAny am.M A (PySem.call (.builtin "list.append") [.ref l, y]) Q E s := by
  refine hold fun _ k_ => ?_
  obtain ⟨o, n, ho, hcl, hdi, hd⟩ := id pl
  refine k_ ?_
  refine wpAny_call_entry slot_list_append pl.is.typeIs entry_list_append ?_ (args_list_append _ _)
  show wpAny _ _ (updateSeq l (·.push y) >>= fun _ => ret .none) _ _ s
  refine wpAny_bind ?_
  refine wpAny_updateSeq ho hd (wpAny_pure ⟨.none, rfl, ?_⟩) (hz := by simp only [List.size_toArray]; have := mil_le_line; omega)
  have pl' := pl.update (·.push y)
  exact h (by simpa using pl') fun b o h1 h2 => (Heap.SameBut.update ..).extBut b o h1 h2

theorem compL_nil_inv {w : Watch} {fe fc : V → H → R V} {h Hf : H} {ws : List V} (e : compL w fe fc [] h = .ok ws Hf) : w.ok h = true ∧ ws = [] ∧ h = Hf := by
  simp only [compL] at e
  split at e
  · cases e; exact ⟨by assumption, rfl, rfl⟩
  · cases e
theorem compL_cons_inv {w : Watch} {fe fc : V → H → R V} {v : V} {vs : List V} {h Hf : H} {ws : List V} (e : compL w fe fc (v :: vs) h = .ok ws Hf) :
    w.ok h = true ∧ ∃ tb h3, tr (fc v h) = .ok tb h3 ∧ (tb = false → compL w fe fc vs h3 = .ok ws Hf) ∧ (tb = true → ∃ x h4 ws', fe v h3 = .ok x h4 ∧ compL w fe fc vs h4 = .ok ws' Hf ∧ ws = x :: ws') := by
  simp only [compL] at e
  split at e
  · refine ⟨by assumption, ?_⟩
    cases hcd : fc v h with
    | bad => rw [hcd] at e; cases e
    | err _ _ => rw [hcd] at e; cases e
    | ok bv h3 =>
      rw [hcd] at e
      simp only [R.bind_ok] at e
      cases htb : truthy bv with
      | none => rw [htb] at e; cases e
      | some tb =>
        rw [htb] at e
        refine ⟨tb, h3, by simp [tr, htb], ?_⟩
        cases tb with
        | false => exact ⟨fun _ => e, fun q => absurd q (by simp)⟩
        | true =>
          refine ⟨fun q => absurd q (by simp), fun _ => ?_⟩
          dsimp only at e
          cases hel : fe v h3 with
          | bad => rw [hel] at e; cases e
          | err _ _ => rw [hel] at e; cases e
          | ok x h4 =>
            rw [hel] at e
            simp only [R.bind_ok] at e
            cases hrest : compL w fe fc vs h4 with
            | bad => rw [hrest] at e; cases e
            | err _ _ => rw [hrest] at e; cases e
            | ok ws' h5 => rw [hrest] at e; simp only [R.bind_ok] at e; cases e; exact ⟨x, h4, ws', rfl, hrest, rfl⟩
  · cases e

/-- where a comprehension's loop stands -/
inductive CompInv (am : Amb) (stack : List Env) (π : List Addr) (s : Shared) (Sx : Nat → List Addr → Heap → Prop) (D C : Addr) (wt : Watch) (fe fc : V → H → R V) (vs rs : List V) (Hf : H) (k : Nat) (s' : Shared) : Prop
  | mk (j : Nat) (π' : List Addr) (H' : H) (us : List V) (xsD : List Value) (m : Str → Option Value) (ws : List V) (e : k = vs.length + 1 - j) (hj : j ≤ vs.length) (hS : Step (Fs stack) π s π' s') (hR : HR am stack π' H' s'.heap) (hX : Sx j π' s'.heap) (hP : PL s'.heap D xsD) (hV : VRs am π' s'.heap us xsD) (hN : s'.heap.Ns C m) (hD : D ∉ π') (hC : C ∉ π') (hc : compL wt fe fc (vs.drop j) H' = .ok ws Hf) (hrs : us ++ ws = rs)

theorem comp_core {elt : PE} {i : Nat} {cond : Option PE} {e iter : Expr} {x : Str} {px pos : Pos} {ifs : List Expr} {scope : Scope} {cl : List (Str × Addr)} {cx : Cx} {ρ : List V} {A : Around} {res π π1 : List Addr} {Hc H1 Hf : H} {s s1 : Shared} {vs rs : List V} {wt : Watch} {itv : Value}
    {RR : Value → Addr → Result → Shared → Prop} {E : Value → Shared → Prop}
    (B : Base am n true F c cx ρ A) (st : St (am.at res) true cx ρ π Hc A s) (hs1 : Step (Fs cx.stack) π s π1 s1) (hr1 : HR (am.at res) cx.stack π1 H1 s1.heap) (hit : ItR (am.at res) cx.stack A s.heap π1 s1.heap (vs, wt) itv)
    (hsc : scopeOk c x scope = true) (hi : c.ctx.all (fun p => p.2 != i) = true) (helt : EJ am n true F (c.inner x i scope) elt e) (hcond : CJ am n F (c.inner x i scope) cond ifs)
    (hcl1 : ∀ y d, cl.lookup y = some d → cx.env.cells.lookup y = some d) (hcl2 : ∀ p ∈ scope.names, p.2 = .free → ∃ d, cl.lookup p.1 = some d)
    (hcomp : compL wt (fun v h => evE true F (ρ.set i v) elt h) (fun v h => evC true F (ρ.set i v) cond h) vs H1 = .ok rs Hf) (hlen : rs.length ≤ 1000000)
    (hRR : ∀ D C s', LoopEnd (am.at res) cx.stack π s rs Hf D C s' → RR (.ref D) C (.ok .next) s') :
    wpAny am.M A (newList []) (fun acc s₃ => wpAny am.M A (newFunctionEnv scope cx.env.globals cl [] cx.env.qual none .none (some cx.env)) (fun cenv s₄ =>
      codeAny am.M A (.compStart (.ListComp e [⟨.Name x px, iter, ifs, 0⟩] scope pos) 0 itv acc { cenv with scope := relabel scope cx.env }) (RR acc cenv.locals) s₄) E s₃) E s1 := by
  have hsc0 := hsc
  unfold scopeOk at hsc
  simp only [Bool.and_eq_true, List.all_eq_true, beq_iff_eq, Bool.not_eq_true', Bool.or_eq_true, bne_iff_ne, ne_eq] at hsc
  refine hold fun _ k_ => ?_
  obtain ⟨⟨⟨⟨hkind, hall⟩, hxl⟩, hx0⟩, h00⟩ := hsc
  refine k_ ?_
  refine hold fun _ k_ => ?_
  obtain ⟨I, rfl, hI0, hIB, _, hItD⟩ := hit
  refine k_ ?_
  have hcell : ∀ y ∈ scope.names, y.2 ≠ .cell := fun y hy => (hall y hy).2
  refine wpAny_newObj_type (wpAny_newFunctionEnv hcell (by intro y hy; simp at hy) (fun h₁ hns₁ hsb₁ => ?_) hkind)
  dsimp only at hns₁ hsb₁ ⊢
  generalize hH2 : s1.heap.push { cls := .type "list", dict := none, data := .seq ([] : List Value).toArray } = H2 at hns₁ hsb₁ ⊢
  generalize hD : s1.heap.objs.size = D at *
  generalize hC : H2.objs.size = C at *
  have hCD : C = D + 1 := by rw [← hC, ← hH2, Heap.size_push, hD]
  have hDC : D ≠ C := by omega
  have freshD1 : s1.heap.get? D = none := by rw [← hD]; exact size_none _
  have freshC1 : s1.heap.get? C = none := by
    cases hq : s1.heap.get? C with
    | none => rfl
    | some o => have h3 : C < s1.heap.objs.size := Heap.lt_size hq; rw [hD, hCD] at h3; exact absurd h3 (Nat.not_lt.mpr (Nat.le_succ _))
  have k1 : ∀ b o, s1.heap.get? b = some o → h₁.get? b = some o := fun b o hb =>
    hsb₁.extBut b o (ne_of_none freshC1 hb) (Heap.get?_push_of_some _ (hH2 ▸ Heap.get?_push_of_some _ hb))
  have fresh0 : ∀ a, s1.heap.get? a = none → s.heap.get? a = none := fun a ha => by
    cases hq : s.heap.get? a with
    | none => rfl
    | some o => obtain ⟨o', h6⟩ := hs1.ext.alive a o hq; rw [ha] at h6; cases h6
  have plD : PL h₁ D [] := by
    have h2 : H2.get? D = some { cls := .type "list", dict := none, data := .seq ([] : List Value).toArray } := by rw [← hH2, ← hD]; exact Heap.get?_push_size _ rfl
    exact ⟨_, 0, hsb₁.extBut D _ hDC (Heap.get?_push_of_some _ h2), rfl, rfl, rfl⟩
  let am' : Amb := ((am.at res).hold D).hold C
  have hr2 : HR am' cx.stack π1 H1 h₁ := (hr1.held (h' := h₁) freshD1 k1 plD.nf |> fun _ => by
    have a1 : HR ((am.at res).hold D) cx.stack π1 H1 H2 := hr1.held freshD1 (fun b o hb => hH2 ▸ Heap.get?_push_of_some _ hb) (by
      have h2 : H2.get? D = some { cls := .type "list", dict := none, data := .seq ([] : List Value).toArray } := by rw [← hH2, ← hD]; exact Heap.get?_push_size _ rfl
      exact ⟨_, h2, fun us q => by cases q⟩)
    have hCn : H2.get? C = none := by rw [← hC]; exact size_none _
    exact a1.held hCn (fun b o hb => hsb₁.extBut b o (ne_of_none hCn hb) (Heap.get?_push_of_some _ hb)) (Ns.nf hns₁))
  obtain ⟨Sx, It, hSx⟩ := hItD (C :: D :: res) h₁ (fun a ha => by
    rcases List.mem_cons.mp ha with rfl | ha
    · exact .inr freshC1
    · rcases List.mem_cons.mp ha with rfl | ha
      · exact .inr freshD1
      · exact .inl ha) k1
  refine hold fun _ k_ => ?_
  obtain ⟨hI1, hI2, oI, usI, hIo, hId⟩ := It.own 0 π1 h₁ hSx
  refine k_ ?_
  have cellsOk : ∀ v, (∀ c, v ≠ .exc c) → Base am n true F (c.inner x i scope) ⟨compEnvC scope cl C cx.env, cx.stack, (x, i) :: cx.ctx⟩ (ρ.set i v) A := fun v hv =>
    ⟨B.ok, B.fn, ⟨by show (x, i) :: cx.ctx = (x, i) :: c.ctx; rw [B.ck.ctx], by show (relabel scope cx.env).names = relab c.names scope.names; rw [relabel_names B.cxk.kind, B.ck.names], B.ck.fns, B.ck.nums⟩,
      ⟨fun y hy => by
          have hk : Env.kindOf (compEnvC scope cl C cx.env) y = (scope.names.lookup y).map fun k => if (k == .free && c.names.lookup y == some .cell) = true then .cell else k := by
            show (relabel scope cx.env).names.lookup y = _
            rw [relabel_names B.cxk.kind, relab_lookup, B.ck.names]
          rw [hk] at hy
          cases hl : scope.names.lookup y with
          | none => rw [hl] at hy; simp at hy
          | some k =>
            by_cases hf : k = .free
            · subst hf; exact hcl2 _ (lookup_mem hl) rfl
            · have hb2 : (k == NameKind.free) = false := by simpa using hf
              rw [hl] at hy
              simp only [Option.map_some, hb2, Bool.false_and, Bool.false_eq_true, if_false, Option.some.injEq] at hy
              rcases hy with q | q
              · exact absurd q (hcell _ (lookup_mem hl))
              · exact absurd q hf,
        hkind, B.cxk.globals, B.cxk.builtins, B.cxk.top⟩, B.as, fun _ => (B.ne rfl).set hv⟩
  have hbase : LoopEnd (am.at res) cx.stack π s rs Hf D C s → True := fun _ => trivial
  have resD : D ∉ (am.at res).res := fresh_res hr1 freshD1
  have resC : C ∉ (am.at res).res := fresh_res hr1 freshC1
  have fsD : D ∉ Fs cx.stack := fresh_fs hr1 freshD1
  have fsC : C ∉ Fs cx.stack := fresh_fs hr1 freshC1
  have baseD : (am.at res).B.get? D = none := base_none hr1 freshD1
  have baseC : (am.at res).B.get? C = none := base_none hr1 freshC1
  have er0 : ER am' cx ρ π s.heap := (st.er.held (fresh0 D freshD1)).held (fresh0 C freshC1)
  have hxk : Env.kindOf (compEnvC scope cl C cx.env) x = some .local := lookup_relabel_local hxl
  have hp : ((compEnvC scope cl C cx.env).scope.kind == .class || ((compEnvC scope cl C cx.env).scope.kind == .module && (compEnvC scope cl C cx.env).locals != (compEnvC scope cl C cx.env).globals)) = false := by
    simp [compEnvC, relabel, hkind]
  have loop : ∀ s₃ : Shared, s₃ = { s1 with heap := h₁, toks := s1.toks + ([] : List (Str × Value)).length } →
      codeAny am.M A (.compLoop (.ListComp e [⟨.Name x px, iter, ifs, 0⟩] scope pos) 0 (.ref I) (.ref D) (compEnvC scope cl C cx.env)) (RR (.ref D) C) s₃ := by
    rintro s₃ rfl
    refine hold fun _ k_ => ?_
    obtain ⟨Inv, toInv, ofInv⟩ : ∃ Inv : Nat → Shared → Prop, (∀ k s', CompInv am' cx.stack π s Sx D C wt (fun v h => evE true F (ρ.set i v) elt h) (fun v h => evC true F (ρ.set i v) cond h) vs rs Hf k s' → Inv k s') ∧ (∀ k s', Inv k s' → CompInv am' cx.stack π s Sx D C wt (fun v h => evE true F (ρ.set i v) elt h) (fun v h => evC true F (ρ.set i v) cond h) vs rs Hf k s') := ⟨_, fun _ _ h => h, fun _ _ h => h⟩
    refine k_ ?_
    refine codeAny_compLoop_tests Inv ?_ (vs.length + 1)
      (toInv _ _ ⟨0, π1, H1, [], [], _, rs, rfl, Nat.zero_le _, hs1.trans (Step.keeps k1), hr2, hSx, plD, by simp [VRs], hns₁, fresh_pi hr1 freshD1, fresh_pi hr1 freshC1, by simpa using hcomp, rfl⟩)
    intro k s' hi_
    refine hold fun _ k_ => ?_
    obtain ⟨j, π', H', us, xsD, m, ws, rfl, hj, hS, hR, hX, hP, hV, hN, hDπ, hCπ, hc, hrs⟩ := ofInv k s' hi_
    refine k_ ?_
    refine hold fun _ k_ => ?_
    obtain ⟨i1, i2, oJ, uJ, hoJ, hdJ⟩ := It.own j π' s'.heap hX
    refine k_ ?_
    have hDI : D ≠ I := ne_nf hP.nf hoJ hdJ
    have hCI : C ≠ I := ne_nf (Ns.nf hN) hoJ hdJ
    cases hv : vs[j]? with
    | none =>
      have hjl : vs.length ≤ j := by simpa using hv
      have hj' : j = vs.length := Nat.le_antisymm hj hjl
      rw [List.drop_of_length_le hjl] at hc
      obtain ⟨hw, rfl, rfl⟩ := compL_nil_inv hc
      subst hj'
      refine It.done π' _ s' _ _ hX hR hw fun h' tk p => ?_
      refine hRR D C _ ⟨fresh0 D freshD1, fresh0 C freshC1, hDC, resD, resC, baseD, baseC, fsD, fsC, π', xsD, m, hS.poke hI0 p, hR.poke p hoJ hdJ hIB, hP.at fun o e => p D o hDI e, ?_, Ns.at hN fun o e => p C o hCI e, hDπ, hCπ⟩
      rw [← hrs, List.append_nil]
      exact hV.upto (p.slots hoJ hdJ)
    | some v =>
      have hjl : j < vs.length := (List.getElem?_eq_some_iff.mp hv).1
      have hdrop : vs.drop j = v :: vs.drop (j + 1) := by
        rw [List.drop_eq_getElem_cons hjl]
        congr 1
        exact (List.getElem?_eq_some_iff.mp hv).2
      rw [hdrop] at hc
      refine hold fun _ k_ => ?_
      obtain ⟨hw, tb, h3, htr, hc0, hc1⟩ := compL_cons_inv hc
      refine k_ ?_
      refine It.item j π' H' s' v _ _ hX hR hw hv fun x' h' tk p hvx hX' => ?_
      dsimp only
      have hN' : h'.Ns C m := Ns.at hN fun o e => p C o hCI e
      refine wpAny_assign_Name (wpAny_storeName_local hxk hN' (fun h₂ hn₂ hs₂ => ?_) hp)
      have p2 : Poke C h' h₂ := fun b o hb e => hs₂.extBut b o hb e
      have hCr : C ∈ am'.res := List.mem_cons_self
      have hDr : D ∈ am'.res := List.mem_cons_of_mem _ List.mem_cons_self
      have f2 : ∀ b o, b ∉ am'.res → h'.get? b = some o → h₂.get? b = some o := fun b o hb e => p2 b o (fun q => hb (q ▸ hCr)) e
      have hR2 : HR am' cx.stack π' H' h₂ := (hR.poke p hoJ hdJ hIB).freed hCr baseC hCπ p2 (Ns.nf hn₂)
      have hS2 : Step (Fs cx.stack) π s π' { s' with heap := h₂, toks := tk + 1 } := (hS.poke (tk := tk) hI0 p).poke (fresh0 C freshC1) p2
      have hP2 : PL h₂ D xsD := (hP.at fun o e => p D o hDI e).at fun o e => p2 D o hDC e
      have hV2 : VRs am' π' h₂ us xsD := (hV.upto (p.slots hoJ hdJ)).free f2
      have hX2 : Sx (j + 1) π' h₂ := It.free _ _ _ _ hX' f2
      have hvx2 : VR am' π' h₂ v x' := hvx.free f2
      have er : ER am' ⟨compEnvC scope cl C cx.env, cx.stack, (x, i) :: cx.ctx⟩ (ρ.set i v) π' h₂ :=
        er_comp (er0.step hS2) B.cxk.kind B.ck.names B.ck.ctx hsc0 hi hcl1 hcl2 hCπ hn₂ (by simp) hvx2
      have stI : St am' true ⟨compEnvC scope cl C cx.env, cx.stack, (x, i) :: cx.ctx⟩ (ρ.set i v) π' H' A { s' with heap := h₂, toks := tk + 1 } := ⟨hR2, er, st.hd⟩
      have BI := cellsOk v hvx.noexc
      refine JAt.okAt (am := am') (hcond (res := C :: D :: res) BI stI) htr fun a π2 s3 hS3 hR3 hb => ?_
      unfold BR at hb; subst hb
      have alive2 : ∀ {a : Addr}, (∃ o, h₂.get? a = some o ∧ ∀ us, o.data ≠ .fields us) → a ∉ π' → a ∉ π2 := fun {a} ⟨o, ho, _⟩ ha => hS3.notin (s := { s' with heap := h₂, toks := tk + 1 }) ho ha
      have hDπ2 := alive2 hP2.nf hDπ
      have hCπ2 := alive2 (Ns.nf hn₂) hCπ
      have hP3 : PL s3.heap D xsD := hP2.at fun o e => hS3.ext.keep D o e hDπ fsD
      have hN3 := Ns.at hn₂ fun o e => hS3.ext.keep C o e hCπ fsC
      have hV3 : VRs am' π2 s3.heap us xsD := hV2.step hS3
      have hX3 := It.stable _ _ _ _ _ hX2 hS3
      cases tb with
      | false =>
        rw [if_neg (by simp)]
        exact ⟨_, by omega, toInv _ _ ⟨j + 1, π2, h3, us, xsD, _, ws, rfl, by omega, hS2.trans hS3, hR3, hX3, hP3, hV3, hN3, hDπ2, hCπ2, hc0 rfl, hrs⟩⟩
      | true =>
        rw [if_pos rfl]
        obtain ⟨w, h4, ws', hel, hrest, rfl⟩ := hc1 rfl
        refine JAt.okAt (am := am') (helt (res := C :: D :: res) BI (stI.step hS3 hR3)) hel fun y π3 s4 hS4 hR4 hvy => ?_
        have hP4 : PL s4.heap D xsD := hP3.at fun o e => hS4.ext.keep D o e hDπ2 fsD
        have hN4 := Ns.at hN3 fun o e => hS4.ext.keep C o e hCπ2 fsC
        have hDπ3 : D ∉ π3 := by obtain ⟨o, ho, _⟩ := hP3.nf; exact hS4.notin ho hDπ2
        have hCπ3 : C ∉ π3 := by obtain ⟨o, ho, _⟩ := Ns.nf hN3; exact hS4.notin ho hCπ2
        have hV4 : VRs am' π3 s4.heap us xsD := hV3.step hS4
        have hX4 := It.stable _ _ _ _ _ hX3 hS4
        have hxl2 : xsD.length ≤ 1000000 := by
          have e1 := hV4.len
          have e2 : us.length ≤ rs.length := by rw [← hrs]; simp
          omega
        refine wp_append hP4 hxl2 fun pl' p5 => ?_
        have f5 : ∀ b o, b ∉ am'.res → s4.heap.get? b = some o → (s4.heap.update D (Obj.mapSeq (·.push y))).get? b = some o := fun b o hb e => p5 b o (fun q => hb (q ▸ hDr)) e
        exact ⟨_, by omega, toInv _ _ ⟨j + 1, π3, h4, us ++ [w], xsD ++ [y], _, ws', rfl, by omega, ((hS2.trans hS3).trans hS4).poke (tk := s4.toks) (fresh0 D freshD1) p5, hR4.freed hDr baseD hDπ3 p5 pl'.nf, It.free _ _ _ _ hX4 f5, pl',
          (hV4.append (.single hvy)).free f5, Ns.at hN4 fun o e => p5 C o (Ne.symm hDC) e, hDπ3, hCπ3, hrest, by rw [← hrs]; simp⟩⟩
  exact codeAny_compStart_list (loop _ rfl) (It.self 0 π1 _ _ _ hSx (loop _ rfl))
end

end Mine

namespace Mine
open PySem PySem.W PyProof.Rows

theorem LoopEnd.fr {am : Amb} {stack : List Env} {π : List Addr} {s : Shared} {rs : List V} {Hf : H} {D C : Addr} {s' : Shared} (e : LoopEnd am stack π s rs Hf D C s') (hlen : rs.length ≤ 1000000) {h' : Heap} {tk : Nat} (p : Poke C s'.heap h') :
    FrP am stack π s (.ok (.lst rs) Hf) (.ref D) { s' with heap := h', toks := tk } := by
  refine hold fun _ k_ => ?_
  obtain ⟨π', xs, m, h1, h2, h3, h4, h5, h6, h7⟩ := e.rest
  refine k_ ?_
  have hCr : C ∈ ((am.hold D).hold C).res := List.mem_cons_self
  refine ⟨rs, Hf, π', D, xs, rfl, rfl, hlen, e.freshD, ⟨h6, e.fsD, e.resD, e.baseD⟩, h1.poke e.freshC p, ?_, h3.at fun o q => p D o e.ne q, ?_⟩
  · refine h2.out ?_ e.baseC h7 e.fsC p
    simp only [Amb.hold, List.mem_cons, not_or]
    exact ⟨Ne.symm e.ne, e.resC⟩
  · exact (h4.free fun b o hb q => p b o (fun z => hb (z ▸ hCr)) q).reserve.2

theorem set_iter {iter : Expr} (h : isSet iter = false) (env : Env) (x : Value) : foldedSetIterable iter env x = pure x := by
  cases iter <;> first | rfl | exact noB h.symm

section
variable {am : Amb} {n : Nat} {q : Bool} {F : Fn} {c : Ck}

theorem fj_comp {elt : PE} {i : Nat} {it : PIt} {cond : Option PE} {e iter : Expr} {x : Str} {px pos : Pos} {ifs : List Expr} {scope : Scope} (hset : isSet iter = false) (hsc : scopeOk c x scope = true) (hi : c.ctx.all (fun p => p.2 != i) = true)
    (hit : q = true → ItJ am n F c it iter) (helt : q = true → EJ am n true F (c.inner x i scope) elt e) (hcond : q = true → CJ am n F (c.inner x i scope) cond ifs) :
    FJ am n q F c (.comp elt i it cond) (.ListComp e [⟨.Name x px, iter, ifs, 0⟩] scope pos) := fun {cx ρ A res π Hc s} B st => by
  cases q with
  | false => exact .inl (by simp [qE_1, qE_2, qE_3, qE_4, qE_5, qE_6, qE_7, qE_8, qE_9, qE_10, qE_11, qE_12, qE_13, qE_14, qE_15, qE_16, qE_17, qE_18, qE_19, qE_20, qE_21, qE_22, qE_23, qE_24, qE_25, qE_26, qE_27, qE_28, qE_29, qE_30, qE_31, qE_32, qE_33, qE_34, qE_35, qE_36, qE_37, qE_38])
  | true =>
    have hit : ItJ am n F c it iter := fun B st => hit rfl B st
    have helt : EJ am n true F (c.inner x i scope) elt e := fun B st => helt rfl B st
    have hcond : CJ am n F (c.inner x i scope) cond ifs := fun B st => hcond rfl B st
    have hsc0 := hsc
    unfold scopeOk at hsc
    simp only [Bool.and_eq_true, List.all_eq_true, beq_iff_eq, Bool.not_eq_true', Bool.or_eq_true, bne_iff_ne, ne_eq] at hsc
    refine hold fun _ k_ => ?_
    obtain ⟨⟨⟨⟨hkind, hall⟩, hxl⟩, hx0⟩, h00⟩ := hsc
    refine k_ ?_
    obtain ⟨cl, hclos, hcl1, hcl2⟩ := closure_for (scope := scope) (env := cx.env) (fun p hp hf => B.cxk.clos p.1 (by
      unfold Env.kindOf; rw [B.ck.names]
      rcases (hall p hp).1.2 with (z | z) | z
      · exact absurd hf z
      · exact .inl z
      · exact .inr z))
    have hnames : ∀ y ∈ scope.names, y.2 = .local → scope.names.lookup y.1 = some .local := fun y hy hl => by
      rcases (hall y hy).1.1 with z | z
      · exact absurd hl z
      · exact z.2
    simp only [qE_1, qE_2, qE_3, qE_4, qE_5, qE_6, qE_7, qE_8, qE_9, qE_10, qE_11, qE_12, qE_13, qE_14, qE_15, qE_16, qE_17, qE_18, qE_19, qE_20, qE_21, qE_22, qE_23, qE_24, qE_25, qE_26, qE_27, qE_28, qE_29, qE_30, qE_31, qE_32, qE_33, qE_34, qE_35, qE_36, qE_37, qE_38]
    rw [if_neg (by simp)]
    have hI := hit B st
    have key : ∀ (r : R V), (∀ vs wt H1, evIt true F ρ it Hc = .ok (vs, wt) H1 → ∃ rs Hf, compL wt (fun v h => evE true F (ρ.set i v) elt h) (fun v h => evC true F (ρ.set i v) cond h) vs H1 = .ok rs Hf ∧ rs.length ≤ 1000000 ∧ r = .ok (.lst rs) Hf) →
        (∀ c' H', evIt true F ρ it Hc = .err c' H' → r = .err c' H') → evIt true F ρ it Hc ≠ .bad →
        JF (am.at res) cx.stack (fun Q E s => wpAny am.M A (eval (.ListComp e [⟨.Name x px, iter, ifs, 0⟩] scope pos) cx.env) Q E s) r π s := by
      intro r h1 h2 h3
      rcases hI with hI | hI
      · exact absurd hI h3
      · refine .inr ?_
        have erp : ∀ y s', ErP (am.at res) cx.stack π s (evIt true F ρ it Hc) y s' → ErP (am.at res) cx.stack π s r y s' := fun y s' h => by
          refine hold fun _ k_ => ?_
          obtain ⟨c', H'', π', e', C, fl, hh, r2, r3, r4, r5, r6⟩ := h
          refine k_ ?_
          exact ⟨c', H'', π', e', C, fl, h2 c' H'' hh, r2, r3, r4, r5, r6⟩
        rw [eval_ListComp]
        refine wpAny_comprehension_free (use := none) rfl (set_iter hset cx.env) hclos hkind hnames (wpAny_mono hI (fun xv s₁ h₁ => wpAny_mono h₁ (fun itv s₂ h₂ => ?_) erp) erp)
        refine hold fun _ k_ => ?_
        obtain ⟨⟨vs, wt⟩, H1, π1, e1, e2, e3, e4⟩ := h₂
        refine k_ ?_
        refine hold fun _ k_ => ?_
        obtain ⟨rs, Hf, e5, e6, e7⟩ := h1 vs wt H1 e1
        refine k_ ?_
        refine comp_core (RR := fun acc C => compPost am.M A (ErP (am.at res) cx.stack π s r) none (FrP (am.at res) cx.stack π s r) acc C) B st e2 e3 e4 hsc0 hi helt hcond hcl1 hcl2 e5 e6 fun D C s' le => ?_
        refine hold fun _ k_ => ?_
        obtain ⟨π', xs, m, _, _, _, _, h5, _⟩ := le.rest
        refine k_ ?_
        refine ⟨m, h5, fun h' sb => ?_⟩
        rw [e7]
        exact le.fr e6 (tk := s'.toks) fun b o hb q => sb.extBut b o hb q
    cases hev : evIt true F ρ it Hc with
    | bad => exact .inl rfl
    | err c' H' => exact key _ (fun _ _ _ z => by rw [hev] at z; cases z) (fun _ _ z => by rw [hev] at z; cases z; rfl) (by rw [hev]; simp)
    | ok b H1 =>
      obtain ⟨vs, wt⟩ := b
      simp only [R.bind_ok]
      cases hc : compL wt (fun v h => evE true F (ρ.set i v) elt h) (fun v h => evC true F (ρ.set i v) cond h) vs H1 with
      | bad => exact .inl rfl
      | err _ _ => exact .inl rfl
      | ok rs Hf =>
        simp only [mkL]
        split
        · rename_i hle
          refine key _ (fun vs' wt' H1' z => ?_) (fun _ _ z => by rw [hev] at z; cases z) (by rw [hev]; simp)
          rw [hev] at z; cases z
          exact ⟨rs, Hf, hc, hle, rfl⟩
        · exact .inl rfl

theorem raise_keeps {h h' : Heap} {C : Addr} (e : RaiseAt h C) (k : ∀ b o, h.get? b = some o → h'.get? b = some o) : RaiseAt h' C := by
  refine hold fun _ k_ => ?_
  obtain ⟨nm, qn, N, bs, bm, hdct, sn, sub, ab, col, dd, k0, k1, k2, k3, k5, mN, r1, r2, r3, r4⟩ := e
  refine k_ ?_
  exact ⟨nm, qn, N, bs, bm, hdct, sn, sub, ab, col, dd, k0, k1, k2, k3, k5, mN, k _ _ r1, ns_stays k r2, r3, r4.keeps k⟩

/-- an exception's own class, asked for by name -/
theorem exc_class {prog : Program} {w : World} {A : Around} {E : Value → Shared → Prop} {Q : Option Value → Shared → Prop} {s : Shared} {K : Frag} {x D : Addr} {ox : Obj} (X : K.In s.heap) (I : InstAt s.heap x ox D none) (R : RaiseAt s.heap D)
    (hga : findIn K (.ref D) "__getattribute__" = some (some (.builtin "BaseException.__getattribute__"))) (hgh : findIn K (.ref D) "__getattr__" = some none)
    (hf : findObj K D none "__class__" = some (.bind (.builtin "getset_descriptor.__get__") (.builtin "object.__class__"))) (hm : mroIn K D (.type "object") = some true)
    (h : Q (some (.ref D)) { s with toks := s.toks + 1 }) : wpAny (model prog w) A (getAttr? (.ref x) "__class__") Q E s := by
  refine hold fun _ k_ => ?_
  obtain ⟨hh, g, d, t, os⟩ := s
  refine k_ ?_
  refine hold fun _ k_ => ?_
  obtain ⟨nm, qn, N, bs, bm, hdct, sn, sub, ab, col, dd, k0, k1, k2, k3, k5, mN, r1, r2, r3, r4⟩ := R
  refine k_ ?_
  have L0 := I.type (M := model prog w)
  have L1 := looks_findIn (M := model prog w) X hga
  have L2 := looks_findIn (M := model prog w) X hgh
  have L3 := looks_find (M := model prog w) X I hf
  have f3 := F.attrBase_ValueError.ga.bind (.ref x)
  unfold getAttr? getAttrBy? getAttrBy
  refine wpAny_bind (wpAny_mkText (wpAny_bind (wpAny_attempt (wpAny_holding (wpAny_bind (L0.at (wpAny_bind (L1.at ?_))))))))
  have hx2 : (Value.builtin "BaseException.__getattribute__" == Value.builtin "object.__getattribute__") = false := by decide +kernel
  dsimp only
  rw [if_neg (by rw [hx2]; simp)]
  unfold getAttrByItsOwn hookBefore
  refine wpAny_bind ?_
  rw [if_pos (show onTheHeap (Value.ref D) = true from rfl)]
  refine L2.at ?_
  refine wpAny_bind (wpAny_attempt (wpAny_holding ?_))
  unfold callGetattribute
  rw [if_neg (by simp)]
  unfold boundAndCalled
  rw [f3]
  refine wpAny_bind (wpAny_pure ?_)
  refine wpAny_call (codeAny_call_builtin F.attrBase_ValueError.ga.plain F.entry_bexc_ga (wpAny_check_ga_own F.attrBase_ValueError r1 r4 I.1 I.2 ?_))
  unfold Builtin.«object.__getattribute__»
  refine wpAny_bind (wpAny_of_eq (a := (.ref x, [.str (Str.ofString "__class__") t])) rfl ?_)
  dsimp only
  refine wpAny_bind (wpAny_of_eq (a := Str.ofString "__class__") rfl ?_)
  refine wpAny_bind (L0.at (wpAny_bind (L3.at ?_)))
  dsimp only
  unfold Builtin.ObjectAttr.bindTo
  dsimp only
  refine wpAny_bind (wpAny_holding (wpAny_call (class_get (s := ⟨hh, g, d, t + 1, os⟩) (ox := ox) (od := none) X I hm ?_)))
  refine wpAny_pure ?_
  exact handed_on rfl (wpAny_pure h)

theorem kitx_exc {K : Frag} {x D : Addr} {ox : Obj} (hg : findIn K (.ref D) "__getattribute__" = some (some (.builtin "BaseException.__getattribute__")) ∧ findIn K (.ref D) "__getattr__" = some none) (hc : (clsIn K D).isSome = true) (ha : findIn K (.ref D) "__class__" = some (some (.builtin "object.__class__")))
    (hn : specialIn K (.builtin "object.__class__") "__get__" = some (some (.builtin "getset_descriptor.__get__"))) (htk : takesIn K (.builtin "object.__class__") = some true) (hm : mroIn K D (.type "object") = some true) :
    KitX K (.ref x) (.ref D) (fun h => InstAt h x ox D none ∧ RaiseAt h D) where
  ty := fun _ _ _ I => I.1.type
  it := fun _ _ X _ => by
    obtain ⟨cdD, hcD⟩ := Option.isSome_iff_exists.mp hc
    unfold clsIn at hcD
    split at hcD
    · rename_i c' d' cd' sl' ho
      intro A' Q' E' s' k q
      unfold isType loadHead
      exact wpAny_bind (wpAny_loadPart (k _ _ (X _ _ ho)) (wpAny_pure q))
    · cases hcD
  ne := fun h tp dd its n sl X htp => by
    obtain ⟨cdD, hcD⟩ := Option.isSome_iff_exists.mp hc
    refine Bool.eq_false_iff.mpr fun q => ?_
    have e : D = tp := Value.ref.inj (beq_iff_eq.mp q)
    subst e
    unfold clsIn at hcD
    split at hcD
    · rename_i c' d' cd' sl' ho
      have z := (X _ _ ho).symm.trans htp
      cases z
    · cases hcD
  ca := fun {prog w A E Q s} X I k => by
    have hf : findObj K D none "__class__" = some (.bind (.builtin "getset_descriptor.__get__") (.builtin "object.__class__")) := by
      obtain ⟨cd, hc⟩ := Option.isSome_iff_exists.mp hc
      unfold findObj
      rw [hc, Option.bind_some, ha, Option.bind_some]
      simp [hn, htk]
    exact exc_class X I.1 I.2 hg.1 hg.2 hf hm k

theorem ej_isexc {i : Nat} {t : Ty} {x : Str} {y : Expr} {p p' p2 : Pos} (hx : c.glob "isinstance" = true) (hv : c.var x i = true) (hk : ckTy c t y = true) :
    EJ am n q F c (.isexc i t) (.Call (.Name "isinstance" p) [.Name x p2, y] [] p') := fun {cx ρ A res π Hc s} B st => by
  simp only [qE_1, qE_2, qE_3, qE_4, qE_5, qE_6, qE_7, qE_8, qE_9, qE_10, qE_11, qE_12, qE_13, qE_14, qE_15, qE_16, qE_17, qE_18, qE_19, qE_20, qE_21, qE_22, qE_23, qE_24, qE_25, qE_26, qE_27, qE_28, qE_29, qE_30, qE_31, qE_32, qE_33, qE_34, qE_35, qE_36, qE_37, qE_38]
  cases hρ : ρ[i]? with
  | none => exact .inl rfl
  | some v =>
    cases v with
    | exc d =>
      simp only
      cases hb : isExc d t with
      | none => exact .inl rfl
      | some b =>
        refine .inr (wp_call_bt (v := .builtin "isinstance") B st.hr hx (bt_mem (by kernel_rfl)) (by
          intro z hz; rcases List.mem_cons.mp hz with rfl | hz
          · rfl
          · exact tys_star (c := c) (ts := [t]) (xs := [y]) (by simp [ckTys, hk]) z hz) (spl2 (wp_var B st hv hρ (by simp) fun v' hs => ?_)))
        rcases hs with hs | ⟨d', a, h1, rfl, h3, C, o, vs, h4, h5, h6, h7, h8, h9⟩
        · exact hs.elim
        cases h1
        unfold isExc at hb
        split at hb
        · rename_i hd
          have hdm : d ∈ excNames := by simpa using hd
          obtain ⟨C', X⟩ := B.ok.exc d hdm
          have hCC : C' = C := by have := X.name.symm.trans h4; cases this; rfl
          subst hCC
          have Z := kitx_exc (x := a) (ox := o) X.get X.cls X.find X.spec X.takes X.mro
          have I : InstAt s.heap a o C' none ∧ RaiseAt s.heap C' := ⟨⟨h5, h6.1, by unfold notCls; rw [h7], by rw [h6.2]; trivial⟩, raise_keeps (B.ok.rs d hdm C' X.name) st.hr.base⟩
          obtain ⟨pz, rfl, hk'⟩ := ckTy_inv hk
          clear hk
          have hk := hk'
          cases t with
          | valueError =>
            cases hb
            exact wp_bt B st.hr hk (bt_mem (by kernel_rfl)) (kia_one Z (B.ok.K.keeps st.hr.base) I X.val (by simp) fun tk => OkP.tok st.hr rfl)
          | own d2 =>
            simp only at hb
            split at hb
            · rename_i hd2
              cases hb
              have hdm2 : d2 ∈ excNames := by simpa using hd2
              obtain ⟨D, Y⟩ := B.ok.exc d2 hdm2
              exact wp_glob B st.hr hk Y.name (kia_one Z (B.ok.K.keeps st.hr.base) I (B.ok.sub d hdm d2 hdm2 C' D X.name Y.name) (by simp) fun tk => OkP.tok st.hr rfl)
            · cases hb
          | _ => cases hb
        · cases hb
    | _ => exact .inl rfl

theorem ej_callX {f : String} {i : Nat} {x : Str} {p p' p2 : Pos} (hx : c.glob (Str.ofString f) = true) (hf : f ∈ c.fns) (hv : c.var x i = true) :
    EJ am n q F c (.callX f i) (.Call (.Name (Str.ofString f) p) [.Name x p2] [] p') := fun {cx ρ A res π Hc s} B st => by
  simp only [qE_1, qE_2, qE_3, qE_4, qE_5, qE_6, qE_7, qE_8, qE_9, qE_10, qE_11, qE_12, qE_13, qE_14, qE_15, qE_16, qE_17, qE_18, qE_19, qE_20, qE_21, qE_22, qE_23, qE_24, qE_25, qE_26, qE_27, qE_28, qE_29, qE_30, qE_31, qE_32, qE_33, qE_34, qE_35, qE_36, qE_37, qE_38]
  cases hρ : ρ[i]? with
  | none => exact .inl rfl
  | some v =>
    cases v with
    | exc d =>
      obtain ⟨a, fa⟩ := B.ck.fns f hf
      refine hold fun _ k_ => ?_
      obtain ⟨ga, o, fd, ho, hd⟩ := id fa
      refine k_ ?_
      have hq : q = false := by
        cases q with
        | false => rfl
        | true => exact absurd rfl ((B.ne rfl) _ (List.mem_of_getElem? hρ) d)
      simp only
      have J : ∀ v', SR (am.at res) π s.heap (.exc d) v' → JAt (am.at res) cx.stack A (PySem.call (.ref a) [v'] []) (Mine.pcall Hc (F q f [.exc d] Hc)) (VR (am.at res)) π s := fun v' hs => by
        rcases hs with hs | ⟨d', b, h1, rfl, h3, h4⟩
        · exact hs.elim
        cases h1
        exact JAt.pcall st.hr (B.fn.call res q f a _ _ cx.stack A π Hc s fa B.as st.hr st.hd (.inr ⟨hq, d, b, rfl, rfl, h3, h4⟩))
      by_cases hbad : Mine.pcall Hc (F q f [.exc d] Hc) = .bad
      · exact .inl hbad
      · refine .inr (wpAny_Call_Name_kw (wp_glob B st.hr hx ga ?_))
        rw [starEach_plain _ (fun z hz => by rw [List.mem_singleton.mp hz]; rfl)]
        refine Calls.callWith_function (o := o) (fd := fd) (Calls.evalArgs_plain (spl1 (wp_var B st hv hρ (by simp) fun v' hs => ⟨⟨st.hr.base a o ho, hd⟩, ?_⟩)))
        rcases J v' hs with h | h
        · exact absurd h hbad
        · exact h
    | _ => exact .inl rfl
end

end Mine

namespace Mine
open PySem PySem.W PyProof.Rows

section
variable {am : Amb} {n : Nat} {F : Fn}

noncomputable def PJ (am : Amb) (n : Nat) (q : Bool) (F : Fn) (c : Ck) (e : PE) (x : Expr) : Prop := EJ am n q F c e x ∧ TJ am n q F c e x

theorem EJ.both {q : Bool} {c : Ck} {e : PE} {x : Expr} (h : EJ am n q F c e x) (hp : plainTest x = true) : PJ am n q F c e x := ⟨h, h.test hp⟩

/-- what a fresh form is good for -/
noncomputable def OJ (am : Amb) (n : Nat) (q : Bool) (F : Fn) (c : Ck) (e : PE) (x : Expr) : Prop := freshE e = true → EJ am n q F c (.own e) x ∧ plainTest x = true

theorem fresh_bf {f : Bf} {a : PE} (h : freshE (.bf f a) = true) : f = .list ∨ f = .listRev := by
  rcases Bool.or_eq_true_iff.mp (show (decide (f = .list) || decide (f = .listRev)) = true from h) with h | h
  · exact .inl (of_decide_eq_true h)
  · exact .inr (of_decide_eq_true h)

theorem one_any {α : Type} {l : List α} {p : α → Bool} (h : (one l).any p = true) : ∃ x, l = [x] ∧ p x = true := by
  obtain ⟨x, h1, h2⟩ := any_inv h
  exact ⟨x, one_inv h1, h2⟩
theorem two_any {α : Type} {l : List α} {p : α × α → Bool} (h : (two l).any p = true) : ∃ x y, l = [x, y] ∧ p (x, y) = true := by
  obtain ⟨⟨x, y⟩, h1, h2⟩ := any_inv h
  exact ⟨x, y, two_inv h1, h2⟩
theorem named_any {e : Expr} {p : Str × List Expr → Bool} (h : (xNamed e).any p = true) : ∃ f xs q q', e = .Call (.Name f q) xs [] q' ∧ p (f, xs) = true := by
  obtain ⟨⟨f, xs⟩, h1, h2⟩ := any_inv h
  obtain ⟨q, q', rfl⟩ := xNamed_inv h1
  exact ⟨f, xs, q, q', rfl, h2⟩
theorem meth_any {e : Expr} {p : Expr × Str × List Expr × Pos × Pos → Bool} (h : (xMeth e).any p = true) : ∃ v m xs q q', e = .Call (.Attribute v m q) xs [] q' ∧ p (v, m, xs, q, q') = true := by
  obtain ⟨⟨v, m, xs, q, q'⟩, h1, h2⟩ := any_inv h
  exact ⟨v, m, xs, q, q', xMeth_inv h1, h2⟩
theorem name_any {e : Expr} {p : Str → Bool} (h : (xName e).any p = true) : ∃ x q, e = .Name x q ∧ p x = true := by
  obtain ⟨x, h1, h2⟩ := any_inv h
  obtain ⟨q, rfl⟩ := xName_inv h1
  exact ⟨x, q, rfl, h2⟩

theorem bin_any {e : Expr} {p : Expr × Operator × Expr → Bool} (h : (xBin e).any p = true) : ∃ l o r q, e = .BinOp l o r q ∧ p (l, o, r) = true := by
  obtain ⟨⟨l, o, r⟩, h1, h2⟩ := any_inv h
  obtain ⟨q, rfl⟩ := xBin_inv h1
  exact ⟨l, o, r, q, rfl, h2⟩
theorem un_any {e : Expr} {p : UnaryOp × Expr → Bool} (h : (xUn e).any p = true) : ∃ o y q, e = .UnaryOp o y q ∧ p (o, y) = true := by
  obtain ⟨⟨o, y⟩, h1, h2⟩ := any_inv h
  obtain ⟨q, rfl⟩ := xUn_inv h1
  exact ⟨o, y, q, rfl, h2⟩
theorem bool_any {e : Expr} {p : BoolOp × List Expr → Bool} (h : (xBool e).any p = true) : ∃ o ys q, e = .BoolOp o ys q ∧ p (o, ys) = true := by
  obtain ⟨⟨o, ys⟩, h1, h2⟩ := any_inv h
  obtain ⟨q, rfl⟩ := xBool_inv h1
  exact ⟨o, ys, q, rfl, h2⟩
theorem cmp_any {e : Expr} {p : Expr × List CmpOp × List Expr → Bool} (h : (xCmp e).any p = true) : ∃ l os rs q, e = .Compare l os rs q ∧ p (l, os, rs) = true := by
  obtain ⟨⟨l, os, rs⟩, h1, h2⟩ := any_inv h
  obtain ⟨q, rfl⟩ := xCmp_inv h1
  exact ⟨l, os, rs, q, rfl, h2⟩
theorem dict_any {e : Expr} {p : List (Option Expr) × List Expr → Bool} (h : (xDict e).any p = true) : ∃ ks vs q, e = .Dict ks vs q ∧ p (ks, vs) = true := by
  obtain ⟨⟨ks, vs⟩, h1, h2⟩ := any_inv h
  obtain ⟨q, rfl⟩ := xDict_inv h1
  exact ⟨ks, vs, q, rfl, h2⟩
theorem sub_any {e : Expr} {p : Expr × Expr → Bool} (h : (xSub e).any p = true) : ∃ v i q, e = .Subscript v i q ∧ p (v, i) = true := by
  obtain ⟨⟨v, i⟩, h1, h2⟩ := any_inv h
  obtain ⟨q, rfl⟩ := xSub_inv h1
  exact ⟨v, i, q, rfl, h2⟩
theorem slice_any {e : Expr} {p : Option Expr × Option Expr × Option Expr → Bool} (h : (xSlice e).any p = true) : ∃ l u k q, e = .Slice l u k q ∧ p (l, u, k) = true := by
  obtain ⟨⟨l, u, k⟩, h1, h2⟩ := any_inv h
  obtain ⟨q, rfl⟩ := xSlice_inv h1
  exact ⟨l, u, k, q, rfl, h2⟩
theorem lc_any {e : Expr} {p : Expr × List Comprehension × Scope → Bool} (h : (xLC e).any p = true) : ∃ y gs sc q, e = .ListComp y gs sc q ∧ p (y, gs, sc) = true := by
  obtain ⟨⟨y, gs, sc⟩, h1, h2⟩ := any_inv h
  obtain ⟨q, rfl⟩ := xLC_inv h1
  exact ⟨y, gs, sc, q, rfl, h2⟩
theorem list_any {e : Expr} {p : List Expr → Bool} (h : (xList e).any p = true) : ∃ xs q, e = .List xs q ∧ p xs = true := by
  obtain ⟨xs, h1, h2⟩ := any_inv h
  obtain ⟨q, rfl⟩ := xList_inv h1
  exact ⟨xs, q, rfl, h2⟩
theorem tup_any {e : Expr} {p : List Expr → Bool} (h : (xTup e).any p = true) : ∃ xs k q, e = .Tuple xs k q ∧ p xs = true := by
  obtain ⟨xs, h1, h2⟩ := any_inv h
  obtain ⟨k, q, rfl⟩ := xTup_inv h1
  exact ⟨xs, k, q, rfl, h2⟩
theorem gen_any {gs : List Comprehension} {p : Str × Expr × List Expr → Bool} (h : (xGen gs).any p = true) : ∃ x iter ifs q, gs = [⟨.Name x q, iter, ifs, 0⟩] ∧ p (x, iter, ifs) = true := by
  obtain ⟨⟨x, iter, ifs⟩, h1, h2⟩ := any_inv h
  obtain ⟨q, hq⟩ := xGen_inv h1
  exact ⟨x, iter, ifs, q, hq, h2⟩

theorem k_none {q : Bool} {c : Ck}  {x : Expr}  (h : ckE c (.none) x = true) : PJ am n q F c (.none) x ∧ OJ am n q F c (.none) x := by
  obtain ⟨k, p, rfl⟩ := xConst_inv (of_decide_eq_true h)
  exact ⟨EJ.both ej_none rfl, fun z => by cases z⟩
theorem k_bool {q : Bool} {c : Ck} {b : Bool} {x : Expr}  (h : ckE c (.bool b) x = true) : PJ am n q F c (.bool b) x ∧ OJ am n q F c (.bool b) x := by
  obtain ⟨k, p, rfl⟩ := xConst_inv (of_decide_eq_true h)
  exact ⟨EJ.both ej_bool rfl, fun z => by cases z⟩
theorem k_int {q : Bool} {c : Ck} {i : Int} {x : Expr}  (h : ckE c (.int i) x = true) : PJ am n q F c (.int i) x ∧ OJ am n q F c (.int i) x := by
  obtain ⟨k, p, rfl⟩ := xConst_inv (of_decide_eq_true h)
  exact ⟨EJ.both ej_int rfl, fun z => by cases z⟩
theorem k_str {q : Bool} {c : Ck} {t : String} {x : Expr}  (h : ckE c (.str t) x = true) : PJ am n q F c (.str t) x ∧ OJ am n q F c (.str t) x := by
  obtain ⟨k, p, rfl⟩ := xConst_inv (of_decide_eq_true h)
  exact ⟨EJ.both ej_str rfl, fun z => by cases z⟩
theorem k_var {q : Bool} {c : Ck} {i : Nat} {x : Expr}  (h : ckE c (.var i) x = true) : PJ am n q F c (.var i) x ∧ OJ am n q F c (.var i) x := by
  obtain ⟨y, p, rfl, hh1⟩ := name_any h
  exact ⟨EJ.both (ej_var hh1) rfl, fun z => by cases z⟩
theorem k_glob {q : Bool} {c : Ck} {g : String} {i : Int} {x : Expr}  (h : ckE c (.glob g i) x = true) : PJ am n q F c (.glob g i) x ∧ OJ am n q F c (.glob g i) x := by
  obtain ⟨y, p, rfl, hh1⟩ := name_any h
  simp only [Bool.and_eq_true, beq_iff_eq, List.contains_iff_mem] at hh1
  obtain ⟨⟨rfl, h1⟩, h2⟩ := hh1
  exact ⟨EJ.both (ej_glob h1 h2) rfl, fun z => by cases z⟩
theorem k_bin {q : Bool} {c : Ck} {op : Bop} {a : PE} {b : PE} {x : Expr} (Ia : ∀ y, ckE c a y = true → PJ am n q F c a y ∧ OJ am n q F c a y) (Ib : ∀ y, ckE c b y = true → PJ am n q F c b y ∧ OJ am n q F c b y) (h : ckE c (.bin op a b) x = true) : PJ am n q F c (.bin op a b) x ∧ OJ am n q F c (.bin op a b) x := by
  obtain ⟨l, o, r, p, rfl, hh1⟩ := bin_any h
  simp only [Bool.and_eq_true] at hh1
  have ha := (Ia _ hh1.1.2).1
  have hb := (Ib _ hh1.2).1
  exact ⟨EJ.both (ej_bin hh1.1.1 ha.1 hb.1) rfl, fun z => by cases z⟩
theorem k_neg {q : Bool} {c : Ck} {i : Int} {x : Expr}  (h : ckE c (.neg i) x = true) : PJ am n q F c (.neg i) x ∧ OJ am n q F c (.neg i) x := by
  obtain ⟨o, y, p, rfl, hh1⟩ := un_any h
  simp only [Bool.and_eq_true, beq_iff_eq] at hh1
  obtain ⟨rfl, h2⟩ := hh1
  obtain ⟨k, p', rfl⟩ := xConst_inv (of_decide_eq_true h2)
  exact ⟨EJ.both ej_neg rfl, fun z => by cases z⟩
theorem k_not {q : Bool} {c : Ck} {a : PE} {x : Expr} (Ia : ∀ y, ckE c a y = true → PJ am n q F c a y ∧ OJ am n q F c a y) (h : ckE c (.not a) x = true) : PJ am n q F c (.not a) x ∧ OJ am n q F c (.not a) x := by
  obtain ⟨o, y, p, rfl, hh1⟩ := un_any h
  simp only [Bool.and_eq_true, beq_iff_eq] at hh1
  obtain ⟨rfl, h2⟩ := hh1
  have ha := (Ia _ h2).1
  exact ⟨⟨ej_not ha.1, tj_not ha.2⟩, fun z => by cases z⟩
theorem k_and {q : Bool} {c : Ck} {es : List PE} {x : Expr} (Ies : ∀ ys, ckEs c es ys = true → AllJ am n q F c es ys) (h : ckE c (.and es) x = true) : PJ am n q F c (.and es) x ∧ OJ am n q F c (.and es) x := by
  obtain ⟨o, ys, p, rfl, hh1⟩ := bool_any h
  simp only [Bool.and_eq_true, beq_iff_eq] at hh1
  obtain ⟨rfl, h2⟩ := hh1
  have ha := Ies _ h2
  exact ⟨⟨ej_and ha, tj_and ha⟩, fun z => by cases z⟩
theorem k_or {q : Bool} {c : Ck} {es : List PE} {x : Expr} (Ies : ∀ ys, ckEs c es ys = true → AllJ am n q F c es ys) (h : ckE c (.or es) x = true) : PJ am n q F c (.or es) x ∧ OJ am n q F c (.or es) x := by
  obtain ⟨o, ys, p, rfl, hh1⟩ := bool_any h
  simp only [Bool.and_eq_true, beq_iff_eq] at hh1
  obtain ⟨rfl, h2⟩ := hh1
  have ha := Ies _ h2
  exact ⟨⟨ej_or ha, tj_or ha⟩, fun z => by cases z⟩
theorem k_cmp {q : Bool} {c : Ck} {op : Cop} {a : PE} {b : PE} {x : Expr} (Ia : ∀ y, ckE c a y = true → PJ am n q F c a y ∧ OJ am n q F c a y) (Ib : ∀ y, ckE c b y = true → PJ am n q F c b y ∧ OJ am n q F c b y) (h : ckE c (.cmp op a b) x = true) : PJ am n q F c (.cmp op a b) x ∧ OJ am n q F c (.cmp op a b) x := by
  obtain ⟨l, os, rs, p, rfl, hh1⟩ := cmp_any h
  obtain ⟨o, rfl, hh2⟩ := one_any hh1
  obtain ⟨r, rfl, hh3⟩ := one_any hh2
  simp only [Bool.and_eq_true, Bool.not_eq_true'] at hh3
  have ha := (Ia _ hh3.1.1.2).1
  have hb := (Ib _ hh3.1.2).1
  exact ⟨⟨ej_cmp hh3.1.1.1 hh3.2 ha.1 hb.1, tj_cmp hh3.1.1.1 hh3.2 ha.1 hb.1⟩, fun z => by cases z⟩
theorem k_cmp2 {q : Bool} {c : Ck} {o1 : Cop} {o2 : Cop} {a : PE} {b : PE} {d : PE} {x : Expr} (Ia : ∀ y, ckE c a y = true → PJ am n q F c a y ∧ OJ am n q F c a y) (Ib : ∀ y, ckE c b y = true → PJ am n q F c b y ∧ OJ am n q F c b y) (Id : ∀ y, ckE c d y = true → PJ am n q F c d y ∧ OJ am n q F c d y) (h : ckE c (.cmp2 o1 o2 a b d) x = true) : PJ am n q F c (.cmp2 o1 o2 a b d) x ∧ OJ am n q F c (.cmp2 o1 o2 a b d) x := by
  obtain ⟨l, os, rs, p, rfl, hh1⟩ := cmp_any h
  obtain ⟨u1, u2, rfl, hh2⟩ := two_any hh1
  obtain ⟨r1, r2, rfl, hh3⟩ := two_any hh2
  simp only [Bool.and_eq_true, Bool.not_eq_true'] at hh3
  have ha := (Ia _ hh3.1.1.1.2).1
  have hb := (Ib _ hh3.1.1.2).1
  have hd := (Id _ hh3.1.2).1
  exact ⟨⟨ej_cmp2 hh3.1.1.1.1.1 hh3.1.1.1.1.2 hh3.2 ha.1 hb.1 hd.1, tj_cmp2 hh3.1.1.1.1.1 hh3.1.1.1.1.2 hh3.2 ha.1 hb.1 hd.1⟩, fun z => by cases z⟩
theorem k_list {q : Bool} {c : Ck} {es : List PE} {x : Expr} (Ies : ∀ ys, ckEs c es ys = true → AllJ am n q F c es ys) (h : ckE c (.list es) x = true) : PJ am n q F c (.list es) x ∧ OJ am n q F c (.list es) x := by
  obtain ⟨xs, p, rfl, hh1⟩ := list_any h
  have ha := Ies _ hh1
  exact ⟨EJ.both (FJ.ej (fj_list ha)) rfl, fun _ => ⟨FJ.own (fj_list ha), rfl⟩⟩
theorem k_tup {q : Bool} {c : Ck} {es : List PE} {x : Expr} (Ies : ∀ ys, ckEs c es ys = true → AllJ am n q F c es ys) (h : ckE c (.tup es) x = true) : PJ am n q F c (.tup es) x ∧ OJ am n q F c (.tup es) x := by
  obtain ⟨xs, k, p, rfl, hh1⟩ := tup_any h
  exact ⟨EJ.both (ej_tup (Ies _ hh1)) rfl, fun z => by cases z⟩
theorem k_dict0 {q : Bool} {c : Ck}  {x : Expr}  (h : ckE c (.dict0) x = true) : PJ am n q F c (.dict0) x ∧ OJ am n q F c (.dict0) x := by
  obtain ⟨ks, vs, p, rfl, hh1⟩ := dict_any h
  simp only [Bool.and_eq_true, List.isEmpty_iff] at hh1
  obtain ⟨rfl, rfl⟩ := hh1
  exact ⟨EJ.both ej_dict0 rfl, fun z => by cases z⟩
theorem k_idx {q : Bool} {c : Ck} {a : PE} {i : PE} {x : Expr} (Ia : ∀ y, ckE c a y = true → PJ am n q F c a y ∧ OJ am n q F c a y) (Ii : ∀ y, ckE c i y = true → PJ am n q F c i y ∧ OJ am n q F c i y) (h : ckE c (.idx a i) x = true) : PJ am n q F c (.idx a i) x ∧ OJ am n q F c (.idx a i) x := by
  obtain ⟨v, s, p, rfl, hh1⟩ := sub_any h
  simp only [Bool.and_eq_true] at hh1
  exact ⟨EJ.both (ej_idx (Ia _ hh1.1).1.1 (Ii _ hh1.2).1.1) rfl, fun z => by cases z⟩
theorem k_slice {q : Bool} {c : Ck} {a : PE} {lo : Option PE} {hi : Option PE} {x : Expr} (Ia : ∀ y, ckE c a y = true → PJ am n q F c a y ∧ OJ am n q F c a y) (Ilo : ∀ y, ckO c lo y = true → OptJ am n q F c lo y) (Ihi : ∀ y, ckO c hi y = true → OptJ am n q F c hi y) (h : ckE c (.slice a lo hi) x = true) : PJ am n q F c (.slice a lo hi) x ∧ OJ am n q F c (.slice a lo hi) x := by
  obtain ⟨v, s, p, rfl, hh1⟩ := sub_any h
  obtain ⟨l, u, k, p', rfl, hh2⟩ := slice_any hh1
  simp only [Bool.and_eq_true, Option.isNone_iff_eq_none] at hh2
  obtain ⟨⟨⟨rfl, h3⟩, h4⟩, h5⟩ := hh2
  exact ⟨EJ.both (ej_slice (Ia _ h3).1.1 (Ilo _ h4) (Ihi _ h5)) rfl, fun z => by cases z⟩
theorem k_isinst {q : Bool} {c : Ck} {a : PE} {ts : List Ty} {x : Expr} (Ia : ∀ y, ckE c a y = true → PJ am n q F c a y ∧ OJ am n q F c a y) (h : ckE c (.isinst a ts) x = true) : PJ am n q F c (.isinst a ts) x ∧ OJ am n q F c (.isinst a ts) x := by
  obtain ⟨f, xs, p, p', rfl, hh1⟩ := named_any h
  obtain ⟨y, t, rfl, hh2⟩ := two_any hh1
  simp only [Bool.and_eq_true, beq_iff_eq] at hh2
  obtain ⟨⟨⟨⟨rfl, h1⟩, h2⟩, h3⟩, h4⟩ := hh2
  have ha := (Ia _ h2).1
  cases ht : xTup t with
  | some es =>
    rw [ht] at h4
    obtain ⟨k, p2, rfl⟩ := xTup_inv ht
    simp only [Option.elim_some, Bool.and_eq_true, decide_eq_true_eq] at h4
    exact ⟨EJ.both (ej_isinst2 h1 h3 h4.1.1 h4.1.2 h4.2 (ck_isStar h2) ha.1) rfl, fun z => by cases z⟩
  | none =>
    rw [ht] at h4
    simp only [Option.elim_none] at h4
    cases ts with
    | nil => cases h4
    | cons t ts => cases ts with
      | nil =>
        simp only [ckTys, Bool.and_true] at h4
        simp only [List.all_cons, List.all_nil, Bool.and_true] at h3
        exact ⟨EJ.both (ej_isinst h1 h3 h4 (ck_isStar h2) ha.1) rfl, fun z => by cases z⟩
      | cons _ _ => simp [ckTys] at h4
theorem k_isexc {q : Bool} {c : Ck} {i : Nat} {t : Ty} {x : Expr}  (h : ckE c (.isexc i t) x = true) : PJ am n q F c (.isexc i t) x ∧ OJ am n q F c (.isexc i t) x := by
  obtain ⟨f, xs, p, p', rfl, hh1⟩ := named_any h
  obtain ⟨y, t', rfl, hh2⟩ := two_any hh1
  simp only [Bool.and_eq_true, beq_iff_eq] at hh2
  obtain ⟨⟨⟨rfl, h1⟩, h2⟩, h3⟩ := hh2
  obtain ⟨z, p2, rfl, h2⟩ := name_any h2
  exact ⟨EJ.both (ej_isexc h1 h2 h3) rfl, fun z => by cases z⟩
theorem k_callX {q : Bool} {c : Ck} {f : String} {i : Nat} {x : Expr}  (h : ckE c (.callX f i) x = true) : PJ am n q F c (.callX f i) x ∧ OJ am n q F c (.callX f i) x := by
  obtain ⟨g, xs, p, p', rfl, hh1⟩ := named_any h
  obtain ⟨y, rfl, hh2⟩ := one_any hh1
  simp only [Bool.and_eq_true, beq_iff_eq, List.contains_iff_mem] at hh2
  obtain ⟨⟨⟨rfl, h1⟩, h2⟩, h3⟩ := hh2
  obtain ⟨z, p2, rfl, h3⟩ := name_any h3
  exact ⟨EJ.both (ej_callX h1 h2 h3) rfl, fun z => by cases z⟩
theorem k_bf {q : Bool} {c : Ck} {f : Bf} {a : PE} {x : Expr} (Ia : ∀ y, ckE c a y = true → PJ am n q F c a y ∧ OJ am n q F c a y) (h : ckE c (.bf f a) x = true) : PJ am n q F c (.bf f a) x ∧ OJ am n q F c (.bf f a) x := by
  obtain ⟨g, xs, p, p', rfl, hh1⟩ := named_any h
  obtain ⟨y, rfl, hh2⟩ := one_any hh1
  simp only [Bool.and_eq_true, beq_iff_eq] at hh2
  obtain ⟨⟨rfl, h1⟩, h2⟩ := hh2
  by_cases hr : f = .listRev
  · subst hr
    obtain ⟨g, xs, p2, p2', rfl, hh3⟩ := named_any h2
    obtain ⟨y', rfl, hh4⟩ := one_any hh3
    simp only [Bool.and_eq_true, beq_iff_eq] at hh4
    obtain ⟨⟨rfl, h3⟩, h4⟩ := hh4
    have ha := (Ia _ h4).1
    exact ⟨EJ.both (FJ.ej (fj_rev h1 h3 (ck_isStar h4) ha.1)) rfl, fun _ => ⟨FJ.own (fj_rev h1 h3 (ck_isStar h4) ha.1), rfl⟩⟩
  · have h2' : ckE c a y = true := by cases f <;> first | exact h2 | (exact absurd rfl hr) | (cases h2)
    have ha := (Ia _ h2').1
    refine ⟨EJ.both (ej_bf hr h1 (ck_isStar h2') ha.1) rfl, fun z => ?_⟩
    rcases fresh_bf z with hf | hf
    · subst hf
      exact ⟨FJ.own (fj_bflist h1 (ck_isStar h2') ha.1), rfl⟩
    · exact (hr hf).elim
theorem k_comp {q : Bool} {c : Ck} {elt : PE} {i : Nat} {it : PIt} {cond : Option PE} {x : Expr} (Ielt : ∀ c y, ckE c elt y = true → PJ am n true F c elt y ∧ OJ am n true F c elt y) (Iit : ∀ y, ckIt c it y = true → ItJ am n F c it y) (Icond : ∀ c ys, ckC c cond ys = true → CJ am n F c cond ys) (h : ckE c (.comp elt i it cond) x = true) : PJ am n q F c (.comp elt i it cond) x ∧ OJ am n q F c (.comp elt i it cond) x := by
  obtain ⟨e, gs, sc, p, rfl, hh1⟩ := lc_any h
  obtain ⟨y, iter, ifs, p', rfl, hh2⟩ := gen_any hh1
  simp only [Bool.and_eq_true, Bool.not_eq_true'] at hh2
  obtain ⟨⟨⟨⟨⟨h1, h2⟩, h3⟩, h4⟩, h5⟩, h6⟩ := hh2
  have helt := (Ielt _ _ h5).1
  exact ⟨EJ.both (FJ.ej (fj_comp (q := q) h2 h3 h4 (fun _ => Iit _ h1) (fun _ => helt.1) (fun _ => Icond _ _ h6))) rfl, fun _ => ⟨FJ.own (fj_comp (q := q) h2 h3 h4 (fun _ => Iit _ h1) (fun _ => helt.1) (fun _ => Icond _ _ h6)), rfl⟩⟩
theorem k_call {q : Bool} {c : Ck} {k : Bool} {f : String} {args : List PE} {x : Expr} (Iargs : ∀ ys, ckEs c args ys = true → AllJ am n q F c args ys) (h : ckE c (.call k f args) x = true) : PJ am n q F c (.call k f args) x ∧ OJ am n q F c (.call k f args) x := by
  obtain ⟨g, xs, p, p', rfl, hh1⟩ := named_any h
  simp only [Bool.and_eq_true, beq_iff_eq, List.contains_iff_mem, Bool.not_eq_true'] at hh1
  obtain ⟨⟨⟨⟨rfl, h1⟩, h2⟩, h3⟩, h4⟩ := hh1
  have ha := Iargs _ h3
  cases xs with
  | nil => cases args with
    | nil => cases h4
    | cons _ _ => exact ha.elim
  | cons y ys => exact ⟨EJ.both (ej_call h1 h2 ha) rfl, fun z => by cases z⟩
theorem k_append {q : Bool} {c : Ck} {o : PE} {a : PE} {x : Expr} (Io : ∀ y, ckE c o y = true → PJ am n q F c o y ∧ OJ am n q F c o y) (Ia : ∀ y, ckE c a y = true → PJ am n q F c a y ∧ OJ am n q F c a y) (h : ckE c (.append o a) x = true) : PJ am n q F c (.append o a) x ∧ OJ am n q F c (.append o a) x := by
  obtain ⟨v, m, xs, p, p', rfl, hh1⟩ := meth_any h
  obtain ⟨y, rfl, hh2⟩ := one_any hh1
  simp only [Bool.and_eq_true, beq_iff_eq, Bool.not_eq_true'] at hh2
  obtain ⟨⟨⟨⟨⟨h1, h2⟩, rfl⟩, h4⟩, h5⟩, h6⟩ := hh2
  exact ⟨EJ.both (ej_append h1 (by simpa using h2) h6 (Io _ h4).1.1 (Ia _ h5).1.1) rfl, fun z => by cases z⟩

theorem k_clear {q : Bool} {c : Ck} {o : PE} {x : Expr} (Io : ∀ y, ckE c o y = true → PJ am n q F c o y ∧ OJ am n q F c o y) (h : ckE c (.clear o) x = true) : PJ am n q F c (.clear o) x ∧ OJ am n q F c (.clear o) x := by
  obtain ⟨v, m, xs, p, p', rfl, hh⟩ := meth_any h
  simp only [Bool.and_eq_true, beq_iff_eq, List.isEmpty_iff] at hh
  obtain ⟨⟨⟨⟨h1, h2⟩, rfl⟩, h4⟩, rfl⟩ := hh
  exact ⟨EJ.both (ej_clear h1 (by simpa using h2) (Io _ h4).1.1) rfl, fun z => by cases z⟩

mutual
theorem ckE_ok (q : Bool) : ∀ (c : Ck) (e : PE) (x : Expr), ckE c e x = true → PJ am n q F c e x ∧ OJ am n q F c e x
  | c, .none, x, h => k_none  h
  | c, .bool b, x, h => k_bool  h
  | c, .int i, x, h => k_int  h
  | c, .str t, x, h => k_str  h
  | c, .var i, x, h => k_var  h
  | c, .glob g i, x, h => k_glob  h
  | c, .bin op a b, x, h => k_bin (ckE_ok q c a) (ckE_ok q c b) h
  | c, .neg i, x, h => k_neg  h
  | c, .not a, x, h => k_not (ckE_ok q c a) h
  | c, .and es, x, h => k_and (ckEs_ok q c es) h
  | c, .or es, x, h => k_or (ckEs_ok q c es) h
  | c, .ite .., x, h => by cases h
  | c, .cmp op a b, x, h => k_cmp (ckE_ok q c a) (ckE_ok q c b) h
  | c, .cmp2 o1 o2 a b d, x, h => k_cmp2 (ckE_ok q c a) (ckE_ok q c b) (ckE_ok q c d) h
  | c, .list es, x, h => k_list (ckEs_ok q c es) h
  | c, .tup es, x, h => k_tup (ckEs_ok q c es) h
  | c, .dict0, x, h => k_dict0  h
  | c, .idx a i, x, h => k_idx (ckE_ok q c a) (ckE_ok q c i) h
  | c, .slice a lo hi, x, h => k_slice (ckE_ok q c a) (ckO_ok q c lo) (ckO_ok q c hi) h
  | c, .rev a, x, h => by cases h
  | c, .isinst a ts, x, h => k_isinst (ckE_ok q c a) h
  | c, .isexc i t, x, h => k_isexc  h
  | c, .callX f i, x, h => k_callX  h
  | c, .bf f a, x, h => k_bf (ckE_ok q c a) h
  | c, .join0 .., x, h => by cases h
  | c, .comp elt i it cond, x, h => k_comp (fun c => ckE_ok true c elt) (ckIt_ok c it) (fun c => ckC_ok c cond) h
  | c, .call k f args, x, h => k_call (ckEs_ok q c args) h
  | c, .own a, x, h => by
    obtain ⟨h0, h⟩ := Bool.and_eq_true_iff.mp h
    obtain ⟨h1, h2⟩ := (ckE_ok q c a x h).2 h0
    exact ⟨h1.both h2, fun z => by cases z⟩
  | c, .newDict es, x, h => by cases h
  | c, .append o a, x, h => k_append (ckE_ok q c o) (ckE_ok q c a) h
  | c, .extend .., x, h => by cases h
  | c, .clear o, x, h => k_clear (ckE_ok q c o) h
  | c, .remove .., x, h => by cases h
  | c, .pop .., x, h => by cases h
  | c, .popAt .., x, h => by cases h
  | c, .get .., x, h => by cases h
  | c, .setdef .., x, h => by cases h
  | c, .setdefL .., x, h => by cases h

theorem ckEs_ok (q : Bool) : ∀ (c : Ck) (es : List PE) (xs : List Expr), ckEs c es xs = true → AllJ am n q F c es xs
  | c, [], xs, h => by
    cases xs with
    | nil => trivial
    | cons _ _ => cases h
  | c, e :: es, xs, h => by
    cases xs with
    | nil => cases h
    | cons x xs =>
      have h : (!isStar x && ckE c e x && ckEs c es xs) = true := h
      simp only [Bool.and_eq_true, Bool.not_eq_true'] at h
      exact ⟨⟨h.1.1, (ckE_ok q c e x h.1.2).1⟩, ckEs_ok q c es xs h.2⟩
theorem ckO_ok (q : Bool) : ∀ (c : Ck) (e : Option PE) (x : Option Expr), ckO c e x = true → OptJ am n q F c e x
  | c, none, x, h => by
    cases x with
    | none => trivial
    | some _ => cases h
  | c, some e, x, h => by
    cases x with
    | none => cases h
    | some x => have hp := (ckE_ok q c e x h).1; show EJ am n q F c e x; exact hp.1
theorem ckC_ok : ∀ (c : Ck) (e : Option PE) (xs : List Expr), ckC c e xs = true → CJ am n F c e xs
  | c, none, xs, h => by
    cases xs with
    | nil => exact cj_none
    | cons _ _ => cases h
  | c, some e, xs, h => by
    obtain ⟨y, rfl, hh1⟩ := one_any h
    have hp := (ckE_ok true c e _ hh1).1
    exact cj_some hp.2
theorem ckIt_ok : ∀ (c : Ck) (it : PIt) (x : Expr), ckIt c it x = true → ItJ am n F c it x
  | c, .seq e, x, h => by
    have hp := (ckE_ok true c e _ h).1
    exact it_seq hp.1
  | c, .range1 a, x, h => by
    obtain ⟨g, xs, p, p', rfl, hh1⟩ := named_any h
    obtain ⟨y, rfl, hh2⟩ := one_any hh1
    simp only [Bool.and_eq_true, beq_iff_eq] at hh2
    obtain ⟨⟨rfl, h1⟩, h2⟩ := hh2
    have hp := (ckE_ok true c a _ h2).1
    exact it_range1 h1 (ck_isStar h2) hp.1
  | c, .range2 .., x, h => by cases h
  | c, .range3 .., x, h => by cases h
  | c, .enum .., x, h => by cases h
end
end

end Mine

namespace Mine
open PySem PySem.W PyProof.Rows

theorem wp_gen {M : Model} {A : Around} {α : Type} {t : Sem α} {Q : α → Shared → Prop} {E : Value → Shared → Prop} {s : Shared} (h : ∀ (Q' : α → Shared → Prop) (E' : Value → Shared → Prop), (∀ a s, Q a s → Q' a s) → (∀ y s, E y s → E' y s) → wpAny M A t Q' E' s) : wpAny M A t Q E s := h Q E (fun _ _ h => h) fun _ _ h => h

/-- a def's frame: its names are no one's values, and new since the call -/
structure Frm (am : Amb) (cx : Cx) (outer : List Env) (s₀ : Shared) : Prop where
  top : cx.stack = cx.env :: outer ∧ cx.env.frame = some cx.env.locals
  res : cx.env.locals ∈ am.res
  base : am.B.get? cx.env.locals = none
  fresh : s₀.heap.get? cx.env.locals = none
  cell : ∀ y c, cx.env.cells.lookup y = some c → c ∈ am.res ∧ am.B.get? c = none ∧ s₀.heap.get? c = none

theorem Frm.fs {am : Amb} {cx : Cx} {outer : List Env} {s₀ : Shared} (f : Frm am cx outer s₀) : Fs cx.stack = cx.env.locals :: Fs outer := by
  obtain ⟨h1, h2⟩ := f.top
  rw [h1]; simp [Fs, h2]

theorem Step.inn {am : Amb} {cx : Cx} {outer : List Env} {s₀ : Shared} (f : Frm am cx outer s₀) {π₀ π π' : List Addr} {s s' : Shared} (x : Step (Fs outer) π₀ s₀ π s) (y : Step (Fs cx.stack) π s π' s') : Step (Fs outer) π₀ s₀ π' s' := by
  rw [f.fs] at y
  refine ⟨?_, ⟨fun a o e h1 h2 => ?_, fun a o e h1 => ?_, fun a o e => ?_⟩, ?_⟩
  · obtain ⟨h', tk, e⟩ := x.same
    obtain ⟨h'', tk', e'⟩ := y.same
    exact ⟨h'', tk', by rw [e', e]⟩
  · refine y.ext.keep a o (x.ext.keep a o e h1 h2) (x.notin e h1) ?_
    rw [List.mem_cons, not_or]
    exact ⟨(fun q => by subst q; rw [f.fresh] at e; cases e), h2⟩
  · obtain ⟨sl, h3⟩ := x.ext.slots a o e h1
    obtain ⟨sl', h4⟩ := y.ext.slots a _ h3 (x.notin e h1)
    exact ⟨sl', h4⟩
  · obtain ⟨o', h3⟩ := x.ext.alive a o e
    exact y.ext.alive a o' h3
  · obtain ⟨δ, rfl, hδ⟩ := x.grow
    obtain ⟨δ', rfl, hδ'⟩ := y.grow
    refine ⟨δ ++ δ', by simp, fun a ha => ?_⟩
    rcases List.mem_append.mp ha with h1 | h1
    · exact hδ a h1
    · cases hq : s₀.heap.get? a with
      | none => rfl
      | some o =>
        obtain ⟨o', h3⟩ := x.ext.alive a o hq
        have := hδ' a h1; rw [h3] at this; cases this

theorem ground_in {am : Amb} {cx : Cx} {outer : List Env} {s₀ : Shared} (f : Frm am cx outer s₀) {π₀ π : List Addr} {s : Shared} (x : Step (Fs outer) π₀ s₀ π s) : (ground outer π₀ s₀.heap).StaysIn (ground cx.stack π s.heap) := by
  intro b o e
  have h1 := of_hideAll _ e
  have hn : b ∉ π₀ ++ Fs outer := fun hm => by rw [hideAll_none _ hm] at e; cases e
  rw [List.mem_append, not_or] at hn
  refine hideAll_get _ (x.ext.keep b o h1 hn.1 hn.2) ?_
  rw [List.mem_append, not_or, f.fs, List.mem_cons, not_or]
  exact ⟨x.notin h1 hn.1, (fun q => by subst q; rw [f.fresh] at h1; cases h1), hn.2⟩

noncomputable def FlR (am : Amb) (π : List Addr) (h : Heap) : Fl → Flow → Prop
  | .next, f => f = .next
  | .ret v, f => ∃ x, f = .ret x ∧ VR am π h v x

/-- how a statement ends, told of the heap; since the call's start -/
inductive SOk (am : Amb) (cx : Cx) (outer : List Env) (q : Bool) (A : Around) (π₀ : List Addr) (s₀ : Shared) (G : List Addr → Shared → Prop) (r : RS) (f : Flow) (s' : Shared) : Prop
  | mk (fl : Fl) (ρ' : List V) (H' : H) (π' : List Addr) (h1 : r = .ok fl ρ' H') (h2 : Step (Fs outer) π₀ s₀ π' s') (h3 : St am q cx ρ' π' H' A s') (h4 : q = true → NoExc ρ') (h5 : FlR am π' s'.heap fl f) (h6 : G π' s')
inductive SEr (am : Amb) (cx : Cx) (outer : List Env) (q : Bool) (A : Around) (π₀ : List Addr) (s₀ : Shared) (r : RS) (x : Value) (s' : Shared) : Prop
  | mk (c : String) (ρ' : List V) (H' : H) (π' : List Addr) (e C : Addr) (fl : Option Value) (h1 : r = .err c ρ' H') (h2 : x = .ref e) (h3 : am.mg (Str.ofString c) = some (.ref C)) (h4 : Step (Fs outer) π₀ s₀ π' s') (h5 : St am q cx ρ' π' H' A s') (h6 : q = true → NoExc ρ') (h7 : XAt (ground outer π₀ s₀.heap) s'.heap e (.ref C) fl)

/-- a statement's walk -/
noncomputable def SP (am : Amb) (cx : Cx) (outer : List Env) (q : Bool) (A : Around) (π₀ : List Addr) (s₀ : Shared) (G : List Addr → Shared → Prop) (T : PT Flow) (r : RS) (s : Shared) : Prop :=
  r = .bad ∨ T (SOk am cx outer q A π₀ s₀ G r) (SEr am cx outer q A π₀ s₀ r) s

section
variable {am : Amb} {n : Nat} {q : Bool} {F : Fn} {c : Ck} {cx : Cx} {ρ : List V} {A : Around} {res : List Addr} {outer : List Env} {π₀ : List Addr} {s₀ : Shared} {G : List Addr → Shared → Prop} {π : List Addr} {Hc : H} {s : Shared}

/-- what a walk through statements stands on -/
structure Stm (am : Amb) (n : Nat) (q : Bool) (F : Fn) (c : Ck) (cx : Cx) (A : Around) (res : List Addr) (outer : List Env) (π₀ : List Addr) (s₀ : Shared) (G : List Addr → Shared → Prop) (ρ : List V) (π : List Addr) (Hc : H) (s : Shared) : Prop where
  b : Base am n q F c cx ρ A
  f : Frm (am.at res) cx outer s₀
  go : Step (Fs outer) π₀ s₀ π s
  st : St (am.at res) q cx ρ π Hc A s
  low : am.B.StaysIn (ground outer π₀ s₀.heap)
  g : G π s
  gk : ∀ π s π' s', G π s → Mv res (Fs cx.stack) π s π' s' → G π' s'

theorem Base.set {ρ' : List V} (b : Base am n q F c cx ρ A) (h : q = true → NoExc ρ') : Base am n q F c cx ρ' A := ⟨b.ok, b.fn, b.ck, b.cxk, b.as, h⟩

theorem Stm.step (x : Stm am n q F c cx A res outer π₀ s₀ G ρ π Hc s) {π' : List Addr} {H' : H} {s' : Shared} (y : Step (Fs cx.stack) π s π' s') (hr : HR (am.at res) cx.stack π' H' s'.heap) : Stm am n q F c cx A res outer π₀ s₀ G ρ π' H' s' :=
  ⟨x.b, x.f, x.go.inn x.f y, x.st.step y hr, x.low, x.gk _ _ _ _ x.g (.of y), x.gk⟩

theorem sbind {α β : Type} {m : Sem α} {r : R β} {Rel : List Addr → Heap → β → α → Prop} {g : β → H → RS} {T : α → PT Flow} (x : Stm am n q F c cx A res outer π₀ s₀ G ρ π Hc s) (h1 : JAt (am.at res) cx.stack A m r Rel π s)
    (h2 : ∀ a b H' π' s', r = .ok b H' → Stm am n q F c cx A res outer π₀ s₀ G ρ π' H' s' → Rel π' s'.heap b a → SP (am.at res) cx outer q A π₀ s₀ G (T a) (g b H') s') :
    SP (am.at res) cx outer q A π₀ s₀ G (fun Q E s => wpAny am.M A m (fun a s₁ => T a Q E s₁) E s) (r.st ρ g) s := by
  rcases h1 with rfl | h1
  · exact .inl rfl
  · cases r with
    | bad => exact .inl rfl
    | err d H' =>
      refine .inr (wpAny_mono h1 (fun a s' h => ?_) fun e s' h => ?_)
      · obtain ⟨_, _, _, h, _⟩ := h; cases h
      · refine hold fun _ k_ => ?_
        obtain ⟨c', H'', π', e', C, fl, h, h2, h3, h4, h5, h6⟩ := h
        refine k_ ?_
        cases h
        have y := x.step h4 h5
        exact ⟨d, ρ, H', π', e', C, fl, rfl, h2, h3, y.go, y.st, x.b.ne, h6.mono (ground_in x.f x.go)⟩
    | ok b H' =>
      by_cases hb : g b H' = .bad
      · exact .inl hb
      · refine .inr (wpAny_mono h1 (fun a s' h => ?_) fun e s' h => ?_)
        · refine hold fun _ k_ => ?_
          obtain ⟨b', H'', π', h, h3, h4, h5⟩ := h
          refine k_ ?_
          cases h
          rcases h2 a b H' π' s' rfl (x.step h3 h4) h5 with h6 | h6
          · exact absurd h6 hb
          · exact h6
        · obtain ⟨_, _, _, _, _, _, h, _⟩ := h; cases h

theorem SP.rule {T T' : PT Flow} {r : RS} {am : Amb} (h : SP am cx outer q A π₀ s₀ G T r s) (k : ∀ Q E, T Q E s → T' Q E s) : SP am cx outer q A π₀ s₀ G T' r s := by
  rcases h with h | h
  · exact .inl h
  · exact .inr (k _ _ h)

/-- a name's new value -/
theorem assign_ok (x : Stm am n q F c cx A res outer π₀ s₀ G ρ π Hc s) {y : Str} {i : Nat} {v : V} {xv : Value} (hv : VR (am.at res) π s.heap v xv) (hy : c.var y i = true) (hk : c.names.lookup y ≠ some .free) (hinj : (c.ctx.map (·.2)).Nodup) {Q : Unit → Shared → Prop} {E : Value → Shared → Prop}
    (h : ∀ s', Stm am n q F c cx A res outer π₀ s₀ G (ρ.set i v) π Hc s' → (∀ C, s₀.heap.get? C = none → C ≠ cx.env.locals → (∀ z d, cx.env.cells.lookup z = some d → d ≠ C) → ∀ o, s.heap.get? C = some o → s'.heap.get? C = some o) → (∀ b o, b ∉ (am.at res).res → s.heap.get? b = some o → s'.heap.get? b = some o) → Q () s') :
    wpAny am.M A (storeName cx.env y xv) Q E s := by
  unfold Ck.var at hy
  simp only [Bool.and_eq_true, beq_iff_eq, Bool.not_eq_true'] at hy
  refine hold fun _ k_ => ?_
  obtain ⟨⟨⟨h1, h2⟩, h3⟩, h4⟩ := hy
  refine k_ ?_
  have ne' : q = true → NoExc (ρ.set i v) := fun hq => (x.b.ne hq).set hv.noexc
  -- one slot, one name
  have uniq : ∀ z, cx.ctx.lookup z = some i → z = y := by
    intro z hz
    rw [x.b.ck.ctx] at hz
    have a1 := lookup_mem hz
    have a2 := lookup_mem h1
    have : ∀ (l : List (Str × Nat)), (l.map (·.2)).Nodup → (z, i) ∈ l → (y, i) ∈ l → z = y := by
      intro l
      induction l with
      | nil => intro _ h _; simp at h
      | cons p l ih =>
        intro hn hz hy
        rw [List.map_cons, List.nodup_cons] at hn
        rcases List.mem_cons.mp hz with hz1 | hz2
        · rcases List.mem_cons.mp hy with hy1 | hy2
          · rw [← hz1] at hy1; cases hy1; rfl
          · exact absurd (List.mem_map.mpr ⟨(y, i), hy2, by rw [← hz1]⟩ : p.2 ∈ l.map (·.2)) hn.1
        · rcases List.mem_cons.mp hy with hy1 | hy2
          · exact absurd (List.mem_map.mpr ⟨(z, i), hz2, by rw [← hy1]⟩ : p.2 ∈ l.map (·.2)) hn.1
          · exact ih hn.2 hz2 hy2
    exact this _ hinj a1 a2
  have excOff : ∀ {d : String} {a C : Addr} {h' : Heap}, ExcAt (am.at res) s.heap d a → (∃ o, s.heap.get? C = some o ∧ ∀ us, o.data ≠ .fields us) → Poke C s.heap h' → ExcAt (am.at res) h' d a := by
    intro d a C h' e hC p
    refine hold fun _ k_ => ?_
    obtain ⟨C', o, vs, e1, e2, e3, e4, e5, e6⟩ := e
    refine k_ ?_
    exact ⟨C', o, vs, e1, p a o (fun q => (ne_nf hC e2 e4) q.symm) e2, e3, e4, e5, e6⟩
  have hdOff : ∀ {C : Addr} {h' : Heap}, (∃ o, s.heap.get? C = some o ∧ ∀ us, o.data ≠ .fields us) → Poke C s.heap h' → Hd q A π (Fs cx.stack) h' := by
    intro C h' hC p
    have e := x.st.hd
    unfold Hd at e ⊢
    split
    · rename_i hq; rw [if_pos hq] at e; exact e
    · rename_i hq
      rw [if_neg hq] at e
      refine hold fun _ k_ => ?_
      obtain ⟨he, o, vs, e1, e2, e3, e4, e5, e6⟩ := e
      refine k_ ?_
      exact ⟨he, o, vs, e1, e2, e3, p he o (fun q => (ne_nf hC e4 e5) q.symm) e4, e5, e6⟩
  have main : ∀ (C : Addr) (h' : Heap) (tk : Nat), C ∈ (am.at res).res → (am.at res).B.get? C = none → C ∉ π → s₀.heap.get? C = none → (∃ o, s.heap.get? C = some o ∧ ∀ us, o.data ≠ .fields us) → (∃ o, h'.get? C = some o ∧ ∀ us, o.data ≠ .fields us) → Poke C s.heap h' →
      ER (am.at res) cx (ρ.set i v) π h' → Stm am n q F c cx A res outer π₀ s₀ G (ρ.set i v) π Hc { s with heap := h', toks := tk } := by
    intro C h' tk c1 c2 c3 c4 c5 c6 p er
    exact ⟨x.b.set ne', x.f, x.go.poke c4 p, ⟨x.st.hr.freed c1 c2 c3 p c6, er, hdOff c5 p⟩, x.low, x.gk _ _ _ _ x.g (Mv.poke (.of (Step.refl _ _ _)) (.inl ⟨c1, let ⟨o, ho, _⟩ := c6; ⟨o, ho⟩⟩) p), x.gk⟩
  have srOff : ∀ {C : Addr} {h' : Heap} {w : V} {u : Value}, C ∈ (am.at res).res → (∃ o, s.heap.get? C = some o ∧ ∀ us, o.data ≠ .fields us) → Poke C s.heap h' → SR (am.at res) π s.heap w u → SR (am.at res) π h' w u := by
    intro C h' w u c1 c5 p e
    rcases e with e | ⟨d, a, e1, e2, e3, e4⟩
    · exact .inl (e.free fun b o hb z => p b o (fun q => hb (q ▸ c1)) z)
    · exact .inr ⟨d, a, e1, e2, e3, excOff e4 c5 p⟩
  have hvis : cx.env.kindOf y = some .local ∨ cx.env.kindOf y = some .cell := by
    rw [kind_is x.b.ck]
    unfold visible at h2
    simp only [Bool.or_eq_true, beq_iff_eq] at h2
    rcases h2 with (h2 | h2) | h2
    · exact .inl h2
    · exact .inr h2
    · exact absurd h2 hk
  have hlt : ∀ w, (ρ.set i v)[i]? = some w → w = v := fun w hw => by
    have hl : i < ρ.length := by have := (List.getElem?_eq_some_iff.mp hw).1; simpa using this
    rw [List.getElem?_set_self hl] at hw; cases hw; rfl
  have er := x.st.er
  rcases hvis with hkl | hkc
  · obtain ⟨m, hm⟩ := er.ns
    refine wpAny_storeName_local hkl hm (fun h' hn' sb => ?_) (by simp [x.b.cxk.kind])
    have p : Poke cx.env.locals s.heap h' := fun b o hb e => sb.extBut b o hb e
    refine h _ (main cx.env.locals h' (s.toks + 1) x.f.res x.f.base er.locOff x.f.fresh (Ns.nf hm) (Ns.nf hn') p ?_) (fun C _ hC _ o ho => p C o hC ho) (fun b o hb e => p b o (fun q => hb (q ▸ x.f.res)) e)
    refine ⟨⟨_, hn'⟩, er.locOff, fun z d hd => ?_, er.apart, fun z j w e1 e2 e3 e4 => ?_⟩
    · refine hold fun _ k_ => ?_
      obtain ⟨a1, a2, u, o, ho, r⟩ := er.cellOff z d hd
      refine k_ ?_
      exact ⟨a1, a2, u, o, p d o a2 ho, r⟩
    · by_cases hj : j = i
      · subst hj
        have := uniq z e1; subst this
        have := hlt w e2; subst this
        exact ⟨xv, .inl ⟨hkl, _, hn', by simp⟩, .inl (hv.free fun b o hb z => p b o (fun q => hb (q ▸ x.f.res)) z)⟩
      · have hz : z ≠ y := fun q => by
          subst q; rw [x.b.ck.ctx, h1] at e1; cases e1; exact hj rfl
        rw [List.getElem?_set_ne (Ne.symm hj)] at e2
        obtain ⟨u, e5, e6⟩ := er.var z j w e1 e2 e3 e4
        refine ⟨u, ?_, srOff x.f.res (Ns.nf hm) p e6⟩
        rcases e5 with ⟨k, m', e7, e8⟩ | ⟨k, d, e7, o, ho, r⟩
        · refine .inl ⟨k, _, hn', ?_⟩
          have hmm : m z = m' z := by
            refine hold fun _ k_ => ?_
            obtain ⟨o1, es1, ep1, a1, a2, a3, a4⟩ := hm
            refine k_ ?_
            refine hold fun _ k_ => ?_
            obtain ⟨o2, es2, ep2, b1, b2, b3, b4⟩ := e7
            refine k_ ?_
            rw [a1] at b1; cases b1; rw [a2] at b2; cases b2
            rw [← a4 z, ← b4 z]
          simp only [hz, if_false]
          rw [hmm]; exact e8
        · exact .inr ⟨k, d, e7, o, p d o (er.cellOff z d e7).2.1 ho, r⟩
  · obtain ⟨d, hd⟩ := x.b.cxk.clos y (.inl hkc)
    refine hold fun _ k_ => ?_
    obtain ⟨a1, a2, u, hcell⟩ := er.cellOff y d hd
    refine k_ ?_
    obtain ⟨f1, f2, f3⟩ := x.f.cell y d hd
    have nfc : ∀ {h : Heap} {u : Option Value}, h.IsCell d u → ∃ o, h.get? d = some o ∧ ∀ us, o.data ≠ .fields us := fun {h u} hc => let ⟨o, ho, hdd⟩ := hc; ⟨o, ho, fun us q => by rw [hdd] at q; cases q⟩
    refine wpAny_storeName_cell x.b.cxk.kind hkc hd hcell fun h' hc' sb => ?_
    have p : Poke d s.heap h' := fun b o hb e => sb.extBut b o hb e
    refine h _ (main d h' s.toks f1 f2 a1 f3 (nfc hcell) (nfc hc') p ?_) (fun C _ _ hC o ho => p C o (fun q => hC y d hd q.symm) ho) (fun b o hb e => p b o (fun q => hb (q ▸ f1)) e)
    obtain ⟨m, hm⟩ := er.ns
    refine ⟨⟨m, Ns.at hm fun o e => p _ o (Ne.symm a2) e⟩, er.locOff, fun z d' hd' => ?_, er.apart, fun z j w e1 e2 e3 e4 => ?_⟩
    · refine hold fun _ k_ => ?_
      obtain ⟨b1, b2, u', o, ho, r⟩ := er.cellOff z d' hd'
      refine k_ ?_
      by_cases hdd : d' = d
      · subst hdd; exact ⟨b1, b2, _, hc'⟩
      · exact ⟨b1, b2, u', o, p d' o hdd ho, r⟩
    · by_cases hj : j = i
      · subst hj
        have := uniq z e1; subst this
        have := hlt w e2; subst this
        exact ⟨xv, .inr ⟨.inl hkc, d, hd, hc'⟩, .inl (hv.free fun b o hb z => p b o (fun q => hb (q ▸ f1)) z)⟩
      · have hz : z ≠ y := fun q => by
          subst q; rw [x.b.ck.ctx, h1] at e1; cases e1; exact hj rfl
        rw [List.getElem?_set_ne (Ne.symm hj)] at e2
        obtain ⟨u', e5, e6⟩ := er.var z j w e1 e2 e3 e4
        refine ⟨u', ?_, srOff f1 (nfc hcell) p e6⟩
        rcases e5 with ⟨k, m', e7, e8⟩ | ⟨k, d', e7, o, ho, r⟩
        · exact .inl ⟨k, m', Ns.at e7 fun o e => p _ o (Ne.symm a2) e, e8⟩
        · have hdd : d' ≠ d := fun q => hz (er.apart z y d (q ▸ e7) hd)
          exact .inr ⟨k, d', e7, o, p d' o hdd ho, r⟩
end

end Mine

namespace Mine
open PySem PySem.W PyProof.Rows

theorem via_sub {am am' : Amb} (k : ∀ a, a ∈ am'.res → a ∈ am.res) {π : List Addr} {h : Heap} : Via am am' π π h h := ⟨fun a o ho _ h1 h2 => ⟨⟨o.slots, ho⟩, h1, fun q => h2 (k a q)⟩, fun _ _ e => e⟩
theorem VR.sub {am am' : Amb} (k : ∀ a, a ∈ am'.res → a ∈ am.res) {π : List Addr} {h : Heap} {v : V} {y : Value} (e : VR am π h v y) : VR am' π h v y := e.via (via_sub k)
theorem VRs.sub {am am' : Amb} (k : ∀ a, a ∈ am'.res → a ∈ am.res) {π : List Addr} {h : Heap} {vs : List V} {ys : List Value} (e : VRs am π h vs ys) : VRs am' π h vs ys := e.via (via_sub k)

theorem HR.sub {am : Amb} {r r' : List Addr} (k : ∀ a, a ∈ r' → a ∈ r) {stack : List Env} {π : List Addr} {Hc : H} {h : Heap} (x : HR (am.at r) stack π Hc h) : HR (am.at r') stack π Hc h :=
  ⟨x.base, x.frames, x.len, x.nodup, fun a ha => x.res a (k a ha), x.off, fun i c a h1 h2 => by
    have := x.cell i c a h1 h2
    cases c with
    | list vs => obtain ⟨xs, e1, e2, e3⟩ := this; exact ⟨xs, e1, e2, e3.sub k⟩
    | dict es => exact this⟩

section
variable {am : Amb} {n : Nat} {q : Bool} {F : Fn} {c : Ck}

noncomputable def SJ (am : Amb) (n : Nat) (q : Bool) (F : Fn) (c : Ck) (p : PS) (x : Stmt) : Prop := ∀ ⦃cx : Cx⦄ ⦃ρ : List V⦄ ⦃A : Around⦄ ⦃res : List Addr⦄ ⦃outer : List Env⦄ ⦃π₀ : List Addr⦄ ⦃s₀ : Shared⦄ ⦃G : List Addr → Shared → Prop⦄ ⦃π : List Addr⦄ ⦃Hc : H⦄ ⦃s : Shared⦄,
  Stm am n q F c cx A res outer π₀ s₀ G ρ π Hc s → SP (am.at res) cx outer q A π₀ s₀ G (fun Q E s => wpAny am.M A (exec x cx.env) Q E s) (exS q F p ρ Hc) s
noncomputable def SsJ (am : Amb) (n : Nat) (q : Bool) (F : Fn) (c : Ck) (ps : List PS) (xs : List Stmt) : Prop := ∀ ⦃cx : Cx⦄ ⦃ρ : List V⦄ ⦃A : Around⦄ ⦃res : List Addr⦄ ⦃outer : List Env⦄ ⦃π₀ : List Addr⦄ ⦃s₀ : Shared⦄ ⦃G : List Addr → Shared → Prop⦄ ⦃π : List Addr⦄ ⦃Hc : H⦄ ⦃s : Shared⦄,
  Stm am n q F c cx A res outer π₀ s₀ G ρ π Hc s → SP (am.at res) cx outer q A π₀ s₀ G (fun Q E s => wpAny am.M A (execs xs cx.env) Q E s) (exSs q F ps ρ Hc) s

theorem SOk.here {cx : Cx} {ρ : List V} {A : Around} {res : List Addr} {outer : List Env} {π₀ : List Addr} {s₀ : Shared} {G : List Addr → Shared → Prop} {π : List Addr} {Hc : H} {s : Shared} (x : Stm am n q F c cx A res outer π₀ s₀ G ρ π Hc s) : SOk (am.at res) cx outer q A π₀ s₀ G (.ok .next ρ Hc) .next s :=
  ⟨.next, ρ, Hc, π, rfl, x.go, x.st, x.b.ne, rfl, x.g⟩

theorem ss_nil : SsJ am n q F c [] [] := fun cx ρ A res outer π₀ s₀ G π Hc s x => by
  simp only [qSs_1, qSs_2]
  exact .inr (wpAny_execs_nil (SOk.here x))
theorem sp_cons {p : PS} {ps : List PS} {y : Stmt} {ys : List Stmt} {cx : Cx} {ρ : List V} {A : Around} {res : List Addr} {outer : List Env} {π₀ : List Addr} {s₀ : Shared} {G : List Addr → Shared → Prop} {π : List Addr} {Hc : H} {s : Shared} (x : Stm am n q F c cx A res outer π₀ s₀ G ρ π Hc s)
    (h1 : SP (am.at res) cx outer q A π₀ s₀ G (fun Q E s => wpAny am.M A (exec y cx.env) Q E s) (exS q F p ρ Hc) s)
    (h2 : ∀ ρ' π' H' s', Stm am n q F c cx A res outer π₀ s₀ G ρ' π' H' s' → SP (am.at res) cx outer q A π₀ s₀ G (fun Q E s => wpAny am.M A (execs ys cx.env) Q E s) (exSs q F ps ρ' H') s') :
    SP (am.at res) cx outer q A π₀ s₀ G (fun Q E s => wpAny am.M A (execs (y :: ys) cx.env) Q E s) (exSs q F (p :: ps) ρ Hc) s := by
  rw [qSs_2]
  rcases h1 with h | h
  · exact .inl (by rw [h]; rfl)
  · cases hr : exS q F p ρ Hc with
    | bad => exact .inl rfl
    | err d ρ' H' =>
      rw [hr] at h
      refine .inr (wpAny_execs_cons (wpAny_mono h (fun f s' z => ?_) fun e s' z => z))
      obtain ⟨_, _, _, _, z, _⟩ := z; cases z
    | ok fl ρ' H' =>
      rw [hr] at h
      cases fl with
      | ret v =>
        refine .inr (wpAny_execs_cons (wpAny_mono h (fun f s' z => ?_) fun e s' z => z))
        refine hold fun _ k_ => ?_
        obtain ⟨fl, ρ2, H2, π2, z1, z2, z3, z4, z5, zg⟩ := z
        refine k_ ?_
        cases z1
        obtain ⟨xv, rfl, z6⟩ := z5
        exact ⟨_, _, _, _, rfl, z2, z3, z4, ⟨xv, rfl, z6⟩, zg⟩
      | next =>
        rw [RS.then_next]
        by_cases hb : exSs q F ps ρ' H' = .bad
        · exact .inl hb
        · refine .inr (wpAny_execs_cons (wpAny_mono h (fun f s' z => ?_) fun e s' z => ?_))
          · refine hold fun _ k_ => ?_
            obtain ⟨fl, ρ2, H2, π2, z1, z2, z3, z4, z5, zg⟩ := z
            refine k_ ?_
            cases z1
            cases z5
            rcases h2 ρ' π2 H' s' ⟨x.b.set z4, x.f, z2, z3, x.low, zg, x.gk⟩ with h3 | h3
            · exact absurd h3 hb
            · exact h3
          · obtain ⟨_, _, _, _, _, _, _, z, _⟩ := z; cases z
theorem ss_cons {p : PS} {ps : List PS} {y : Stmt} {ys : List Stmt} (h1 : SJ am n q F c p y) (h2 : SsJ am n q F c ps ys) : SsJ am n q F c (p :: ps) (y :: ys) := fun cx ρ A res outer π₀ s₀ G π Hc s x => sp_cons x (h1 x) fun _ _ _ _ x' => h2 x'

theorem s_pass {p : Pos} : SJ am n q F c .pass (.Pass p) := fun cx ρ A res outer π₀ s₀ G π Hc s x => by
  simp only [qS_1, qS_2, qS_3, qS_4, qS_5, qS_6, qS_7, qS_8, qS_9, qS_10, qS_11, qS_12, qS_13, qS_14]
  exact .inr (wpAny_Pass (SOk.here x))

theorem s_ret {e : PE} {y : Expr} {p : Pos} (h : EJ am n q F c e y) : SJ am n q F c (.ret e) (.Return (some y) p) := fun cx ρ A res outer π₀ s₀ G π Hc s x => by
  simp only [qS_1, qS_2, qS_3, qS_4, qS_5, qS_6, qS_7, qS_8, qS_9, qS_10, qS_11, qS_12, qS_13, qS_14]
  refine SP.rule (T := fun Q E s => wpAny am.M A (eval y cx.env) (fun v s₁ => Q (.ret v) s₁) E s) (sbind x (h x.b x.st) fun a b H' π' s' _ x' hv => .inr ⟨.ret b, ρ, H', π', rfl, x'.go, x'.st, x'.b.ne, ⟨a, rfl, hv⟩, x'.g⟩) fun Q E h => wpAny_Return_some h

theorem s_if {t : PE} {a b : List PS} {y : Expr} {ys zs : List Stmt} {p : Pos} (ht : TJ am n q F c t y) (ha : SsJ am n q F c a ys) (hb : SsJ am n q F c b zs) : SJ am n q F c (.ifs t a b) (.If y ys zs p) := fun cx ρ A res outer π₀ s₀ G π Hc s x => by
  have e : exS q F (.ifs t a b) ρ Hc = (tr (evE q F ρ t Hc)).st ρ fun v h => if v then exSs q F a ρ h else exSs q F b ρ h := by
    simp only [qS_1, qS_2, qS_3, qS_4, qS_5, qS_6, qS_7, qS_8, qS_9, qS_10, qS_11, qS_12, qS_13, qS_14]
    cases evE q F ρ t Hc with
    | ok v h =>
      simp only [tr, R.bind_ok, R.st_ok]
      cases truthy v with
      | none => rfl
      | some u => cases u <;> rfl
    | _ => rfl
  rw [e]
  refine SP.rule (T := fun Q E s => wpAny am.M A (isTrue y cx.env (eval y cx.env)) (fun v s₁ => if v then wpAny am.M A (execs ys cx.env) Q E s₁ else wpAny am.M A (execs zs cx.env) Q E s₁) E s) (sbind x (ht x.b x.st) fun v b' H' π' s' _ x' hv => ?_) fun Q E h => wpAny_If h
  unfold BR at hv; subst hv
  cases b' with
  | true => exact ha x'
  | false => exact hb x'

theorem not_interactive {cx : Cx} (h : CxOK cx) : interactive cx.env = false := by
  unfold interactive; simp [h.kind]

noncomputable def isCall (e : Expr) : Bool := @Expr.casesOn (fun _ => Bool) e (fun _ _ _ => false) (fun _ _ _ => false) (fun _ _ _ _ => false) (fun _ _ _ => false) (fun _ _ _ _ => false) (fun _ _ _ _ => false) (fun _ _ _ => false) (fun _ _ _ => false) (fun _ _ _ _ => false) (fun _ _ _ _ => false) (fun _ _ _ _ _ => false) (fun _ _ _ _ => false) (fun _ _ => false) (fun _ _ => false) (fun _ _ => false) (fun _ _ _ _ => false) (fun _ _ _ _ => true) (fun _ _ _ _ => false) (fun _ _ => false) (fun _ _ _ => false) (fun _ _ _ => false) (fun _ _ _ => false) (fun _ _ => false) (fun _ _ => false) (fun _ _ => false) (fun _ _ _ => false) (fun _ _ _ _ => false)
theorem s_expr {e : PE} {y : Expr} {p : Pos} (hc : isCall y = true) (h : EJ am n q F c e y) : SJ am n q F c (.expr e) (.Expr y p) := fun cx ρ A res outer π₀ s₀ G π Hc s x => by
  simp only [qS_1, qS_2, qS_3, qS_4, qS_5, qS_6, qS_7, qS_8, qS_9, qS_10, qS_11, qS_12, qS_13, qS_14]
  refine SP.rule (T := fun Q E s => wpAny am.M A (eval y cx.env) (fun v s₁ => match v with | .ref _ => False | _ => Q .next s₁) E s) (sbind x (h x.b x.st) fun a b H' π' s' _ x' hv => ?_) fun Q E h => wpAny_Expr h (not_interactive x.b.cxk) (by cases y <;> first | rfl | exact noB hc)
  cases b with
  | none => simp only [VR] at hv; subst hv; exact .inr (SOk.here x')
  | _ => exact .inl rfl

/-- a comprehension, its store taken into it -/
noncomputable def isComp (e : Expr) : Bool := @Expr.casesOn (fun _ => Bool) e (fun _ _ _ => false) (fun _ _ _ => false) (fun _ _ _ _ => false) (fun _ _ _ => false) (fun _ _ _ _ => false) (fun _ _ _ _ => false) (fun _ _ _ => false) (fun _ _ _ => false) (fun _ _ _ _ => true) (fun _ _ _ _ => true) (fun _ _ _ _ _ => true) (fun _ _ _ _ => false) (fun _ _ => false) (fun _ _ => false) (fun _ _ => false) (fun _ _ _ _ => false) (fun _ _ _ _ => false) (fun _ _ _ _ => false) (fun _ _ => false) (fun _ _ _ => false) (fun _ _ _ => false) (fun _ _ _ => false) (fun _ _ => false) (fun _ _ => false) (fun _ _ => false) (fun _ _ _ => false) (fun _ _ _ _ => false)

theorem swaps_plain {y : Expr} (h : isComp y = false) (t : Option Expr) (l : Nat) (env : Env) : swapsWith y t l env = pure false := by
  cases y <;> first | rfl | exact noB h.symm

theorem s_asg_plain {i : Nat} {e : PE} {y : Expr} {v : Str} {p p' : Pos} (hv : c.var v i = true) (hk : c.names.lookup v ≠ some .free) (hinj : (c.ctx.map (·.2)).Nodup) (h : EJ am n q F c e y)
    {cx : Cx} {ρ : List V} {A : Around} {res : List Addr} {outer : List Env} {π₀ : List Addr} {s₀ : Shared} {G : List Addr → Shared → Prop} {π : List Addr} {Hc : H} {s : Shared} (x : Stm am n q F c cx A res outer π₀ s₀ G ρ π Hc s) (hs : swapsWith y (some (.Name v p')) p.line cx.env = pure false) :
    SP (am.at res) cx outer q A π₀ s₀ G (fun Q E s => wpAny am.M A (exec (.Assign [.Name v p'] y p) cx.env) Q E s) (exS q F (.asg i e) ρ Hc) s := by
  simp only [qS_1, qS_2, qS_3, qS_4, qS_5, qS_6, qS_7, qS_8, qS_9, qS_10, qS_11, qS_12, qS_13, qS_14]
  refine SP.rule (T := fun Q E s => wpAny am.M A (eval y cx.env) (fun w s₁ => wpAny am.M A (storeName cx.env v w) (fun _ => Q .next) E s₁) E s) (sbind x (h x.b x.st) fun a b H' π' s' _ x' hw => ?_) fun Q E h => wpAny_Assign_Name h hs
  exact .inr (assign_ok x' hw hv hk hinj fun s'' x'' _ _ => SOk.here x'')
end

end Mine

namespace Mine
open PySem PySem.W PyProof.Rows

/-- the targets of an assignment to several names -/
noncomputable def ckTg (c : Ck) : List Nat → List Expr → Bool
  | [], ts => ts.isEmpty
  | i :: is, ts => (match ts with | t :: ts => (xName t).any (fun v => c.var v i && c.names.lookup v != some .free) && ckTg c is ts | [] => false)

section
variable {am : Amb} {n : Nat} {q : Bool} {F : Fn} {c : Ck}

theorem tg_cons {i : Nat} {is : List Nat} {ts : List Expr} (h : ckTg c (i :: is) ts = true) : ∃ v p ts', ts = .Name v p :: ts' ∧ c.var v i = true ∧ c.names.lookup v ≠ some .free ∧ ckTg c is ts' = true := by
  cases ts with
  | nil => cases h
  | cons t ts =>
    obtain ⟨h1, h2⟩ := Bool.and_eq_true_iff.mp (show ((xName t).any (fun v => c.var v i && c.names.lookup v != some .free) && ckTg c is ts) = true from h)
    obtain ⟨v, h3, h4⟩ := any_inv h1
    obtain ⟨p, rfl⟩ := xName_inv h3
    simp only [Bool.and_eq_true, bne_iff_ne, ne_eq] at h4
    exact ⟨v, p, ts, rfl, h4.1, h4.2, h2⟩

theorem tg_each {env : Env} : ∀ {is : List Nat} {ts : List Expr}, ckTg c is ts = true → (assignEach ts env).length = is.length ∧ (assignEach ts env).findIdx? (·.1) = none
  | [], ts, h => by
    cases ts with
    | nil => exact ⟨rfl, rfl⟩
    | cons _ _ => cases h
  | i :: is, ts, h => by
    obtain ⟨v, p, ts', rfl, _, _, h4⟩ := tg_cons h
    obtain ⟨a, b⟩ := tg_each (env := env) h4
    refine ⟨congrArg (· + 1) a, ?_⟩
    show List.findIdx? (·.1) ((false, assign (.Name v p) env) :: assignEach ts' env) = none
    rw [List.findIdx?_cons, b]; rfl

theorem setAll_len : ∀ {is : List Nat} {vs ρ ρ' : List V}, setAll ρ is vs = some ρ' → is.length = vs.length
  | [], [], _, _, _ => rfl
  | _ :: is, _ :: vs, ρ, _, h => congrArg (· + 1) (setAll_len (is := is) (vs := vs) h)

variable {cx : Cx} {A : Around} {res : List Addr} {outer : List Env} {π₀ : List Addr} {s₀ : Shared} {G : List Addr → Shared → Prop} {π : List Addr} {Hc : H}

theorem asgEach_ok (hinj : (c.ctx.map (·.2)).Nodup) {Q : Unit → Shared → Prop} {E : Value → Shared → Prop} {ρ' : List V} (hQ : ∀ s', Stm am n q F c cx A res outer π₀ s₀ G ρ' π Hc s' → Q () s') :
    ∀ {is : List Nat} {ts : List Expr} {vs : List V} {xs : List Value} {ρ : List V} {s : Shared}, ckTg c is ts = true → Stm am n q F c cx A res outer π₀ s₀ G ρ π Hc s → VRs (am.at res) π s.heap vs xs → setAll ρ is vs = some ρ' →
      wpAny am.M A (assignInOrder ((assignEach ts cx.env).map (·.2)) xs) Q E s
  | [], ts, vs, xs, ρ, s, h, X, hv, hs => by
    cases vs with
    | cons _ _ => cases hs
    | nil =>
      cases hs
      cases ts with
      | nil => exact wpAny_pure (hQ s X)
      | cons _ _ => cases h
  | i :: is, ts, vs, xs, ρ, s, h, X, hv, hs => by
    cases vs with
    | nil => cases hs
    | cons v vs =>
      obtain ⟨x, xs', rfl, hx, hr⟩ := hv
      obtain ⟨y, p, ts', rfl, h1, h2, h3⟩ := tg_cons h
      show wpAny am.M A (do holding xs' (assign (.Name y p) cx.env x); assignInOrder ((assignEach ts' cx.env).map (·.2)) xs') Q E s
      refine wpAny_bind (wpAny_holding (wpAny_assign_Name (assign_ok X hx h1 h2 hinj fun s' X' _ hk => ?_)))
      exact asgEach_ok hinj hQ h3 X' (hr.free hk) hs

theorem s_asgT {is : List Nat} {e : PE} {y : Expr} {ts : List Expr} {k : Nat} {tp p : Pos} (hc : isComp y = false) (ht : xTup y = none) (hts : ckTg c is ts = true) (hinj : (c.ctx.map (·.2)).Nodup) (h : EJ am n true F c e y) :
    SJ am n true F c (.asgT is e) (.Assign [.Tuple ts k tp] y p) := fun cx ρ A res outer π₀ s₀ G π Hc s x => by
  have hs : swapsWithSole [.Tuple ts k tp] y p.line cx.env = pure false := (rfl : _ = swapsWith y (some (.Tuple ts k tp)) p.line cx.env).trans (swaps_plain hc _ _ _)
  have hw : swappedStores [.Tuple ts k tp] y cx.env = pure none := by
    cases y <;> first | rfl | exact (nomatch ht)
  refine SP.rule (T := fun Q E s => wpAny am.M A (eval y cx.env) (fun w s₁ => wpAny am.M A (assign (.Tuple ts k tp) cx.env w) (fun _ => Q .next) E s₁) E s)
    (r := (evE true F ρ e Hc).st ρ fun v h => match v with
      | .tup vs => (match setAll ρ is vs with
        | some ρ => .ok .next ρ h
        | Option.none => .bad)
      | _ => .bad) (sbind x (h x.b x.st) fun a b H' π' s' _ x' hw => ?_) fun Q E h => Assign_Tuple h hs hw
  cases b with
  | tup vs =>
    dsimp only
    cases hse : setAll ρ is vs with
    | none => exact .inl rfl
    | some ρ' =>
      obtain ⟨t, xs, rfl, _, htu, _, hvr⟩ := hw
      refine .inr (wpAny_assign_Tuple x'.st.hd htu ?_ (tg_each hts).2 fun h' hb => ?_)
      · rw [(tg_each hts).1, setAll_len hse, List.size_toArray, hvr.len]
      · have kk : ∀ b o, s'.heap.get? b = some o → h'.get? b = some o := fun b o e => hb b o (Nat.ne_of_lt (Heap.lt_size e)) e
        have y := x'.step (s' := { s' with heap := h' }) (Step.keeps kk) (x'.st.hr.keeps kk)
        exact asgEach_ok hinj (fun s'' z => SOk.here z) hts y (hvr.step (s' := { s' with heap := h' }) (Step.keeps (Fs := Fs cx.stack) kk)) hse
  | _ => exact .inl rfl
end

end Mine

namespace Mine
open PySem PySem.W PyProof.Rows

section
variable {am : Amb} {n : Nat} {q : Bool} {F : Fn} {c : Ck}

theorem SR.sub {am am' : Amb} (k : ∀ a, a ∈ am'.res → a ∈ am.res) (hmg : am'.mg = am.mg) (hB : am'.B = am.B) {π : List Addr} {h : Heap} {v : V} {x : Value} (e : SR am π h v x) : SR am' π h v x := by
  rcases e with e | ⟨d, a, h1, h2, h3, C, o, vs, e1, e2⟩
  · exact .inl (e.sub k)
  · exact .inr ⟨d, a, h1, h2, h3, C, o, vs, by rw [hmg]; exact e1, by rw [hB]; exact e2⟩

theorem ER.sub {am : Amb} {r r' : List Addr} (k : ∀ a, a ∈ r' → a ∈ r) {cx : Cx} {ρ : List V} {π : List Addr} {h : Heap} (e : ER (am.at r) cx ρ π h) : ER (am.at r') cx ρ π h :=
  ⟨e.ns, e.locOff, e.cellOff, e.apart, fun x i v h1 h2 h3 h4 => let ⟨v', h5, h6⟩ := e.var x i v h1 h2 h3 h4; ⟨v', h5, SR.sub (am := am.at r) (am' := am.at r') k rfl rfl h6⟩⟩

/-- a reserved thing that is none of the frame's changes -/
theorem ER.poke {am : Amb} {cx : Cx} {ρ : List V} {π : List Addr} {h h' : Heap} {C : Addr} (e : ER am cx ρ π h) (hC : C ∈ am.res) (p : Poke C h h') (hnf : ∃ o, h.get? C = some o ∧ ∀ us, o.data ≠ .fields us) (hl : cx.env.locals ≠ C) (hc : ∀ z d, cx.env.cells.lookup z = some d → d ≠ C) : ER am cx ρ π h' := by
  obtain ⟨m, hm⟩ := e.ns
  refine ⟨⟨m, Ns.at hm fun o z => p _ o hl z⟩, e.locOff, fun z d hd => ?_, e.apart, fun z j w e1 e2 e3 e4 => ?_⟩
  · refine hold fun _ k_ => ?_
    obtain ⟨a1, a2, u, o, ho, r⟩ := e.cellOff z d hd
    refine k_ ?_
    exact ⟨a1, a2, u, o, p d o (hc z d hd) ho, r⟩
  · obtain ⟨u, e5, e6⟩ := e.var z j w e1 e2 e3 e4
    refine ⟨u, ?_, ?_⟩
    · rcases e5 with ⟨k, m', e7, e8⟩ | ⟨k, d, e7, o, ho, r⟩
      · exact .inl ⟨k, m', Ns.at e7 fun o z => p _ o hl z, e8⟩
      · exact .inr ⟨k, d, e7, o, p d o (hc z d e7) ho, r⟩
    · rcases e6 with e6 | ⟨d, a, f1, f2, f3, C', o, vs, g1, g2, g3, g4, g5⟩
      · exact .inl (e6.free fun b o hb z => p b o (fun q => hb (q ▸ hC)) z)
      · exact .inr ⟨d, a, f1, f2, f3, C', o, vs, g1, p a o (fun q => (ne_nf hnf g2 g4) q.symm) g2, g3, g4, g5⟩

/-- what was not there at the start need not be named -/
theorem Mv.unhold {R Fs π π' : List Addr} {s s' : Shared} {C : Addr} (x : Mv (C :: R) Fs π s π' s') (hC : s.heap.get? C = none) : Mv R Fs π s π' s' := by
  have ne : ∀ {b o}, s.heap.get? b = some o → b ∉ R → b ∉ C :: R := fun {b o} e hb q => by
    rcases List.mem_cons.mp q with rfl | h
    · rw [hC] at e; cases e
    · exact hb h
  exact ⟨x.same, fun a o e h1 h2 h3 => x.keep a o e h1 h2 (ne e h3), fun a o e h1 h3 => x.slots a o e h1 (ne e h3), x.alive, x.grow⟩

theorem cell_in {am : Amb} {stack : List Env} {π π1 : List Addr} {s s' : Shared} {vs : List V} {H1 : H} {l : Addr} {xs : List Value} (h3 : vs.length ≤ 1000000) (h4 : s.heap.get? l = none) (h5 : l ∉ π1 ∧ l ∉ Fs stack ∧ am.B.get? l = none) (h6 : Step (Fs stack) π s π1 s') (h7 : HR (am.hold l) stack π1 H1 s'.heap)
    (h8 : PL s'.heap l xs) (h9 : VRs (am.hold l) π1 s'.heap vs xs) : Step (Fs stack) π s (π1 ++ [l]) s' ∧ HR am stack (π1 ++ [l]) (H1 ++ [.list vs]) s'.heap ∧ VR am (π1 ++ [l]) s'.heap (.ref H1.length) (.ref l) := by
  refine ⟨⟨h6.same, h6.ext, ?_⟩, ⟨h7.base, h7.frames, by simp [h7.len], ?_, h7.unhold.res, ?_, ?_⟩, ?_⟩
  · obtain ⟨δ, rfl, hδ⟩ := h6.grow
    refine ⟨δ ++ [l], by simp, fun a ha => ?_⟩
    rcases List.mem_append.mp ha with ha | ha
    · exact hδ a ha
    · rw [List.mem_singleton.mp ha]; exact h4
  · rw [List.nodup_append]
    exact ⟨h7.nodup, by simp, fun a ha b hb => by rw [List.mem_singleton.mp hb]; exact fun q => h5.1 (q ▸ ha)⟩
  · intro a ha
    rcases List.mem_append.mp ha with ha | ha
    · exact h7.off a ha
    · rw [List.mem_singleton.mp ha]; exact ⟨h5.2.2, h5.2.1⟩
  · intro i c a hi ha
    by_cases hlt : i < H1.length
    · rw [List.getElem?_append_left hlt] at hi
      rw [List.getElem?_append_left (by rw [h7.len]; exact hlt)] at ha
      have hc := h7.cell i c a hi ha
      cases c with
      | list ws => obtain ⟨ys, q1, q2, q3⟩ := hc; exact ⟨ys, q1, q2, q3.reserve.1⟩
      | dict es => exact hc
    · have hi' : i = H1.length := by
        have := (List.getElem?_eq_some_iff.mp hi).1
        simp only [List.length_append, List.length_singleton] at this
        omega
      subst hi'
      simp only [List.getElem?_concat_length, Option.some.injEq] at hi
      rw [← h7.len] at ha
      simp only [List.getElem?_concat_length, Option.some.injEq] at ha
      subst hi ha
      exact ⟨xs, h8, h3, h9.reserve.1⟩
  · simp only [VR]
    exact ⟨l, rfl, by rw [← h7.len]; simp⟩

noncomputable def asgFin (own : Bool) (i : Nat) (ρ : List V) (rs : List V) (Hf : H) : RS := if own then .ok .next (ρ.set i (.ref Hf.length)) (Hf ++ [.list rs]) else .ok .next (ρ.set i (.lst rs)) Hf
theorem asg_shape {F : Fn} {own : Bool} {i j : Nat} {elt : PE} {it : PIt} {cond : Option PE} {ρ : List V} {Hc : H} : exS true F (.asg i (if own then .own (.comp elt j it cond) else .comp elt j it cond)) ρ Hc = (evIt true F ρ it Hc).st ρ fun vs h =>
    match compL vs.2 (fun v h => evE true F (ρ.set j v) elt h) (fun v h => evC true F (ρ.set j v) cond h) vs.1 h with
    | .ok r h => if r.length ≤ 1000000 then asgFin own i ρ r h else .bad
    | _ => .bad := by
  simp only [qS_1, qS_2, qS_3, qS_4, qS_5, qS_6, qS_7, qS_8, qS_9, qS_10, qS_11, qS_12, qS_13, qS_14]
  have hc : evE true F ρ (.comp elt j it cond) Hc = (evIt true F ρ it Hc).bind fun vs h => match compL vs.2 (fun v h => evE true F (ρ.set j v) elt h) (fun v h => evC true F (ρ.set j v) cond h) vs.1 h with
    | .ok r h => R.opt (mkL r) h
    | _ => .bad := by first | (simp only [qE_1, qE_2, qE_3, qE_4, qE_5, qE_6, qE_7, qE_8, qE_9, qE_10, qE_11, qE_12, qE_13, qE_14, qE_15, qE_16, qE_17, qE_18, qE_19, qE_20, qE_21, qE_22, qE_23, qE_24, qE_25, qE_26, qE_27, qE_28, qE_29, qE_30, qE_31, qE_32, qE_33, qE_34, qE_35, qE_36, qE_37, qE_38]; rw [if_neg (by simp)]; done) | (simp only [qE_1, qE_2, qE_3, qE_4, qE_5, qE_6, qE_7, qE_8, qE_9, qE_10, qE_11, qE_12, qE_13, qE_14, qE_15, qE_16, qE_17, qE_18, qE_19, qE_20, qE_21, qE_22, qE_23, qE_24, qE_25, qE_26, qE_27, qE_28, qE_29, qE_30, qE_31, qE_32, qE_33, qE_34, qE_35, qE_36, qE_37, qE_38]; rw [if_neg (by simp)]; rfl)
  cases own with
  | false =>
    simp only [Bool.false_eq_true, if_false, asgFin]
    rw [hc]
    cases evIt true F ρ it Hc with
    | ok b h =>
      simp only [R.bind_ok, R.st_ok]
      cases compL b.2 (fun v h => evE true F (ρ.set j v) elt h) (fun v h => evC true F (ρ.set j v) cond h) b.1 h with
      | ok r h => simp only [mkL]; split <;> rfl
      | _ => rfl
    | _ => rfl
  | true =>
    simp only [if_true, asgFin]
    have ho : evE true F ρ (.own (.comp elt j it cond)) Hc = (evE true F ρ (.comp elt j it cond) Hc).bind fun x h => match x with | .lst vs => .ok (.ref h.length) (h ++ [.list vs]) | _ => .bad := by first | (simp only [qE_1, qE_2, qE_3, qE_4, qE_5, qE_6, qE_7, qE_8, qE_9, qE_10, qE_11, qE_12, qE_13, qE_14, qE_15, qE_16, qE_17, qE_18, qE_19, qE_20, qE_21, qE_22, qE_23, qE_24, qE_25, qE_26, qE_27, qE_28, qE_29, qE_30, qE_31, qE_32, qE_33, qE_34, qE_35, qE_36, qE_37, qE_38]; done) | (simp only [qE_1, qE_2, qE_3, qE_4, qE_5, qE_6, qE_7, qE_8, qE_9, qE_10, qE_11, qE_12, qE_13, qE_14, qE_15, qE_16, qE_17, qE_18, qE_19, qE_20, qE_21, qE_22, qE_23, qE_24, qE_25, qE_26, qE_27, qE_28, qE_29, qE_30, qE_31, qE_32, qE_33, qE_34, qE_35, qE_36, qE_37, qE_38]; rfl)
    rw [ho, hc]
    cases evIt true F ρ it Hc with
    | ok b h =>
      simp only [R.bind_ok, R.st_ok]
      cases compL b.2 (fun v h => evE true F (ρ.set j v) elt h) (fun v h => evC true F (ρ.set j v) cond h) b.1 h with
      | ok r h => simp only [mkL]; split <;> rfl
      | _ => rfl
    | _ => rfl

theorem s_asg_comp {i : Nat} {elt : PE} {j : Nat} {it : PIt} {cond : Option PE} {own : Bool} {e iter : Expr} {x : Str} {px pos p p' : Pos} {ifs : List Expr} {scope : Scope} {v : Str} (hset : isSet iter = false) (hsc : scopeOk c x scope = true) (hi : c.ctx.all (fun p => p.2 != j) = true)
    (hit : ItJ am n F c it iter) (helt : EJ am n true F (c.inner x j scope) elt e) (hcond : CJ am n F (c.inner x j scope) cond ifs)
    (hv : c.var v i = true) (hk : c.names.lookup v ≠ some .free) (hinj : (c.ctx.map (·.2)).Nodup)
    {cx : Cx} {ρ : List V} {A : Around} {res : List Addr} {outer : List Env} {π₀ : List Addr} {s₀ : Shared} {G : List Addr → Shared → Prop} {π : List Addr} {Hc : H} {s : Shared} (X : Stm am n true F c cx A res outer π₀ s₀ G ρ π Hc s)
    (hs : swapsWith (.ListComp e [⟨.Name x px, iter, ifs, 0⟩] scope pos) (some (.Name v p')) p.line cx.env = pure true) :
    SP (am.at res) cx outer true A π₀ s₀ G (fun Q E s => wpAny am.M A (exec (.Assign [.Name v p'] (.ListComp e [⟨.Name x px, iter, ifs, 0⟩] scope pos) p) cx.env) Q E s) (exS true F (.asg i (if own then .own (.comp elt j it cond) else .comp elt j it cond)) ρ Hc) s := by
  have hsc0 := hsc
  unfold scopeOk at hsc
  simp only [Bool.and_eq_true, List.all_eq_true, beq_iff_eq, Bool.not_eq_true', Bool.or_eq_true, bne_iff_ne, ne_eq] at hsc
  refine hold fun _ k_ => ?_
  obtain ⟨⟨⟨⟨hkind, hall⟩, hxl⟩, hx0⟩, h00⟩ := hsc
  refine k_ ?_
  have B := X.b
  obtain ⟨cl, hclos, hcl1, hcl2⟩ := closure_for (scope := scope) (env := cx.env) (fun p hp hf => B.cxk.clos p.1 (by
    unfold Env.kindOf; rw [B.ck.names]
    rcases (hall p hp).1.2 with (z | z) | z
    · exact absurd hf z
    · exact .inl z
    · exact .inr z))
  have hnames : ∀ y ∈ scope.names, y.2 = .local → scope.names.lookup y.1 = some .local := fun y hy hl => by
    rcases (hall y hy).1.1 with z | z
    · exact absurd hl z
    · exact z.2
  -- what the store leaves
  rw [asg_shape]
  have hI := hit B X.st
  have key : ∀ (r : RS), (∀ vs wt H1, evIt true F ρ it Hc = .ok (vs, wt) H1 → ∃ rs Hf, compL wt (fun v h => evE true F (ρ.set j v) elt h) (fun v h => evC true F (ρ.set j v) cond h) vs H1 = .ok rs Hf ∧ rs.length ≤ 1000000 ∧ r = asgFin own i ρ rs Hf) →
      (∀ c' H', evIt true F ρ it Hc = .err c' H' → r = .err c' ρ H') → evIt true F ρ it Hc ≠ .bad →
      SP (am.at res) cx outer true A π₀ s₀ G (fun Q E s => wpAny am.M A (exec (.Assign [.Name v p'] (.ListComp e [⟨.Name x px, iter, ifs, 0⟩] scope pos) p) cx.env) Q E s) r s := by
    intro r h1 h2 h3
    rcases hI with hI | hI
    · exact absurd hI h3
    · refine .inr ?_
      have erp : ∀ y s', ErP (am.at res) cx.stack π s (evIt true F ρ it Hc) y s' → SEr (am.at res) cx outer true A π₀ s₀ r y s' := fun y s' h => by
        refine hold fun _ k_ => ?_
        obtain ⟨c', H'', π', e', C, fl, hh, g2, g3, g4, g5, g6⟩ := h
        refine k_ ?_
        have Y := X.step g4 g5
        exact ⟨c', ρ, H'', π', e', C, fl, h2 c' H'' hh, g2, g3, Y.go, Y.st, X.b.ne, g6.mono (ground_in X.f X.go)⟩
      refine wp_gen fun Q' E' kq ke => ?_
      replace erp := fun y s' h => ke y s' (erp y s' h)
      rw [exec_Assign_Name_used _ _ _ _ hs, arm_evalThenUse_ListComp]
      refine wpAny_bind (wpAny_standAt (wpAny_bind (wpAny_bind ?_)))
      refine wpAny_comprehension_free (Q := fun _ s' => wpAny am.M A (pure () : Sem Unit) (fun _ s' => wpAny am.M A (pure Flow.next : Sem Flow) Q' E' s') E' s')
        (use := some (assign (.Name v p') cx.env)) rfl (set_iter hset cx.env) hclos hkind hnames (wpAny_mono hI (fun xv s₁ h₁ => wpAny_mono h₁ (fun itv s₂ h₂ => ?_) erp) erp)
      refine hold fun _ k_ => ?_
      obtain ⟨⟨vs, wt⟩, H1, π1, e1, e2, e3, e4⟩ := h₂
      refine k_ ?_
      refine hold fun _ k_ => ?_
      obtain ⟨rs, Hf, e5, e6, e7⟩ := h1 vs wt H1 e1
      refine k_ ?_
      refine comp_core (RR := fun acc C => compPost am.M A E' (some (assign (.Name v p') cx.env)) _ acc C) B X.st e2 e3 e4 hsc0 hi helt hcond hcl1 hcl2 e5 e6 fun D C s' le => ?_
      refine hold fun _ k_ => ?_
      obtain ⟨π', xs, m, l1, l2, l3, l4, l5, l6, l7⟩ := le.rest
      refine k_ ?_
      show wpAny am.M A (assign (.Name v p') cx.env (.ref D)) _ _ s'
      -- with the block's own names reserved still
      have hs0C : s₀.heap.get? C = none := by
        cases hq : s₀.heap.get? C with
        | none => rfl
        | some o => obtain ⟨o', z⟩ := X.go.ext.alive C o hq; rw [le.freshC] at z; cases z
      have hDC : D ∉ (am.at (C :: res)).res := by simp only [Amb.at, List.mem_cons, not_or]; exact ⟨le.ne, le.resD⟩
      have hR : HR (am.at (D :: C :: res)) cx.stack π' Hf s'.heap := HR.sub (am := am) (r := C :: D :: res) (r' := D :: C :: res) (by intro a ha; simp only [List.mem_cons] at ha ⊢; rcases ha with ha | ha | ha <;> simp [ha]) l2
      have hV : VRs ((am.at (C :: res)).hold D) π' s'.heap rs xs := VRs.sub (am' := (am.at (C :: res)).hold D) (by intro a ha; simp only [Amb.hold, Amb.at, List.mem_cons] at ha ⊢; rcases ha with ha | ha | ha <;> simp [ha]) l4
      have hok : ∃ w H2 π2, r = .ok .next (ρ.set i w) H2 ∧ Step (Fs cx.stack) π s π2 s' ∧ HR (am.at (C :: res)) cx.stack π2 H2 s'.heap ∧ VR (am.at (C :: res)) π2 s'.heap w (.ref D) ∧ C ∉ π2 := by
        cases own with
        | false =>
          refine ⟨.lst rs, Hf, π', by rw [e7]; rfl, l1, HR.unhold (am := am.at (C :: res)) hR, ?_, l7⟩
          simp only [VR]
          exact ⟨D, xs, rfl, ⟨l6, hDC⟩, l3.is, e6, hV.reserve.2⟩
        | true =>
          have z := cell_in (am := am.at (C :: res)) (s := s) e6 le.freshD ⟨l6, le.fsD, le.baseD⟩ l1 hR l3 hV
          refine ⟨_, _, π' ++ [D], by rw [e7]; rfl, z.1, z.2.1, z.2.2, ?_⟩
          rw [List.mem_append, not_or, List.mem_singleton]
          exact ⟨l7, Ne.symm le.ne⟩
      refine hold fun _ k_ => ?_
      obtain ⟨w, H2, π2, k2, k3, k4, k5, k6⟩ := hok
      refine k_ ?_
      have erC : ER (am.at (C :: res)) cx ρ π2 s'.heap := (X.st.er.held (l := C) le.freshC).step k3
      have Y : Stm am n true F c cx A (C :: res) outer π₀ s₀ (fun π' s' => Mv (C :: res) (Fs cx.stack) π s π' s') ρ π2 H2 s' :=
        ⟨X.b, ⟨X.f.top, List.mem_cons_of_mem _ X.f.res, X.f.base, X.f.fresh, fun z d hd => let ⟨a1, a2, a3⟩ := X.f.cell z d hd; ⟨List.mem_cons_of_mem _ a1, a2, a3⟩⟩, X.go.inn X.f k3, ⟨k4, erC, X.st.hd.step k3⟩, X.low, .of k3, fun _ _ _ _ h m => h.trans m⟩
      have hlC : cx.env.locals ≠ C := fun q => by
        obtain ⟨m0, hm0⟩ := X.st.er.ns
        obtain ⟨o, ho⟩ := Heap.Ns.exist hm0
        rw [q, le.freshC] at ho; cases ho
      have hcC : ∀ z d, cx.env.cells.lookup z = some d → d ≠ C := fun z d hd q => by
        refine hold fun _ k_ => ?_
        obtain ⟨_, _, u, hu⟩ := X.st.er.cellOff z d hd
        refine k_ ?_
        obtain ⟨o, ho⟩ := Heap.IsCell.exist hu
        rw [q, le.freshC] at ho; cases ho
      refine wpAny_assign_Name (assign_ok Y k5 hv hk hinj fun s'' Z hkeep _ => ?_)
      refine ⟨m, Ns.at l5 fun o ho => hkeep C hs0C (Ne.symm hlC) hcC o ho, fun h' sb => ?_⟩
      have p' : Poke C s''.heap h' := fun b o hb e => sb.extBut b o hb e
      have l5' : s''.heap.Ns C m := Ns.at l5 fun o ho => hkeep C hs0C (Ne.symm hlC) hcC o ho
      refine wpAny_pure (wpAny_pure ?_)
      subst k2
      refine kq _ _ ⟨.next, _, _, π2, rfl, Z.go.poke (tk := s''.toks) hs0C p', ⟨HR.out (am := am.at res) Z.st.hr le.resC le.baseC k6 le.fsC p', ?_, ?_⟩, Z.b.ne, rfl, ?_⟩
      · exact ER.sub (am := am) (r := C :: res) (fun a ha => List.mem_cons_of_mem _ ha) (Z.st.er.poke (am := am.at (C :: res)) List.mem_cons_self p' (Ns.nf l5') hlC hcC)
      · exact Z.st.hd
      · refine X.gk _ _ _ _ X.g (Mv.poke (tk := s''.toks) (Mv.unhold Z.g le.freshC) (.inr le.freshC) p')
  cases hev : evIt true F ρ it Hc with
  | bad => exact .inl rfl
  | err c' H' => exact key _ (fun _ _ _ z => by rw [hev] at z; cases z) (fun _ _ z => by rw [hev] at z; cases z; rfl) (by rw [hev]; simp)
  | ok b H1 =>
    obtain ⟨vs, wt⟩ := b
    simp only [R.st_ok]
    cases hc : compL wt (fun v h => evE true F (ρ.set j v) elt h) (fun v h => evC true F (ρ.set j v) cond h) vs H1 with
    | bad => exact .inl rfl
    | err _ _ => exact .inl rfl
    | ok rs Hf =>
      simp only
      split
      · rename_i hle
        refine key _ (fun vs' wt' H1' z => ?_) (fun _ _ z => by rw [hev] at z; cases z) (by rw [hev]; simp)
        rw [hev] at z; cases z
        exact ⟨rs, Hf, hc, hle, rfl⟩
      · exact .inl rfl
end

end Mine

namespace Mine
open PySem PySem.W PyProof.Rows

/-- the block of a comprehension whose own name is a cell -/
noncomputable def scopeOkC (c : Ck) (x : Str) (scope : Scope) : Bool :=
  scope.kind == .function && scope.names.all (fun p => (p.2 != .local || (p.1 == (".0" : Str) && scope.names.lookup p.1 == some .local)) && (p.2 != .free || c.names.lookup p.1 == some .cell || c.names.lookup p.1 == some .free) && (p.2 != .cell || p.1 == x)) &&
  scope.names.lookup x == some .cell && (scope.names.filter fun p => p.2 == .cell) == [(x, .cell)] && c.ctx.lookup (".0" : Str) == none

theorem cells_none : ∀ {names : List (Str × NameKind)}, (names.filter fun p => p.2 == .cell) = [] → ∀ (n : Nat) (acc : List (Str × Addr)) (h : Heap), cellsFrom n names acc = acc ∧ pushCells h names = h
  | [], _, _, _, _ => ⟨rfl, rfl⟩
  | (y, k) :: r, e, n, acc, h => by
    cases hk : k == NameKind.cell with
    | true => simp only [List.filter_cons, hk, if_true] at e; cases e
    | false =>
      simp only [List.filter_cons, hk, Bool.false_eq_true, if_false] at e
      have ih := cells_none e n acc h
      simp only [cellsFrom, pushCells, hk, Bool.false_eq_true, if_false]; exact ih
theorem cells_one {x : Str} : ∀ {names : List (Str × NameKind)}, (names.filter fun p => p.2 == .cell) = [(x, .cell)] → ∀ (n : Nat) (acc : List (Str × Addr)) (h : Heap), cellsFrom n names acc = (x, n) :: acc ∧ pushCells h names = h.push { cls := .type "cell", data := .cell none }
  | (y, k) :: r, e, n, acc, h => by
    cases hk : k == NameKind.cell with
    | true =>
      simp only [List.filter_cons, hk, if_true] at e
      injection e with e1 e2
      cases e1
      have ih := cells_none e2 (n + 1) ((x, n) :: acc) (h.push { cls := .type "cell", data := .cell none })
      simp only [cellsFrom, pushCells, hk, if_true]; exact ih
    | false =>
      simp only [List.filter_cons, hk, Bool.false_eq_true, if_false] at e
      have ih := cells_one e n acc h
      simp only [cellsFrom, pushCells, hk, Bool.false_eq_true, if_false]; exact ih

theorem wp_newEnvC {M : Model} {A : Around} {E : Value → Shared → Prop} {s : Shared} {scope : Scope} {globals : Addr} {cl : List (Str × Addr)} {qual : Str} {env : Env} {x : Str} {Q : Env → Shared → Prop} (hf : (scope.names.filter fun p => p.2 == .cell) = [(x, .cell)])
    (h : Q { scope, locals := s.heap.objs.size, globals, cells := (x, s.heap.objs.size + 1) :: cl, qual, func := none, code := env.code, frame := env.frame, builtins := env.builtins } { s with heap := (s.heap.push { cls := .type "dict", data := .dict #[] }).push { cls := .type "cell", data := .cell none } }) :
    wpAny M A (newFunctionEnv scope globals cl [] qual none .none (some env)) Q E s := by
  simp only [newFunctionEnv, Option.isSome_some, if_true]
  refine wpAny_bind (wpAny_alloc ?_)
  refine wpAny_bind (wpAny_layCells _ (fun name kind cells => by cases hkc : kind == NameKind.cell <;> simp [hkc]) _ _ _ _ ?_)
  obtain ⟨e1, e2⟩ := cells_one hf (s.heap.push { cls := .type "dict", data := .dict #[] }).objs.size cl (s.heap.push { cls := .type "dict", data := .dict #[] })
  rw [e1, e2, Heap.size_push]
  exact wpAny_bind (wpAny_pure (wpAny_pure h))

section
variable {am : Amb} {π : List Addr} {h : Heap}
theorem er_compC {c : Ck} {cx : Cx} {ρ : List V} {x : Str} {i : Nat} {scope : Scope} {cl : List (Str × Addr)} {C K : Addr} {m : Str → Option Value} {v : V} {v' : Value} (e : ER am cx ρ π h) (hkf : cx.env.scope.kind = .function) (hnames : cx.env.scope.names = c.names) (hctx : cx.ctx = c.ctx)
    (hall : ∀ p ∈ scope.names, (¬ p.2 = .local ∨ p.1 = (".0" : Str) ∧ scope.names.lookup p.1 = some .local) ∧ ((¬ p.2 = .free ∨ c.names.lookup p.1 = some .cell) ∨ c.names.lookup p.1 = some .free) ∧ (¬ p.2 = .cell ∨ p.1 = x)) (hx : scope.names.lookup x = some .cell) (h0 : c.ctx.lookup (".0" : Str) = none)
    (hi : c.ctx.all (fun p => p.2 != i) = true) (hcl1 : ∀ y d, cl.lookup y = some d → cx.env.cells.lookup y = some d) (hcl2 : ∀ p ∈ scope.names, p.2 = .free → ∃ d, cl.lookup p.1 = some d) (hC : C ∉ π) (hn : h.Ns C m) (hK : K ∉ π) (hKn : ∀ y d, cx.env.cells.lookup y = some d → d ≠ K) (hm : h.IsCell K (some v')) (hv : VR am π h v v') :
    ER am ⟨compEnvC scope ((x, K) :: cl) C cx.env, cx.stack, (x, i) :: cx.ctx⟩ (ρ.set i v) π h := by
  have isnt : ∀ {d : Addr} {u : Option Value}, h.IsCell d u → d ≠ C := fun {d u} a3 q => by
    subst q
    refine hold fun _ k_ => ?_
    obtain ⟨o, es, ep, ho, hd', _⟩ := hn
    refine k_ ?_
    obtain ⟨o2, ho2, hd2⟩ := a3
    rw [ho] at ho2; cases ho2; rw [hd'] at hd2; cases hd2
  have look : ∀ y d, List.lookup y ((x, K) :: cl) = some d → (y = x ∧ d = K) ∨ (y ≠ x ∧ cl.lookup y = some d) := fun y d hd => by
    rw [List.lookup_cons] at hd
    cases hb : y == x with
    | true => rw [hb] at hd; cases hd; exact .inl ⟨eq_of_beq hb, rfl⟩
    | false => rw [hb] at hd; exact .inr ⟨beq_eq_false_iff_ne.mp hb, hd⟩
  refine ⟨⟨m, hn⟩, hC, fun y d hd => ?_, fun y z d h1 h2 => ?_, fun y j w h1 h2 h3 h4 => ?_⟩
  · rcases look y d hd with ⟨_, rfl⟩ | ⟨_, hd⟩
    · exact ⟨hK, isnt hm, _, hm⟩
    · refine hold fun _ k_ => ?_
      obtain ⟨a1, _, u, a3⟩ := e.cellOff y d (hcl1 y d hd)
      refine k_ ?_
      exact ⟨a1, isnt a3, u, a3⟩
  · rcases look y d h1 with ⟨p1, p2⟩ | ⟨_, g1⟩ <;> rcases look z d h2 with ⟨q1, q2⟩ | ⟨_, g2⟩
    · rw [p1, q1]
    · exact absurd p2 (hKn z d (hcl1 _ _ g2))
    · exact absurd q2 (hKn y d (hcl1 _ _ g1))
    · exact e.apart y z d (hcl1 _ _ g1) (hcl1 _ _ g2)
  · have hkind : ∀ y, Env.kindOf (compEnvC scope ((x, K) :: cl) C cx.env) y = (scope.names.lookup y).map fun k => if (k == .free && c.names.lookup y == some .cell) = true then .cell else k := by
      intro y
      show (relabel scope cx.env).names.lookup y = _
      rw [relabel_names hkf, relab_lookup, hnames]
    by_cases hy : y = x
    · subst hy
      rw [List.lookup_cons] at h1
      simp only [beq_self_eq_true, Option.some.injEq] at h1
      subst h1
      have hlt : i < ρ.length := by have := (List.getElem?_eq_some_iff.mp h2).1; simpa using this
      rw [List.getElem?_set_self hlt] at h2
      cases h2
      exact ⟨v', .inr ⟨.inl (by rw [hkind, hx]; rfl), K, by show List.lookup y ((y, K) :: cl) = _; simp [List.lookup_cons], hm⟩, .inl hv⟩
    · have hb : (y == x) = false := beq_eq_false_iff_ne.mpr hy
      have h1' : c.ctx.lookup y = some j := by rw [List.lookup_cons, hb] at h1; rw [← hctx]; exact h1
      have hj : j ≠ i := by
        have := lookup_mem h1'
        simp only [List.all_eq_true, bne_iff_ne, ne_eq] at hi
        exact hi _ this
      rw [List.getElem?_set_ne (Ne.symm hj)] at h2
      unfold Vis at h4
      simp only [hkind] at h4
      cases hl : scope.names.lookup y with
      | none => rw [hl] at h4; simp at h4
      | some k =>
        have hmem := lookup_mem hl
        have hp := hall _ hmem
        by_cases hkl : k = .local
        · subst hkl
          rcases hp.1 with q | q
          · exact absurd rfl q
          · have q := q.1
            simp only at q; rw [q, h0] at h1'; cases h1'
        · by_cases hkf' : k = .free
          · subst hkf'
            obtain ⟨d, hd⟩ := hcl2 _ hmem rfl
            have hcell := hcl1 y d hd
            have hout : cx.env.kindOf y = some .cell ∨ cx.env.kindOf y = some .free := by
              unfold Env.kindOf; rw [hnames]
              rcases hp.2.1 with (q | q) | q
              · exact absurd rfl q
              · exact .inl q
              · exact .inr q
            obtain ⟨u, h5, h6⟩ := e.var y j w (by rw [hctx]; exact h1') h2 h3 (by unfold Vis; rcases hout with q | q; exact .inr (.inl q); exact .inr (.inr q))
            refine ⟨u, .inr ⟨?_, d, ?_, ?_⟩, h6⟩
            · rw [hkind, hl]; simp only [Option.map_some]; split <;> simp
            · show List.lookup y ((x, K) :: cl) = some d
              rw [List.lookup_cons, hb]; exact hd
            · rcases h5 with ⟨q, _⟩ | ⟨_, d', h7, h8⟩
              · rcases hout with q' | q' <;> rw [q'] at q <;> cases q
              · rw [hcell] at h7; cases h7; exact h8
          · rw [hl] at h4
            have hkc : k ≠ .cell := fun q => by
              rcases hp.2.2 with z | z
              · exact z q
              · exact hy z
            have hb2 : (k == NameKind.free) = false := by simpa using hkf'
            simp only [Option.map_some, hb2, Bool.false_and, Bool.false_eq_true, if_false, Option.some.injEq] at h4
            rcases h4 with q | q | q
            · exact absurd q hkl
            · exact absurd q hkc
            · exact absurd q hkf'
end

theorem scopeC_inv {c : Ck} {x : Str} {scope : Scope} (h : scopeOkC c x scope = true) : scope.kind = .function ∧ (∀ p ∈ scope.names, (¬ p.2 = .local ∨ p.1 = (".0" : Str) ∧ scope.names.lookup p.1 = some .local) ∧ ((¬ p.2 = .free ∨ c.names.lookup p.1 = some .cell) ∨ c.names.lookup p.1 = some .free) ∧ (¬ p.2 = .cell ∨ p.1 = x)) ∧
    scope.names.lookup x = some .cell ∧ (scope.names.filter fun p => p.2 == .cell) = [(x, .cell)] ∧ c.ctx.lookup (".0" : Str) = none := by
  unfold scopeOkC at h
  simp only [Bool.and_eq_true, List.all_eq_true, beq_iff_eq, Bool.or_eq_true, bne_iff_ne, ne_eq] at h
  exact ⟨h.1.1.1.1, fun p hp => let z := h.1.1.1.2 p hp; ⟨z.1.1, z.1.2, z.2⟩, h.1.1.2, h.1.2, h.2⟩

section
variable {am : Amb} {n : Nat} {F : Fn} {c : Ck}

theorem comp_coreC {elt : PE} {i : Nat} {cond : Option PE} {e iter : Expr} {x : Str} {px pos : Pos} {ifs : List Expr} {scope : Scope} {cl : List (Str × Addr)} {cx : Cx} {ρ : List V} {A : Around} {res π π1 : List Addr} {Hc H1 Hf : H} {s s1 : Shared} {vs rs : List V} {wt : Watch} {itv : Value}
    {RR : Value → Addr → Result → Shared → Prop} {E : Value → Shared → Prop}
    (B : Base am n true F c cx ρ A) (st : St (am.at res) true cx ρ π Hc A s) (hs1 : Step (Fs cx.stack) π s π1 s1) (hr1 : HR (am.at res) cx.stack π1 H1 s1.heap) (hit : ItR (am.at res) cx.stack A s.heap π1 s1.heap (vs, wt) itv)
    (hsc : scopeOkC c x scope = true) (hi : c.ctx.all (fun p => p.2 != i) = true) (helt : EJ am n true F (c.inner x i scope) elt e) (hcond : CJ am n F (c.inner x i scope) cond ifs)
    (hcl1 : ∀ y d, cl.lookup y = some d → cx.env.cells.lookup y = some d) (hcl2 : ∀ p ∈ scope.names, p.2 = .free → ∃ d, cl.lookup p.1 = some d)
    (hcomp : compL wt (fun v h => evE true F (ρ.set i v) elt h) (fun v h => evC true F (ρ.set i v) cond h) vs H1 = .ok rs Hf) (hlen : rs.length ≤ 1000000)
    (hRR : ∀ D C s', LoopEnd (am.at res) cx.stack π s rs Hf D C s' → RR (.ref D) C (.ok .next) s') :
    wpAny am.M A (newList []) (fun acc s₃ => wpAny am.M A (newFunctionEnv scope cx.env.globals cl [] cx.env.qual none .none (some cx.env)) (fun cenv s₄ =>
      codeAny am.M A (.compStart (.ListComp e [⟨.Name x px, iter, ifs, 0⟩] scope pos) 0 itv acc { cenv with scope := relabel scope cx.env }) (RR acc cenv.locals) s₄) E s₃) E s1 := by
  refine hold fun _ k_ => ?_
  obtain ⟨hkind, hall, hxl, hone, h00⟩ := scopeC_inv hsc
  refine k_ ?_
  refine hold fun _ k_ => ?_
  obtain ⟨I, rfl, hI0, hIB, _, hItD⟩ := hit
  refine k_ ?_
  refine wpAny_newObj_type (wp_newEnvC hone ?_)
  dsimp only
  generalize hH2 : s1.heap.push { cls := .type "list", dict := none, data := .seq ([] : List Value).toArray } = H2
  generalize hh1 : (H2.push { cls := .type "dict", data := .dict #[] }).push { cls := .type "cell", data := .cell none } = h₁
  generalize hD : s1.heap.objs.size = D at *
  generalize hC : H2.objs.size = C at *
  generalize hK : C + 1 = K
  have hCD : C = D + 1 := by rw [← hC, ← hH2, Heap.size_push, hD]
  have hDC : D ≠ C := by omega
  have freshD1 : s1.heap.get? D = none := by rw [← hD]; exact size_none _
  have freshC1 : s1.heap.get? C = none := by
    cases hq : s1.heap.get? C with
    | none => rfl
    | some o => have h3 : C < s1.heap.objs.size := Heap.lt_size hq; rw [hD, hCD] at h3; exact absurd h3 (Nat.not_lt.mpr (Nat.le_succ _))
  have freshK1 : s1.heap.get? K = none := by
    cases hq : s1.heap.get? K with
    | none => rfl
    | some o => have h3 : K < s1.heap.objs.size := Heap.lt_size hq; omega
  have hDK : D ≠ K := by omega
  have hCK : C ≠ K := by omega
  have k1 : ∀ b o, s1.heap.get? b = some o → h₁.get? b = some o := fun b o hb => hh1 ▸ Heap.get?_push_of_some _ (Heap.get?_push_of_some _ (hH2 ▸ Heap.get?_push_of_some _ hb))
  have hns₁ : h₁.Ns C (fun _ => none) := by
    have := (Heap.Ns.new H2 (.type "dict")).keeps (h' := h₁) (fun b o e => hh1 ▸ Heap.get?_push_of_some _ e)
    rw [hC] at this; exact this
  have cK : h₁.IsCell K none := by
    have : ((H2.push { cls := .type "dict", data := .dict #[] }).push { cls := .type "cell", data := .cell none }).get? (H2.push { cls := .type "dict", data := .dict #[] }).objs.size = some { cls := .type "cell", data := .cell none } := Heap.get?_push_size _ rfl
    rw [hh1, Heap.size_push, hC, hK] at this
    exact ⟨_, this, rfl⟩
  have fresh0 : ∀ a, s1.heap.get? a = none → s.heap.get? a = none := fun a ha => by
    cases hq : s.heap.get? a with
    | none => rfl
    | some o => obtain ⟨o', h6⟩ := hs1.ext.alive a o hq; rw [ha] at h6; cases h6
  have plD : PL h₁ D [] := by
    have h2 : H2.get? D = some { cls := .type "list", dict := none, data := .seq ([] : List Value).toArray } := by rw [← hH2, ← hD]; exact Heap.get?_push_size _ rfl
    exact ⟨_, 0, hh1 ▸ Heap.get?_push_of_some _ (Heap.get?_push_of_some _ h2), rfl, rfl, rfl⟩
  let am' : Amb := am.at (K :: C :: D :: res)
  have hR1 : ∀ a ∈ K :: C :: D :: res, a ∈ (am.at res).res ∨ s1.heap.get? a = none := fun a ha => by
    rcases List.mem_cons.mp ha with rfl | ha
    · exact .inr freshK1
    · rcases List.mem_cons.mp ha with rfl | ha
      · exact .inr freshC1
      · rcases List.mem_cons.mp ha with rfl | ha
        · exact .inr freshD1
        · exact .inl ha
  have cnf : ∀ {h : Heap} {u : Option Value}, h.IsCell K u → ∃ o, h.get? K = some o ∧ ∀ us, o.data ≠ .fields us := fun {h u} hc => let ⟨o, ho, hdd⟩ := hc; ⟨o, ho, fun us q => by rw [hdd] at q; cases q⟩
  have hr2 : HR am' cx.stack π1 H1 h₁ := by
    have g := hr1.keeps k1
    refine ⟨g.base, g.frames, g.len, g.nodup, fun a ha => ?_, g.off, fun i c a h1 h2 => ?_⟩
    · rcases List.mem_cons.mp ha with rfl | ha
      · exact cnf cK
      · rcases List.mem_cons.mp ha with rfl | ha
        · exact Ns.nf hns₁
        · rcases List.mem_cons.mp ha with rfl | ha
          · exact plD.nf
          · exact g.res a ha
    · have e1 := hr1.cell i c a h1 h2
      cases c with
      | list vs =>
        refine hold fun _ k_ => ?_
        obtain ⟨xs, ⟨o, n, e0, e2⟩, e3, e4⟩ := e1
        refine k_ ?_
        exact ⟨xs, ⟨o, n, k1 _ _ e0, e2⟩, e3, (e4.via (via_R hR1)).keeps k1⟩
      | dict es => exact e1
  obtain ⟨Sx, It, hSx⟩ := hItD (K :: C :: D :: res) h₁ hR1 k1
  refine hold fun _ k_ => ?_
  obtain ⟨hI1, hI2, oI, usI, hIo, hId⟩ := It.own 0 π1 h₁ hSx
  refine k_ ?_
  have cellsOk : ∀ v, (∀ c, v ≠ .exc c) → Base am n true F (c.inner x i scope) ⟨compEnvC scope ((x, K) :: cl) C cx.env, cx.stack, (x, i) :: cx.ctx⟩ (ρ.set i v) A := fun v hv =>
    ⟨B.ok, B.fn, ⟨by show (x, i) :: cx.ctx = (x, i) :: c.ctx; rw [B.ck.ctx], by show (relabel scope cx.env).names = relab c.names scope.names; rw [relabel_names B.cxk.kind, B.ck.names], B.ck.fns, B.ck.nums⟩,
      ⟨fun y hy => by
          have hk : Env.kindOf (compEnvC scope ((x, K) :: cl) C cx.env) y = (scope.names.lookup y).map fun k => if (k == .free && c.names.lookup y == some .cell) = true then .cell else k := by
            show (relabel scope cx.env).names.lookup y = _
            rw [relabel_names B.cxk.kind, relab_lookup, B.ck.names]
          rw [hk] at hy
          cases hl : scope.names.lookup y with
          | none => rw [hl] at hy; simp at hy
          | some k =>
            show ∃ d, List.lookup y ((x, K) :: cl) = some d
            rw [List.lookup_cons]
            cases hyx : y == x with
            | true => exact ⟨K, rfl⟩
            | false =>
              by_cases hf : k = .free
              · subst hf; exact hcl2 _ (lookup_mem hl) rfl
              · have hb2 : (k == NameKind.free) = false := by simpa using hf
                rw [hl] at hy
                simp only [Option.map_some, hb2, Bool.false_and, Bool.false_eq_true, if_false, Option.some.injEq] at hy
                rcases hy with q | q
                · rcases (hall _ (lookup_mem hl)).2.2 with z | z
                  · exact absurd q z
                  · rw [show y = x from z, beq_self_eq_true] at hyx; cases hyx
                · exact absurd q hf,
        hkind, B.cxk.globals, B.cxk.builtins, B.cxk.top⟩, B.as, fun _ => (B.ne rfl).set hv⟩
  have hbase : LoopEnd (am.at res) cx.stack π s rs Hf D C s → True := fun _ => trivial
  have resD : D ∉ (am.at res).res := fresh_res hr1 freshD1
  have resC : C ∉ (am.at res).res := fresh_res hr1 freshC1
  have fsK : K ∉ Fs cx.stack := fresh_fs hr1 freshK1
  have baseK : (am.at res).B.get? K = none := base_none hr1 freshK1
  have fsD : D ∉ Fs cx.stack := fresh_fs hr1 freshD1
  have fsC : C ∉ Fs cx.stack := fresh_fs hr1 freshC1
  have baseD : (am.at res).B.get? D = none := base_none hr1 freshD1
  have baseC : (am.at res).B.get? C = none := base_none hr1 freshC1
  have er0 : ER am' cx ρ π s.heap := ((st.er.held (fresh0 D freshD1)).held (fresh0 C freshC1)).held (fresh0 K freshK1)
  have hxk : Env.kindOf (compEnvC scope ((x, K) :: cl) C cx.env) x = some .cell := by
    show (relabel scope cx.env).names.lookup x = _
    rw [relabel_names B.cxk.kind, relab_lookup, hxl]; rfl
  have hKn : ∀ y d, cx.env.cells.lookup y = some d → d ≠ K := fun y d hd q => by
    refine hold fun _ k_ => ?_
    obtain ⟨_, _, u, o, ho, _⟩ := st.er.cellOff y d hd
    refine k_ ?_
    rw [q, fresh0 K freshK1] at ho; cases ho
  let Sy : Nat → List Addr → Heap → Prop := fun j π h => Sx j π h ∧ K ∉ π ∧ ∃ u, h.IsCell K u
  have loop : ∀ s₃ : Shared, s₃ = { s1 with heap := h₁ } →
      codeAny am.M A (.compLoop (.ListComp e [⟨.Name x px, iter, ifs, 0⟩] scope pos) 0 (.ref I) (.ref D) (compEnvC scope ((x, K) :: cl) C cx.env)) (RR (.ref D) C) s₃ := by
    rintro s₃ rfl
    refine hold fun _ k_ => ?_
    obtain ⟨Inv, toInv, ofInv⟩ : ∃ Inv : Nat → Shared → Prop, (∀ k s', CompInv am' cx.stack π s Sy D C wt (fun v h => evE true F (ρ.set i v) elt h) (fun v h => evC true F (ρ.set i v) cond h) vs rs Hf k s' → Inv k s') ∧ (∀ k s', Inv k s' → CompInv am' cx.stack π s Sy D C wt (fun v h => evE true F (ρ.set i v) elt h) (fun v h => evC true F (ρ.set i v) cond h) vs rs Hf k s') := ⟨_, fun _ _ h => h, fun _ _ h => h⟩
    refine k_ ?_
    refine codeAny_compLoop_tests Inv ?_ (vs.length + 1)
      (toInv _ _ ⟨0, π1, H1, [], [], _, rs, rfl, Nat.zero_le _, hs1.trans (Step.keeps k1), hr2, ⟨hSx, fresh_pi hr1 freshK1, _, cK⟩, plD, by simp [VRs], hns₁, fresh_pi hr1 freshD1, fresh_pi hr1 freshC1, by simpa using hcomp, rfl⟩)
    intro k s' hi_
    refine hold fun _ k_ => ?_
    obtain ⟨j, π', H', us, xsD, m, ws, rfl, hj, hS, hR, hX, hP, hV, hN, hDπ, hCπ, hc, hrs⟩ := ofInv k s' hi_
    refine k_ ?_
    refine hold fun _ k_ => ?_
    obtain ⟨i1, i2, oJ, uJ, hoJ, hdJ⟩ := It.own j π' s'.heap hX.1
    refine k_ ?_
    obtain ⟨hX, hKπ, uK, hcK⟩ := hX
    have hKI : K ≠ I := ne_nf (cnf hcK) hoJ hdJ
    have hDI : D ≠ I := ne_nf hP.nf hoJ hdJ
    have hCI : C ≠ I := ne_nf (Ns.nf hN) hoJ hdJ
    cases hv : vs[j]? with
    | none =>
      have hjl : vs.length ≤ j := by simpa using hv
      have hj' : j = vs.length := Nat.le_antisymm hj hjl
      rw [List.drop_of_length_le hjl] at hc
      obtain ⟨hw, rfl, rfl⟩ := compL_nil_inv hc
      subst hj'
      refine It.done π' _ s' _ _ hX hR hw fun h' tk p => ?_
      refine hRR D C _ ⟨fresh0 D freshD1, fresh0 C freshC1, hDC, resD, resC, baseD, baseC, fsD, fsC, π', xsD, m, hS.poke hI0 p, HR.sub (am := am) (r := K :: C :: D :: res) (r' := C :: D :: res) (fun a ha => List.mem_cons_of_mem _ ha) (hR.poke p hoJ hdJ hIB), hP.at fun o e => p D o hDI e, ?_, Ns.at hN fun o e => p C o hCI e, hDπ, hCπ⟩
      rw [← hrs, List.append_nil]
      exact VRs.sub (am := am') (am' := ((am.at res).hold D).hold C) (fun a ha => List.mem_cons_of_mem _ ha) (hV.upto (p.slots hoJ hdJ))
    | some v =>
      have hjl : j < vs.length := (List.getElem?_eq_some_iff.mp hv).1
      have hdrop : vs.drop j = v :: vs.drop (j + 1) := by
        rw [List.drop_eq_getElem_cons hjl]
        congr 1
        exact (List.getElem?_eq_some_iff.mp hv).2
      rw [hdrop] at hc
      refine hold fun _ k_ => ?_
      obtain ⟨hw, tb, h3, htr, hc0, hc1⟩ := compL_cons_inv hc
      refine k_ ?_
      refine It.item j π' H' s' v _ _ hX hR hw hv fun x' h' tk p hvx hX' => ?_
      dsimp only
      have hN' : h'.Ns C m := Ns.at hN fun o e => p C o hCI e
      have hcK' : h'.IsCell K uK := let ⟨o, ho, r⟩ := hcK; ⟨o, p K o hKI ho, r⟩
      refine wpAny_assign_Name (wpAny_storeName_cell hkind hxk (by show List.lookup x ((x, K) :: cl) = some K; simp [List.lookup_cons]) hcK' fun h₂ hc₂ hs₂ => ?_)
      have p2 : Poke K h' h₂ := fun b o hb e => hs₂.extBut b o hb e
      have hKr : K ∈ am'.res := List.mem_cons_self
      have hDr : D ∈ am'.res := List.mem_cons_of_mem _ (List.mem_cons_of_mem _ List.mem_cons_self)
      have f2 : ∀ b o, b ∉ am'.res → h'.get? b = some o → h₂.get? b = some o := fun b o hb e => p2 b o (fun q => hb (q ▸ hKr)) e
      have hn₂ : h₂.Ns C m := Ns.at hN' fun o e => p2 C o hCK e
      have hR2 : HR am' cx.stack π' H' h₂ := (hR.poke p hoJ hdJ hIB).freed hKr baseK hKπ p2 (cnf hc₂)
      have hS2 : Step (Fs cx.stack) π s π' { s' with heap := h₂, toks := tk } := (hS.poke (tk := tk) hI0 p).poke (fresh0 K freshK1) p2
      have hP2 : PL h₂ D xsD := (hP.at fun o e => p D o hDI e).at fun o e => p2 D o hDK e
      have hV2 : VRs am' π' h₂ us xsD := (hV.upto (p.slots hoJ hdJ)).free f2
      have hX2 : Sx (j + 1) π' h₂ := It.free _ _ _ _ hX' f2
      have hvx2 : VR am' π' h₂ v x' := hvx.free f2
      have er : ER am' ⟨compEnvC scope ((x, K) :: cl) C cx.env, cx.stack, (x, i) :: cx.ctx⟩ (ρ.set i v) π' h₂ :=
        er_compC (er0.step hS2) B.cxk.kind B.ck.names B.ck.ctx hall hxl h00 hi hcl1 hcl2 hCπ hn₂ hKπ hKn hc₂ hvx2
      have stI : St am' true ⟨compEnvC scope ((x, K) :: cl) C cx.env, cx.stack, (x, i) :: cx.ctx⟩ (ρ.set i v) π' H' A { s' with heap := h₂, toks := tk } := ⟨hR2, er, st.hd⟩
      have BI := cellsOk v hvx.noexc
      refine JAt.okAt (am := am') (hcond (res := K :: C :: D :: res) BI stI) htr fun a π2 s3 hS3 hR3 hb => ?_
      unfold BR at hb; subst hb
      have alive2 : ∀ {a : Addr}, (∃ o, h₂.get? a = some o ∧ ∀ us, o.data ≠ .fields us) → a ∉ π' → a ∉ π2 := fun {a} ⟨o, ho, _⟩ ha => hS3.notin (s := { s' with heap := h₂, toks := tk }) ho ha
      have hDπ2 := alive2 hP2.nf hDπ
      have hCπ2 := alive2 (Ns.nf hn₂) hCπ
      have hP3 : PL s3.heap D xsD := hP2.at fun o e => hS3.ext.keep D o e hDπ fsD
      have hN3 := Ns.at hn₂ fun o e => hS3.ext.keep C o e hCπ fsC
      have hV3 : VRs am' π2 s3.heap us xsD := hV2.step hS3
      have hX3 := It.stable _ _ _ _ _ hX2 hS3
      have hKπ2 := alive2 (cnf hc₂) hKπ
      have hcK3 : s3.heap.IsCell K (some x') := let ⟨o, ho, r⟩ := hc₂; ⟨o, hS3.ext.keep K o ho hKπ fsK, r⟩
      cases tb with
      | false =>
        rw [if_neg (by simp)]
        exact ⟨_, by omega, toInv _ _ ⟨j + 1, π2, h3, us, xsD, _, ws, rfl, by omega, hS2.trans hS3, hR3, ⟨hX3, hKπ2, _, hcK3⟩, hP3, hV3, hN3, hDπ2, hCπ2, hc0 rfl, hrs⟩⟩
      | true =>
        rw [if_pos rfl]
        obtain ⟨w, h4, ws', hel, hrest, rfl⟩ := hc1 rfl
        refine JAt.okAt (am := am') (helt (res := K :: C :: D :: res) BI (stI.step hS3 hR3)) hel fun y π3 s4 hS4 hR4 hvy => ?_
        have hP4 : PL s4.heap D xsD := hP3.at fun o e => hS4.ext.keep D o e hDπ2 fsD
        have hN4 := Ns.at hN3 fun o e => hS4.ext.keep C o e hCπ2 fsC
        have hDπ3 : D ∉ π3 := by obtain ⟨o, ho, _⟩ := hP3.nf; exact hS4.notin ho hDπ2
        have hCπ3 : C ∉ π3 := by obtain ⟨o, ho, _⟩ := Ns.nf hN3; exact hS4.notin ho hCπ2
        have hV4 : VRs am' π3 s4.heap us xsD := hV3.step hS4
        have hX4 := It.stable _ _ _ _ _ hX3 hS4
        have hKπ3 : K ∉ π3 := by obtain ⟨o, ho, _⟩ := cnf hcK3; exact hS4.notin ho hKπ2
        have hcK4 : s4.heap.IsCell K (some x') := let ⟨o, ho, r⟩ := hcK3; ⟨o, hS4.ext.keep K o ho hKπ2 fsK, r⟩
        have hxl2 : xsD.length ≤ 1000000 := by
          have e1 := hV4.len
          have e2 : us.length ≤ rs.length := by rw [← hrs]; simp
          omega
        refine wp_append hP4 hxl2 fun pl' p5 => ?_
        have f5 : ∀ b o, b ∉ am'.res → s4.heap.get? b = some o → (s4.heap.update D (Obj.mapSeq (·.push y))).get? b = some o := fun b o hb e => p5 b o (fun q => hb (q ▸ hDr)) e
        exact ⟨_, by omega, toInv _ _ ⟨j + 1, π3, h4, us ++ [w], xsD ++ [y], _, ws', rfl, by omega, ((hS2.trans hS3).trans hS4).poke (tk := s4.toks) (fresh0 D freshD1) p5, hR4.freed hDr baseD hDπ3 p5 pl'.nf, ⟨It.free _ _ _ _ hX4 f5, hKπ3, some x', let ⟨o, ho, r⟩ := hcK4; ⟨o, p5 K o (Ne.symm hDK) ho, r⟩⟩, pl',
          (hV4.append (.single hvy)).free f5, Ns.at hN4 fun o e => p5 C o (Ne.symm hDC) e, hDπ3, hCπ3, hrest, by rw [← hrs]; simp⟩⟩
  exact codeAny_compStart_list (loop _ rfl) (It.self 0 π1 _ _ _ hSx (loop _ rfl))
end

end Mine

namespace Mine
open PySem PySem.W PyProof.Rows

section
variable {am : Amb} {n : Nat} {q : Bool} {F : Fn} {c : Ck}

theorem s_asg_compC {i : Nat} {elt : PE} {j : Nat} {it : PIt} {cond : Option PE} {own : Bool} {e iter : Expr} {x : Str} {px pos p p' : Pos} {ifs : List Expr} {scope : Scope} {v : Str} (hset : isSet iter = false) (hsc : scopeOkC c x scope = true) (hi : c.ctx.all (fun p => p.2 != j) = true)
    (hit : ItJ am n F c it iter) (helt : EJ am n true F (c.inner x j scope) elt e) (hcond : CJ am n F (c.inner x j scope) cond ifs)
    (hv : c.var v i = true) (hk : c.names.lookup v ≠ some .free) (hinj : (c.ctx.map (·.2)).Nodup)
    {cx : Cx} {ρ : List V} {A : Around} {res : List Addr} {outer : List Env} {π₀ : List Addr} {s₀ : Shared} {G : List Addr → Shared → Prop} {π : List Addr} {Hc : H} {s : Shared} (X : Stm am n true F c cx A res outer π₀ s₀ G ρ π Hc s)
    (hs : swapsWith (.ListComp e [⟨.Name x px, iter, ifs, 0⟩] scope pos) (some (.Name v p')) p.line cx.env = pure true) :
    SP (am.at res) cx outer true A π₀ s₀ G (fun Q E s => wpAny am.M A (exec (.Assign [.Name v p'] (.ListComp e [⟨.Name x px, iter, ifs, 0⟩] scope pos) p) cx.env) Q E s) (exS true F (.asg i (if own then .own (.comp elt j it cond) else .comp elt j it cond)) ρ Hc) s := by
  refine hold fun _ k_ => ?_
  obtain ⟨hkind, hall, hxl, hone, h00⟩ := scopeC_inv hsc
  refine k_ ?_
  have B := X.b
  obtain ⟨cl, hclos, hcl1, hcl2⟩ := closure_for (scope := scope) (env := cx.env) (fun p hp hf => B.cxk.clos p.1 (by
    unfold Env.kindOf; rw [B.ck.names]
    rcases (hall p hp).2.1 with (z | z) | z
    · exact absurd hf z
    · exact .inl z
    · exact .inr z))
  have hnames : ∀ y ∈ scope.names, y.2 = .local → scope.names.lookup y.1 = some .local := fun y hy hl => by
    rcases (hall y hy).1 with z | z
    · exact absurd hl z
    · exact z.2
  -- what the store leaves
  rw [asg_shape]
  have hI := hit B X.st
  have key : ∀ (r : RS), (∀ vs wt H1, evIt true F ρ it Hc = .ok (vs, wt) H1 → ∃ rs Hf, compL wt (fun v h => evE true F (ρ.set j v) elt h) (fun v h => evC true F (ρ.set j v) cond h) vs H1 = .ok rs Hf ∧ rs.length ≤ 1000000 ∧ r = asgFin own i ρ rs Hf) →
      (∀ c' H', evIt true F ρ it Hc = .err c' H' → r = .err c' ρ H') → evIt true F ρ it Hc ≠ .bad →
      SP (am.at res) cx outer true A π₀ s₀ G (fun Q E s => wpAny am.M A (exec (.Assign [.Name v p'] (.ListComp e [⟨.Name x px, iter, ifs, 0⟩] scope pos) p) cx.env) Q E s) r s := by
    intro r h1 h2 h3
    rcases hI with hI | hI
    · exact absurd hI h3
    · refine .inr ?_
      have erp : ∀ y s', ErP (am.at res) cx.stack π s (evIt true F ρ it Hc) y s' → SEr (am.at res) cx outer true A π₀ s₀ r y s' := fun y s' h => by
        refine hold fun _ k_ => ?_
        obtain ⟨c', H'', π', e', C, fl, hh, g2, g3, g4, g5, g6⟩ := h
        refine k_ ?_
        have Y := X.step g4 g5
        exact ⟨c', ρ, H'', π', e', C, fl, h2 c' H'' hh, g2, g3, Y.go, Y.st, X.b.ne, g6.mono (ground_in X.f X.go)⟩
      refine wp_gen fun Q' E' kq ke => ?_
      replace erp := fun y s' h => ke y s' (erp y s' h)
      rw [exec_Assign_Name_used _ _ _ _ hs, arm_evalThenUse_ListComp]
      refine wpAny_bind (wpAny_standAt (wpAny_bind (wpAny_bind ?_)))
      refine wpAny_comprehension_free (Q := fun _ s' => wpAny am.M A (pure () : Sem Unit) (fun _ s' => wpAny am.M A (pure Flow.next : Sem Flow) Q' E' s') E' s')
        (use := some (assign (.Name v p') cx.env)) rfl (set_iter hset cx.env) hclos hkind hnames (wpAny_mono hI (fun xv s₁ h₁ => wpAny_mono h₁ (fun itv s₂ h₂ => ?_) erp) erp)
      refine hold fun _ k_ => ?_
      obtain ⟨⟨vs, wt⟩, H1, π1, e1, e2, e3, e4⟩ := h₂
      refine k_ ?_
      refine hold fun _ k_ => ?_
      obtain ⟨rs, Hf, e5, e6, e7⟩ := h1 vs wt H1 e1
      refine k_ ?_
      refine comp_coreC (RR := fun acc C => compPost am.M A E' (some (assign (.Name v p') cx.env)) _ acc C) B X.st e2 e3 e4 hsc hi helt hcond hcl1 hcl2 e5 e6 fun D C s' le => ?_
      refine hold fun _ k_ => ?_
      obtain ⟨π', xs, m, l1, l2, l3, l4, l5, l6, l7⟩ := le.rest
      refine k_ ?_
      show wpAny am.M A (assign (.Name v p') cx.env (.ref D)) _ _ s'
      -- with the block's own names reserved still
      have hs0C : s₀.heap.get? C = none := by
        cases hq : s₀.heap.get? C with
        | none => rfl
        | some o => obtain ⟨o', z⟩ := X.go.ext.alive C o hq; rw [le.freshC] at z; cases z
      have hDC : D ∉ (am.at (C :: res)).res := by simp only [Amb.at, List.mem_cons, not_or]; exact ⟨le.ne, le.resD⟩
      have hR : HR (am.at (D :: C :: res)) cx.stack π' Hf s'.heap := HR.sub (am := am) (r := C :: D :: res) (r' := D :: C :: res) (by intro a ha; simp only [List.mem_cons] at ha ⊢; rcases ha with ha | ha | ha <;> simp [ha]) l2
      have hV : VRs ((am.at (C :: res)).hold D) π' s'.heap rs xs := VRs.sub (am' := (am.at (C :: res)).hold D) (by intro a ha; simp only [Amb.hold, Amb.at, List.mem_cons] at ha ⊢; rcases ha with ha | ha | ha <;> simp [ha]) l4
      have hok : ∃ w H2 π2, r = .ok .next (ρ.set i w) H2 ∧ Step (Fs cx.stack) π s π2 s' ∧ HR (am.at (C :: res)) cx.stack π2 H2 s'.heap ∧ VR (am.at (C :: res)) π2 s'.heap w (.ref D) ∧ C ∉ π2 := by
        cases own with
        | false =>
          refine ⟨.lst rs, Hf, π', by rw [e7]; rfl, l1, HR.unhold (am := am.at (C :: res)) hR, ?_, l7⟩
          simp only [VR]
          exact ⟨D, xs, rfl, ⟨l6, hDC⟩, l3.is, e6, hV.reserve.2⟩
        | true =>
          have z := cell_in (am := am.at (C :: res)) (s := s) e6 le.freshD ⟨l6, le.fsD, le.baseD⟩ l1 hR l3 hV
          refine ⟨_, _, π' ++ [D], by rw [e7]; rfl, z.1, z.2.1, z.2.2, ?_⟩
          rw [List.mem_append, not_or, List.mem_singleton]
          exact ⟨l7, Ne.symm le.ne⟩
      refine hold fun _ k_ => ?_
      obtain ⟨w, H2, π2, k2, k3, k4, k5, k6⟩ := hok
      refine k_ ?_
      have erC : ER (am.at (C :: res)) cx ρ π2 s'.heap := (X.st.er.held (l := C) le.freshC).step k3
      have Y : Stm am n true F c cx A (C :: res) outer π₀ s₀ (fun π' s' => Mv (C :: res) (Fs cx.stack) π s π' s') ρ π2 H2 s' :=
        ⟨X.b, ⟨X.f.top, List.mem_cons_of_mem _ X.f.res, X.f.base, X.f.fresh, fun z d hd => let ⟨a1, a2, a3⟩ := X.f.cell z d hd; ⟨List.mem_cons_of_mem _ a1, a2, a3⟩⟩, X.go.inn X.f k3, ⟨k4, erC, X.st.hd.step k3⟩, X.low, .of k3, fun _ _ _ _ h m => h.trans m⟩
      have hlC : cx.env.locals ≠ C := fun q => by
        obtain ⟨m0, hm0⟩ := X.st.er.ns
        obtain ⟨o, ho⟩ := Heap.Ns.exist hm0
        rw [q, le.freshC] at ho; cases ho
      have hcC : ∀ z d, cx.env.cells.lookup z = some d → d ≠ C := fun z d hd q => by
        refine hold fun _ k_ => ?_
        obtain ⟨_, _, u, hu⟩ := X.st.er.cellOff z d hd
        refine k_ ?_
        obtain ⟨o, ho⟩ := Heap.IsCell.exist hu
        rw [q, le.freshC] at ho; cases ho
      refine wpAny_assign_Name (assign_ok Y k5 hv hk hinj fun s'' Z hkeep _ => ?_)
      refine ⟨m, Ns.at l5 fun o ho => hkeep C hs0C (Ne.symm hlC) hcC o ho, fun h' sb => ?_⟩
      have p' : Poke C s''.heap h' := fun b o hb e => sb.extBut b o hb e
      have l5' : s''.heap.Ns C m := Ns.at l5 fun o ho => hkeep C hs0C (Ne.symm hlC) hcC o ho
      refine wpAny_pure (wpAny_pure ?_)
      subst k2
      refine kq _ _ ⟨.next, _, _, π2, rfl, Z.go.poke (tk := s''.toks) hs0C p', ⟨HR.out (am := am.at res) Z.st.hr le.resC le.baseC k6 le.fsC p', ?_, ?_⟩, Z.b.ne, rfl, ?_⟩
      · exact ER.sub (am := am) (r := C :: res) (fun a ha => List.mem_cons_of_mem _ ha) (Z.st.er.poke (am := am.at (C :: res)) List.mem_cons_self p' (Ns.nf l5') hlC hcC)
      · exact Z.st.hd
      · refine X.gk _ _ _ _ X.g (Mv.poke (tk := s''.toks) (Mv.unhold Z.g le.freshC) (.inr le.freshC) p')
  cases hev : evIt true F ρ it Hc with
  | bad => exact .inl rfl
  | err c' H' => exact key _ (fun _ _ _ z => by rw [hev] at z; cases z) (fun _ _ z => by rw [hev] at z; cases z; rfl) (by rw [hev]; simp)
  | ok b H1 =>
    obtain ⟨vs, wt⟩ := b
    simp only [R.st_ok]
    cases hc : compL wt (fun v h => evE true F (ρ.set j v) elt h) (fun v h => evC true F (ρ.set j v) cond h) vs H1 with
    | bad => exact .inl rfl
    | err _ _ => exact .inl rfl
    | ok rs Hf =>
      simp only
      split
      · rename_i hle
        refine key _ (fun vs' wt' H1' z => ?_) (fun _ _ z => by rw [hev] at z; cases z) (by rw [hev]; simp)
        rw [hev] at z; cases z
        exact ⟨rs, Hf, hc, hle, rfl⟩
      · exact .inl rfl
end

end Mine

namespace Mine
open PySem PySem.W PyProof.Rows

section
variable {am : Amb} {n : Nat} {q : Bool} {F : Fn} {c : Ck}

/-- the frames, seen from where the call began -/
theorem frames_low {am : Amb} {cx : Cx} {outer : List Env} {π₀ π : List Addr} {s₀ : Shared} {Hc : H} {h : Heap} (f : Frm am cx outer s₀) (hr : HR am cx.stack π Hc h) : h.FunFrames (ground outer π₀ s₀.heap) cx.stack := by
  have go : ∀ l : List Env, (∀ a ∈ Fs l, (ground outer π₀ s₀.heap).get? a = none) → h.FunFrames am.B l → h.FunFrames (ground outer π₀ s₀.heap) l := by
    intro l
    induction l with
    | nil => intro _ _; trivial
    | cons e l ih =>
      intro hn ⟨h1, ⟨L, o, h2, _, h4, h5⟩, h6⟩
      refine ⟨h1, ⟨L, o, h2, hn L (by simp [Fs, h2]), h4, h5⟩, ih (fun a ha => hn a ?_) h6⟩
      simp only [Fs, List.filterMap_cons, h2, List.mem_cons]
      exact .inr ha
  refine go _ (fun a ha => ?_) hr.frames
  rw [f.fs] at ha
  rcases List.mem_cons.mp ha with rfl | ha
  · cases hq : (ground outer π₀ s₀.heap).get? cx.env.locals with
    | none => rfl
    | some o => have := of_hideAll _ hq; rw [f.fresh] at this; cases this
  · exact hideAll_none _ (List.mem_append.mpr (.inr ha))

/-- records turned that were not there at the call's beginning -/
theorem Step.touch {am : Amb} {cx : Cx} {outer : List Env} {s₀ s : Shared} {π₀ π : List Addr} {Hc : H} (f : Frm am cx outer s₀) (x : Step (Fs outer) π₀ s₀ π s) (hr : HR am cx.stack π Hc s.heap) {h' : Heap} (t : Touch (ground outer π₀ s₀.heap) s.heap h') : Step (Fs outer) π₀ s₀ π { s with heap := h' } := by
  have frm : ∀ a ∈ Fs outer, ∃ o, s.heap.get? a = some o ∧ ∀ us, o.data ≠ .fields us := fun a ha => (hr.frames.mem (show a ∈ Fs cx.stack by rw [f.fs]; exact List.mem_cons_of_mem _ ha)).2
  have cel : ∀ a ∈ π₀, ∃ o, s.heap.get? a = some o ∧ ∀ us, o.data ≠ .fields us := fun a ha => by
    obtain ⟨δ, e, _⟩ := x.grow
    obtain ⟨i, hi, e1⟩ := List.getElem_of_mem (show a ∈ π by rw [e]; exact List.mem_append.mpr (.inl ha))
    have h1 : π[i]? = some a := by rw [List.getElem?_eq_getElem hi, e1]
    have h2 : i < Hc.length := by rw [← hr.len]; exact hi
    have := hr.cell i Hc[i] a (by simp [h2]) h1
    cases hc : Hc[i] with
    | list vs =>
      rw [hc] at this
      refine hold fun _ k_ => ?_
      obtain ⟨xs, ⟨o, m, ho, _, _, hd⟩, _⟩ := this
      refine k_ ?_
      exact ⟨o, ho, fun us q => by rw [hd] at q; cases q⟩
    | dict es => rw [hc] at this; exact this.elim
  have keep : ∀ a o, s₀.heap.get? a = some o → a ∉ π₀ → a ∉ Fs outer → h'.get? a = some o := fun a o e h1 h2 => t.stays a o (hideAll_get _ e (by rw [List.mem_append, not_or]; exact ⟨h1, h2⟩))
  obtain ⟨hh, tk, rfl⟩ := x.same
  refine ⟨⟨h', tk, rfl⟩, ⟨keep, fun a o e h1 => ?_, fun a o e => ?_⟩, x.grow⟩
  · by_cases h2 : a ∈ Fs outer
    · obtain ⟨sl, h3⟩ := x.ext.slots a o e h1
      obtain ⟨o', h4, h5⟩ := frm a h2
      rw [h3] at h4; cases h4
      obtain ⟨sl', h6⟩ := t.slots a _ h3 h5
      exact ⟨sl', h6⟩
    · exact ⟨o.slots, keep a o e h1 h2⟩
  · by_cases h1 : a ∈ π₀
    · obtain ⟨o', h4, h5⟩ := cel a h1
      obtain ⟨sl', h6⟩ := t.slots a _ h4 h5
      exact ⟨_, h6⟩
    · by_cases h2 : a ∈ Fs outer
      · obtain ⟨o', h4, h5⟩ := frm a h2
        obtain ⟨sl', h6⟩ := t.slots a _ h4 h5
        exact ⟨_, h6⟩
      · exact ⟨o, keep a o e h1 h2⟩

theorem St.touch {am : Amb} {cx : Cx} {ρ : List V} {A : Around} {base : Heap} {s : Shared} {π : List Addr} {Hc : H} (x : St am true cx ρ π Hc A s) (ne : NoExc ρ) (low : am.B.StaysIn base) {h' : Heap} (t : Touch base s.heap h') : St am true cx ρ π Hc A { s with heap := h' } :=
  ⟨x.hr.upto t.slots fun b o e => t.stays b o (low b o e), x.er.upto t.slots ne, x.hd⟩

/-- an exception on its way out of a loop -/
theorem SEr.back {am : Amb} {cx : Cx} {outer : List Env} {A : Around} {π₀ : List Addr} {s₀ : Shared} {r : RS} {y : Value} {s' : Shared} (f : Frm am cx outer s₀) (fr : A.frames = some cx.stack) (low : am.B.StaysIn (ground outer π₀ s₀.heap)) (h : SEr am cx outer true A π₀ s₀ r y s') {E' : Value → Shared → Prop} (ke : ∀ y s, SEr am cx outer true A π₀ s₀ r y s → E' y s) :
    notedBy am.M A cx.env (cameBackBy am.M A cx.env E') y s' := by
  refine hold fun _ k_ => ?_
  obtain ⟨d, ρ', H', π', e, C, fl, h1, rfl, h3, h4, h5, h6, h7⟩ := h
  refine k_ ?_
  rw [f.top.1] at fr
  have fl' := frames_low (π₀ := π₀) f h5.hr
  rw [f.top.1] at fl'
  unfold notedBy
  refine x_note fr fl' f.top.2 h7 fun h₁ x₁ t₁ => ?_
  have g1 := h4.touch f h5.hr t₁
  have g2 := h5.touch (h6 rfl) low t₁
  unfold cameBackBy
  refine hold fun _ k_ => ?_
  obtain ⟨_, _, oe, vs, w1, w2, w3, w4, T, oT, ts, w5, w6, w7, w8, w9, w10⟩ := id x₁
  refine k_ ?_
  refine wpAny_bind (wpAny_field w1 w3 w5 ?_)
  rw [if_neg (by simp)]
  refine x_flight (fr := cx.env.frame) x₁ fun h₂ x₂ t₂ => ?_
  exact ke _ _ ⟨d, ρ', H', π', e, C, _, h1, rfl, h3, g1.touch f g2.hr t₂, g2.touch (h6 rfl) low t₂, h6, x₂⟩

theorem forL_nil {w : Watch} {b : List V → V → Option (List V)} {body : List V → H → RS} {ρ : List V} {h : H} : forL w b body [] ρ h = if w.ok h then .ok .next ρ h else .bad := rfl
theorem forL_cons {w : Watch} {b : List V → V → Option (List V)} {body : List V → H → RS} {v : V} {vs ρ : List V} {h : H} : forL w b body (v :: vs) ρ h = if w.ok h then (match b ρ v with
      | some ρ' => (body ρ' h).then fun ρ h => forL w b body vs ρ h
      | none => .bad) else .bad := rfl

/-- where a loop stands -/
inductive ForInv (am : Amb) (cx : Cx) (outer : List Env) (A : Around) (π₀ : List Addr) (s₀ : Shared) (res π : List Addr) (s : Shared) (Sx : Nat → List Addr → Heap → Prop) (wt : Watch) (bi : List V → V → Option (List V)) (fb : List V → H → RS) (vs : List V) (r : RS) (k : Nat) (s' : Shared) : Prop
  | mk (j : Nat) (ρ' : List V) (H' : H) (π' : List Addr) (e : k = vs.length - j) (hj : j ≤ vs.length) (ne : NoExc ρ') (g1 : Step (Fs outer) π₀ s₀ π' s') (g2 : St am true cx ρ' π' H' A s') (g3 : Mv res (Fs cx.stack) π s π' s') (g4 : Sx j π' s'.heap) (g5 : forL wt bi fb (vs.drop j) ρ' H' = r)

theorem s_for1 {i : Nat} {it : PIt} {body : List PS} {iter : Expr} {v : Str} {p p' : Pos} {ys : List Stmt} (hset : isSet iter = false) (hit : ItJ am n F c it iter) (hbody : SsJ am n true F c body ys)
    (hv : c.var v i = true) (hk : c.names.lookup v ≠ some .free) (hinj : (c.ctx.map (·.2)).Nodup) : SJ am n true F c (.for1 i it body) (.For (.Name v p') iter ys [] p) := fun cx ρ A res outer π₀ s₀ G π Hc s X => by
  have B := X.b
  have shape : exS true F (.for1 i it body) ρ Hc = (evIt true F ρ it Hc).st ρ fun vs h => forL vs.2 (bind1 i) (fun ρ h => exSs true F body ρ h) vs.1 ρ h := by
    simp only [qS_1, qS_2, qS_3, qS_4, qS_5, qS_6, qS_7, qS_8, qS_9, qS_10, qS_11, qS_12, qS_13, qS_14]; rw [if_neg (by simp)]
  rw [shape]
  have hI := hit B X.st
  have key : ∀ (r : RS), r ≠ .bad → (∀ vs wt H1, evIt true F ρ it Hc = .ok (vs, wt) H1 → forL wt (bind1 i) (fun ρ h => exSs true F body ρ h) vs ρ H1 = r) →
      (∀ c' H', evIt true F ρ it Hc = .err c' H' → r = .err c' ρ H') → evIt true F ρ it Hc ≠ .bad →
      SP (am.at res) cx outer true A π₀ s₀ G (fun Q E s => wpAny am.M A (exec (.For (.Name v p') iter ys [] p) cx.env) Q E s) r s := by
    intro r hrb h1 h2 h3
    rcases hI with hI | hI
    · exact absurd hI h3
    · refine .inr ?_
      have erp : ∀ y s', ErP (am.at res) cx.stack π s (evIt true F ρ it Hc) y s' → SEr (am.at res) cx outer true A π₀ s₀ r y s' := fun y s' h => by
        refine hold fun _ k_ => ?_
        obtain ⟨c', H'', π', e', C, fl, hh, g2, g3, g4, g5, g6⟩ := h
        refine k_ ?_
        have Y := X.step g4 g5
        exact ⟨c', ρ, H'', π', e', C, fl, h2 c' H'' hh, g2, g3, Y.go, Y.st, X.b.ne, g6.mono (ground_in X.f X.go)⟩
      refine wp_gen fun Q' E' kq ke => ?_
      replace erp := fun y s' h => ke y s' (erp y s' h)
      refine wpAny_For (wpAny_mono hI (fun xv s₁ h₁ => wpAny_mono h₁ (fun itv s₂ h₂ => ?_) erp) erp) (set_iter hset cx.env)
      refine hold fun _ k_ => ?_
      obtain ⟨⟨vs, wt⟩, H1, π1, e1, e2, e3, I, rfl, e5, e6, ⟨Sx, IT, e7⟩, _⟩ := h₂
      refine k_ ?_
      have e0 := h1 vs wt H1 e1
      have fr : A.frames = some cx.stack := B.as.frames
      have back : ∀ y s', SEr (am.at res) cx outer true A π₀ s₀ r y s' → notedBy am.M A cx.env (cameBackBy am.M A cx.env E') y s' := fun y s' h => SEr.back X.f fr X.low h ke
      have hs0I : s₀.heap.get? I = none := by
        cases hq : s₀.heap.get? I with
        | none => rfl
        | some o => obtain ⟨o', z⟩ := X.go.ext.alive I o hq; rw [e5] at z; cases z
      -- the state, the thing that goes through the list turned
      have poke : ∀ {ρ' : List V} {π' : List Addr} {H' : H} {s' : Shared} {h' : Heap} {tk k : Nat}, NoExc ρ' → Step (Fs outer) π₀ s₀ π' s' → St (am.at res) true cx ρ' π' H' A s' → Mv res (Fs cx.stack) π s π' s' → Sx k π' s'.heap → Poke I s'.heap h' →
          Step (Fs outer) π₀ s₀ π' { s' with heap := h', toks := tk } ∧ St (am.at res) true cx ρ' π' H' A { s' with heap := h', toks := tk } ∧ Mv res (Fs cx.stack) π s π' { s' with heap := h', toks := tk } := by
        intro ρ' π' H' s' h' tk k ne g1 g2 g3 g4 pk
        refine hold fun _ k_ => ?_
        obtain ⟨_, _, o, us, ho, hd⟩ := IT.own k π' _ g4
        refine k_ ?_
        exact ⟨g1.poke hs0I pk, ⟨g2.hr.poke pk ho hd e6, g2.er.upto (pk.slots ho hd) ne, g2.hd⟩, g3.poke (.inr e5) pk⟩
      refine hold fun _ k_ => ?_
      obtain ⟨Inv, toInv, ofInv⟩ : ∃ Inv : Nat → Shared → Prop, (∀ k s', ForInv (am.at res) cx outer A π₀ s₀ res π s Sx wt (bind1 i) (fun ρ h => exSs true F body ρ h) vs r k s' → Inv k s') ∧ (∀ k s', Inv k s' → ForInv (am.at res) cx outer A π₀ s₀ res π s Sx wt (bind1 i) (fun ρ h => exSs true F body ρ h) vs r k s') := ⟨_, fun _ _ h => h, fun _ _ h => h⟩
      refine k_ ?_
      refine codeAny_forLoop_any Inv
        (fun k s' hk' => ?_) vs.length (toInv _ _ ⟨0, ρ, H1, π1, by omega, by omega, B.ne rfl, X.go.inn X.f e2, X.st.step e2 e3, .of e2, e7, by simpa using e0⟩)
      refine hold fun _ k_ => ?_
      obtain ⟨j, ρ', H', π', rfl, hj, ne, g1, g2, g3, g4, g5⟩ := ofInv _ _ hk'
      refine k_ ?_
      rcases Nat.lt_or_ge j vs.length with hlt | hge
      · have hdrop : vs.drop j = vs[j] :: vs.drop (j + 1) := List.drop_eq_getElem_cons hlt
        rw [hdrop, forL_cons] at g5
        by_cases hw : wt.ok H' = true
        · rw [if_pos hw] at g5
          simp only [bind1] at g5
          refine IT.item j π' H' s' vs[j] _ _ g4 g2.hr hw (by simp [hlt]) fun x h' tk pk hx hs' => ?_
          obtain ⟨k1, k2, k3⟩ := poke (tk := tk) ne g1 g2 g3 g4 pk
          show wpAny am.M A (letOwnedTupleGo (.Name v p') (.ref I) x) _ _ _
          refine wpAny_of_eq (a := ()) rfl ?_
          let G' : List Addr → Shared → Prop := fun π' s' => Mv res (Fs cx.stack) π s π' s' ∧ Sx (j + 1) π' s'.heap
          have Y : Stm am n true F c cx A res outer π₀ s₀ G' ρ' π' H' { s' with heap := h', toks := tk } :=
            ⟨B.set fun _ => ne, X.f, k1, k2, X.low, ⟨k3, hs'⟩, fun _ _ _ _ h m => ⟨h.1.trans m, IT.move _ _ _ _ _ h.2 m⟩⟩
          refine wpAny_assign_Name (assign_ok Y hx hv hk hinj fun s'' Z _ _ => ?_)
          rcases hbody Z with hb | hb
          · rw [hb] at g5; exact absurd g5.symm hrb
          · refine wpAny_mono hb (fun fl s3 hs3 => ?_) fun y s3 hs3 => ?_
            · refine hold fun _ k_ => ?_
              obtain ⟨f', ρ2, H2, π2, z1, z2, z3, z4, z5, z6⟩ := hs3
              refine k_ ?_
              rw [z1] at g5
              cases f' with
              | next =>
                cases z5
                exact ⟨vs.length - (j + 1), by omega, toInv _ _ ⟨j + 1, ρ2, H2, π2, rfl, by omega, z4 rfl, z2, z3, z6.1, z6.2, by simpa using g5⟩⟩
              | ret w =>
                obtain ⟨xv, rfl, hxv⟩ := z5
                exact kq _ _ ⟨.ret w, ρ2, H2, π2, g5.symm, z2, z3, z4, ⟨xv, rfl, hxv⟩, X.gk _ _ _ _ X.g z6.1⟩
            · refine hold fun _ k_ => ?_
              obtain ⟨d, ρ2, H2, π2, e', C, fl, z1, z2, z3, z4, z5, z6, z7⟩ := hs3
              refine k_ ?_
              rw [z1] at g5
              exact back y s3 ⟨d, ρ2, H2, π2, e', C, fl, g5.symm, z2, z3, z4, z5, z6, z7⟩
        · rw [if_neg hw] at g5; exact absurd g5.symm hrb
      · have hje : j = vs.length := by omega
        subst hje
        rw [List.drop_length, forL_nil] at g5
        by_cases hw : wt.ok H' = true
        · rw [if_pos hw] at g5
          refine IT.done π' H' s' _ _ g4 g2.hr hw fun h' tk pk => ?_
          obtain ⟨k1, k2, k3⟩ := poke (tk := tk) ne g1 g2 g3 g4 pk
          refine wpAny_execs_nil ?_
          exact kq _ _ ⟨.next, ρ', H', π', g5.symm, k1, k2, fun _ => ne, rfl, X.gk _ _ _ _ X.g k3⟩
        · rw [if_neg hw] at g5; exact absurd g5.symm hrb
  cases hev : evIt true F ρ it Hc with
  | bad => exact .inl rfl
  | err c' H' => exact key _ (by simp [R.st]) (fun _ _ _ z => by rw [hev] at z; cases z) (fun _ _ z => by rw [hev] at z; cases z; rfl) (by rw [hev]; simp)
  | ok b H1 =>
    obtain ⟨vs, wt⟩ := b
    simp only [R.st_ok]
    by_cases hb : forL wt (bind1 i) (fun ρ h => exSs true F body ρ h) vs ρ H1 = .bad
    · exact .inl hb
    · refine key _ hb (fun vs' wt' H1' z => ?_) (fun _ _ z => by rw [hev] at z; cases z) (by rw [hev]; simp)
      rw [hev] at z; cases z; rfl
end

end Mine

namespace Mine
open PySem PySem.W PyProof.Rows

theorem tail_keeps {h h' : Heap} {bmB tl : List Value} (T : OwnTail h bmB tl) (hk : ∀ b o, h.get? b = some o → h'.get? b = some o) : OwnTail h' bmB tl := by
  induction T with
  | base => exact .base
  | own h1 h2 h3 _ ih => exact .own (hk _ _ h1) (ns_stays hk h2) h3 ih

section
variable {am : Amb} {n : Nat} {q : Bool} {F : Fn} {c : Ck}

theorem s_raise {d : String} {t : Str} {k : Nat} {np cpos pos p : Pos} (hd : d ∈ excNames) (hg : c.glob (Str.ofString d) = true) :
    SJ am n q F c (.raise d) (.Raise (some (.Call (.Name (Str.ofString d) np) [.Constant (.str t) k p] [] cpos)) none pos) := fun cx ρ A res outer π₀ s₀ G π Hc s x => by
  simp only [qS_1, qS_2, qS_3, qS_4, qS_5, qS_6, qS_7, qS_8, qS_9, qS_10, qS_11, qS_12, qS_13, qS_14]
  cases q with
  | false => exact .inl rfl
  | true =>
    rw [if_neg (by simp)]
    obtain ⟨C, X⟩ := x.b.ok.exc d hd
    refine hold fun _ k_ => ?_
    obtain ⟨nm, qn, N, bs, bm, hdct, sn, sub, ab, col, dd, k0, k1, k2, k3, k5, mN, r1, r2, r3, r4⟩ := x.b.ok.rs d hd C X.name
    refine k_ ?_
    have hpl : backTo cpos (starEach [.Constant (.str t) k p] cx.env) = plainArgs [.Constant (.str t) k p] cx.env := starEach_plain _ (fun z hz => by rw [List.mem_singleton.mp hz]; rfl) _
    have kb := x.st.hr.base
    refine .inr (wpAny_Raise_call_subT (C := C) (nm := nm) (q := qn) (N := N) (bs := bs) (bm := bm) (hdct := hdct) (sn := sn) (sub := sub) (ab := ab) (col := col) (dd := dd) (k0 := k0) (k1 := k1) (k2 := k2) (k3 := k3) (k5 := k5) _root_.PySem.F.excBase_ValueError (r4.tail.hasType (by decide)) x.st.hd (by rw [hpl]; rfl) (r3 _ (.head _)) (wp_glob x.b x.st.hr hg X.name ⟨rfl, ?_⟩))
    rw [hpl]
    refine Calls.evalArgs_plain (spl1 (wpAny_Constant_str ⟨rfl, by simp; decide, kb _ _ r1, ns_stays kb r2, tail_keeps r4.tail kb, fun h' e hm => ?_⟩))
    have y : Step (Fs cx.stack) π s π { s with heap := h', toks := s.toks + 1 } := .keeps hm.keeps
    have Y := x.step y (x.st.hr.keeps hm.keeps)
    refine hold fun _ k_ => ?_
    obtain ⟨t', e1, e2, e3⟩ := hm.there
    refine k_ ?_
    have low : (ground outer π₀ s₀.heap).StaysIn s.heap := fun b o e => of_hideAll _ (ground_in x.f x.go b o e)
    exact ⟨d, ρ, Hc, π, e, C, none, rfl, rfl, X.name, Y.go, Y.st, x.b.ne, ⟨fun b o e => hm.keeps b o (low b o e), none_of_stays low hm.new, _, _, e1, ⟨rfl, rfl⟩, rfl, rfl, rfl⟩⟩
theorem ER.setLocal {am : Amb} {cx : Cx} {ρ : List V} {π : List Addr} {h h' : Heap} {v : Str} {i : Nat} {w : V} {xo : Option Value} {m : Str → Option Value} (er : ER am cx ρ π h) (hm : h.Ns cx.env.locals m) (hn' : h'.Ns cx.env.locals (fun y => if y = v then xo else m y)) (p : Poke cx.env.locals h h') (hres : cx.env.locals ∈ am.res)
    (hv : cx.ctx.lookup v = some i) (hkl : cx.env.kindOf v = some .local) (uniq : ∀ z, cx.ctx.lookup z = some i → z = v) (hw : w ≠ .undef → ∃ xv, xo = some xv ∧ SR am π h' w xv) : ER am cx (ρ.set i w) π h' := by
  have hlt : ∀ u, (ρ.set i w)[i]? = some u → u = w := fun u hu => by
    have hl : i < ρ.length := by have := (List.getElem?_eq_some_iff.mp hu).1; simpa using this
    rw [List.getElem?_set_self hl] at hu; cases hu; rfl
  refine ⟨⟨_, hn'⟩, er.locOff, fun z d hd => ?_, er.apart, fun z j u e1 e2 e3 e4 => ?_⟩
  · refine hold fun _ k_ => ?_
    obtain ⟨a1, a2, u, o, ho, r⟩ := er.cellOff z d hd
    refine k_ ?_
    exact ⟨a1, a2, u, o, p d o a2 ho, r⟩
  · by_cases hj : j = i
    · subst hj
      have := uniq z e1; subst this
      have := hlt u e2; subst this
      obtain ⟨xv, rfl, hs⟩ := hw e3
      exact ⟨xv, .inl ⟨hkl, _, hn', by simp⟩, hs⟩
    · have hz : z ≠ v := fun q => by subst q; rw [hv] at e1; cases e1; exact hj rfl
      rw [List.getElem?_set_ne (Ne.symm hj)] at e2
      obtain ⟨x', e5, e6⟩ := er.var z j u e1 e2 e3 e4
      refine ⟨x', ?_, ?_⟩
      · rcases e5 with ⟨k, m', e7, e8⟩ | ⟨k, d, e7, o, ho, r⟩
        · refine .inl ⟨k, _, hn', ?_⟩
          have hmm : m z = m' z := by
            refine hold fun _ k_ => ?_
            obtain ⟨o1, es1, ep1, a1, a2, a3, a4⟩ := hm
            refine k_ ?_
            refine hold fun _ k_ => ?_
            obtain ⟨o2, es2, ep2, b1, b2, b3, b4⟩ := e7
            refine k_ ?_
            rw [a1] at b1; cases b1; rw [a2] at b2; cases b2
            rw [← a4 z, ← b4 z]
          simp only [hz, if_false]
          rw [hmm]; exact e8
        · exact .inr ⟨k, d, e7, o, p d o (er.cellOff z d e7).2.1 ho, r⟩
      · rcases e6 with e6 | ⟨d, a, f1, f2, f3, C', o, vs, g1, g2, g3, g4, g5⟩
        · exact .inl (e6.free fun b o hb z => p b o (fun q => hb (q ▸ hres)) z)
        · exact .inr ⟨d, a, f1, f2, f3, C', o, vs, g1, p a o (fun q => (ne_nf (Ns.nf hm) g2 g4) q.symm) g2, g3, g4, g5⟩

theorem one_slot {c : Ck} {cx : Cx} {v : Str} {i : Nat} (ck : CkR am c cx) (h1 : c.ctx.lookup v = some i) (hinj : (c.ctx.map (·.2)).Nodup) : ∀ z, cx.ctx.lookup z = some i → z = v := by
  intro z hz
  rw [ck.ctx] at hz
  have a1 := lookup_mem hz
  have a2 := lookup_mem h1
  have : ∀ (l : List (Str × Nat)), (l.map (·.2)).Nodup → (z, i) ∈ l → (v, i) ∈ l → z = v := by
    intro l
    induction l with
    | nil => intro _ h _; simp at h
    | cons p l ih =>
      intro hn hz hy
      rw [List.map_cons, List.nodup_cons] at hn
      rcases List.mem_cons.mp hz with hz1 | hz2
      · rcases List.mem_cons.mp hy with hy1 | hy2
        · rw [← hz1] at hy1; cases hy1; rfl
        · exact absurd (List.mem_map.mpr ⟨(v, i), hy2, by rw [← hz1]⟩ : p.2 ∈ l.map (·.2)) hn.1
      · rcases List.mem_cons.mp hy with hy1 | hy2
        · exact absurd (List.mem_map.mpr ⟨(z, i), hz2, by rw [← hy1]⟩ : p.2 ∈ l.map (·.2)) hn.1
        · exact ih hn.2 hz2 hy2
  exact this _ hinj a1 a2

/-- a record is no cell and no frame -/
theorem rec_off {am : Amb} {stack : List Env} {π : List Addr} {Hc : H} {h : Heap} (hr : HR am stack π Hc h) {e : Addr} {o : Obj} {vs : Array Value} (ho : h.get? e = some o) (hd : o.data = .fields vs) : e ∉ π ∧ e ∉ Fs stack := by
  refine ⟨fun hm => ?_, fun hm => ?_⟩
  · obtain ⟨i, hi, e1⟩ := List.getElem_of_mem hm
    have h1 : π[i]? = some e := by rw [List.getElem?_eq_getElem hi, e1]
    have h2 : i < Hc.length := by rw [← hr.len]; exact hi
    have := hr.cell i Hc[i] e (by simp [h2]) h1
    cases hc : Hc[i] with
    | list us =>
      rw [hc] at this
      refine hold fun _ k_ => ?_
      obtain ⟨xs, ⟨o', m, ho', _, _, hd'⟩, _⟩ := this
      refine k_ ?_
      rw [ho] at ho'; cases ho'; rw [hd] at hd'; cases hd'
    | dict es => rw [hc] at this; exact this.elim
  · refine hold fun _ k_ => ?_
    obtain ⟨_, o', ho', hn⟩ := hr.frames.mem hm
    refine k_ ?_
    rw [ho] at ho'; cases ho'; exact hn vs hd

theorem try_shape {F : Fn} {body : List PS} {i : Nat} {f : String} {ρ : List V} {Hc : H} : exS true F (.try body "RingError" i [.ret (.callX f i)]) ρ Hc = (match exSs true F body ρ Hc with
    | .err d ρ' H' => if excNames.contains d then (match evE false F (ρ'.set i (.exc d)) (.callX f i) H' with
      | .ok w H2 => .ok (.ret w) ((ρ'.set i (.exc d)).set i .undef) H2
      | _ => .bad) else .bad
    | r => r) := by
  simp only [qS_1, qS_2, qS_3, qS_4, qS_5, qS_6, qS_7, qS_8, qS_9, qS_10, qS_11, qS_12, qS_13, qS_14]
  rw [if_neg (by simp)]
  cases exSs true F body ρ Hc with
  | bad => rfl
  | ok f ρ h => rfl
  | err d ρ' H' =>
    simp only [beq_self_eq_true, Bool.and_true, qSs_1, qSs_2, qS_1, qS_2, qS_3, qS_4, qS_5, qS_6, qS_7, qS_8, qS_9, qS_10, qS_11, qS_12, qS_13, qS_14]
    split
    · cases evE false F (ρ'.set i (.exc d)) (.callX f i) H' <;> rfl
    · rfl

theorem s_try {body : List PS} {ys : List Stmt} {i : Nat} {f : String} {v : Str} {p p1 p2 p3 p4 tp hp : Pos} (hbody : SsJ am n true F c body ys) (hg : c.glob (Str.ofString "RingError") = true) (hv : c.var v i = true) (hkl : c.names.lookup v = some .local) (hinj : (c.ctx.map (·.2)).Nodup)
    (hx : c.glob (Str.ofString f) = true) (hf : f ∈ c.fns) {cx : Cx} {ρ : List V} {A : Around} {res : List Addr} {outer : List Env} {π₀ : List Addr} {s₀ : Shared} {π : List Addr} {Hc : H} {s : Shared} (X : Stm am n true F c cx A res outer π₀ s₀ (fun _ _ => True) ρ π Hc s) :
    SP (am.at res) cx outer true A π₀ s₀ (fun _ _ => True) (fun Q E s => wpAny am.M A (exec (.Try ys [.ExceptHandler (some (.Name (Str.ofString "RingError") tp)) (some v) [.Return (some (.Call (.Name (Str.ofString f) p1) [.Name v p2] [] p3)) p4] hp] [] [] p) cx.env) Q E s)
      (exS true F (.try body "RingError" i [.ret (.callX f i)]) ρ Hc) s := by
  rw [try_shape]
  rcases hbody X with hb | hb
  · rw [hb]; exact .inl rfl
  cases hr : exSs true F body ρ Hc with
  | bad => exact .inl rfl
  | ok fl ρ' H' =>
    rw [hr] at hb
    refine .inr (wpAny_Try_except (wpAny_mono hb (fun g s' z => ?_) fun y s' z => ?_))
    · refine hold fun _ k_ => ?_
      obtain ⟨fl', ρ2, H2, π2, z1, z2, z3, z4, z5, z6⟩ := z
      refine k_ ?_
      cases z1
      cases fl with
      | next => cases z5; exact wpAny_execs_nil ⟨.next, _, _, π2, rfl, z2, z3, z4, rfl, trivial⟩
      | ret w => obtain ⟨xv, rfl, hxv⟩ := z5; exact ⟨.ret w, _, _, π2, rfl, z2, z3, z4, ⟨xv, rfl, hxv⟩, trivial⟩
    · obtain ⟨_, _, _, _, _, _, _, z, _⟩ := z; cases z
  | err d ρ' H' =>
    rw [hr] at hb
    simp only
    by_cases hdc : excNames.contains d = true
    · rw [if_pos hdc]
      have hdm : d ∈ excNames := by simpa using hdc
      cases hev : evE false F (ρ'.set i (.exc d)) (.callX f i) H' with
      | bad => exact .inl rfl
      | err _ _ => exact .inl rfl
      | ok w H2 =>
        simp only
        refine .inr (wp_gen fun Q' E' kq _ => ?_)
        refine wpAny_Try_except (wpAny_mono hb (fun g s' z => ?_) fun y s' z => ?_)
        · obtain ⟨_, _, _, _, z, _⟩ := z; cases z
        refine hold fun _ k_ => ?_
        obtain ⟨d', ρ2, H3, π', e, C, fl, z1, rfl, hC, g1, g2, ne, x0⟩ := z
        refine k_ ?_
        cases z1
        have fr : A.frames = some cx.stack := X.b.as.frames
        have ne := ne rfl
        have fr' : A.frames = some (cx.env :: outer) := by rw [← X.f.top.1]; exact fr
        have fl' := frames_low (π₀ := π₀) X.f g2.hr
        rw [X.f.top.1] at fl'
        refine x_note fr' fl' X.f.top.2 x0 fun h₁ x₁ t₁ => ?_
        have g1 := g1.touch X.f g2.hr t₁
        have g2 := g2.touch ne X.low t₁
        refine x_flight (fr := none) x₁ fun h₂ x₂ t₂ => ?_
        have g1 := g1.touch X.f g2.hr t₂
        have g2 := g2.touch ne X.low t₂
        obtain ⟨D, XD⟩ := X.b.ok.exc "RingError" (by simp [excNames])
        have AS' : AS n cx.stack (A.mark (some (.ref e))) := ⟨X.b.as.frames, X.b.as.depth, X.b.as.units⟩
        have BF : ∀ ρ, Base am n false F c cx ρ (A.mark (some (.ref e))) := fun ρ => ⟨X.b.ok, X.b.fn, X.b.ck, X.b.cxk, AS', fun q => by cases q⟩
        refine wpAny_handleBy_cons (codeAny_handlers_test (wp_glob (BF ρ') g2.hr hg XD.name ?_)) (by intro q; cases q)
        refine hold fun _ k_ => ?_
        obtain ⟨_, _, oe, vs, w1, w2, w3, w4, _⟩ := id x₂
        refine k_ ?_
        have LT : Looks am.M h₂ (typeOf (.ref e)) (.ref C) := by
          rw [← w2.1]
          exact (Looks.ld w1).andThen .now
        have XK : Frag.In am.K h₂ := fun a o q => g2.hr.base a o (X.b.ok.K a o q)
        refine (exm_one (M := am.M) XK LT (X.b.ok.exm d hdm C D hC XD.name)) _ _ _ _ (fun _ _ q => q) ?_
        refine codeAny_handlers_suite_as (x_flight (fr := none) x₂ fun h₃ x₃ t₃ => ?_)
        have g1 := g1.touch X.f g2.hr t₃
        have g2 := g2.touch ne X.low t₃
        have hv0 := hv
        unfold Ck.var at hv
        simp only [Bool.and_eq_true, beq_iff_eq, Bool.not_eq_true'] at hv
        refine hold fun _ k_ => ?_
        obtain ⟨⟨⟨hv1, hv2⟩, hv3⟩, hv4⟩ := hv
        refine k_ ?_
        have hkl' : cx.env.kindOf v = some .local := by rw [kind_is X.b.ck]; exact hkl
        have hctx : cx.ctx.lookup v = some i := by rw [X.b.ck.ctx]; exact hv1
        have uniq := one_slot X.b.ck hv1 hinj
        obtain ⟨m, hm⟩ := g2.er.ns
        refine wpAny_storeName_local hkl' hm (fun h₄ hn₄ sb₄ => ?_) (by simp [X.b.cxk.kind])
        have p₄ : Poke cx.env.locals h₃ h₄ := fun b o hb q => sb₄.extBut b o hb q
        refine hold fun _ k_ => ?_
        obtain ⟨st3, bn3, oe3, vs3, q1, q2, q3, q4, _⟩ := id x₃
        refine k_ ?_
        have off := rec_off g2.hr q1 q3
        have hel : e ≠ cx.env.locals := fun q => (ne_nf (Ns.nf hm) q1 q3) q.symm
        have hr4 : HR (am.at res) cx.stack π' H' h₄ := g2.hr.freed X.f.res X.f.base g2.er.locOff p₄ (Ns.nf hn₄)
        have ex4 : ExcAt (am.at res) h₄ d e := ⟨C, oe3, vs3, hC, p₄ e oe3 hel q1, q2, q3, q4, none_of_stays X.low bn3⟩
        have er4 : ER (am.at res) cx (ρ'.set i (.exc d)) π' h₄ := ER.setLocal (am := am.at res) g2.er hm hn₄ p₄ X.f.res hctx hkl' uniq (fun _ => ⟨.ref e, rfl, .inr ⟨d, e, rfl, rfl, off.1, ex4⟩⟩)
        have hd4 : Hd false (A.mark (some (.ref e))) π' (Fs cx.stack) h₄ := ⟨e, oe3, vs3, rfl, off.1, off.2, p₄ e oe3 hel q1, q3, q4⟩
        have g1 := g1.poke (tk := s'.toks + 1) X.f.fresh p₄
        have J := ej_callX (p := p1) (p' := p3) (p2 := p2) hx hf hv0 (BF (ρ'.set i (.exc d))) (s := { s' with heap := h₄, toks := s'.toks + 1 }) ⟨hr4, er4, hd4⟩
        rw [hev] at J
        rcases J with J | J
        · cases J
        refine wpAny_execs_cons (wpAny_Return_some (wpAny_mono J (fun xv s₅ z => ?_) fun y s₅ z => ?_))
        · refine hold fun _ k_ => ?_
          obtain ⟨b, H4, π5, z1, z2, z3, z4⟩ := z
          refine k_ ?_
          cases z1
          have er5 := er4.step (s' := s₅) z2
          obtain ⟨m5, hm5⟩ := er5.ns
          have g1 := g1.inn X.f z2
          refine wpAny_nameGoes_keeps hkl' hm5 (by simp [X.b.cxk.kind]) fun h₆ v₆ hn₆ sb₆ => ?_
          have p₆ : Poke cx.env.locals s₅.heap h₆ := fun b o hb q => sb₆.extBut b o hb q
          have g1 := g1.poke (tk := s₅.toks + 1) X.f.fresh p₆
          refine kq _ _ ⟨.ret w, _, _, π5, rfl, g1, ⟨z3.freed X.f.res X.f.base er5.locOff p₆ (Ns.nf hn₆), ER.setLocal (am := am.at res) er5 hm5 hn₆ p₆ X.f.res hctx hkl' uniq (fun q => absurd rfl q), X.st.hd⟩, fun _ => ?_, ⟨xv, rfl, z4.free fun b o hb z => p₆ b o (fun q => hb (q ▸ X.f.res)) z⟩, trivial⟩
          intro u hu k hk
          rw [List.set_set] at hu
          exact ne.set (v := .undef) (by simp) u hu k hk
        · obtain ⟨_, _, _, _, _, _, z, _⟩ := z; cases z
    · rw [if_neg hdc]; exact .inl rfl

end

end Mine

namespace Mine
open PySem PySem.W PyProof.Rows

noncomputable def yExpr (e : Stmt) : Option (Expr) := @Stmt.casesOn (fun _ => Option (Expr)) e (fun _ _ _ _ _ _ _ _ _ _ => none) (fun _ _ _ _ _ _ _ _ _ _ => none) (fun _ _ _ _ _ _ _ _ _ _ _ => none) (fun _ _ => none) (fun _ _ => none) (fun _ _ _ => none) (fun _ _ _ _ _ _ _ => none) (fun _ _ _ _ => none) (fun _ _ _ _ _ => none) (fun _ _ _ _ _ => none) (fun _ _ _ _ _ => none) (fun _ _ _ _ => none) (fun _ _ _ _ => none) (fun _ _ _ => none) (fun _ _ _ => none) (fun _ _ _ => none) (fun _ _ _ => none) (fun _ _ _ _ _ => none) (fun _ _ _ _ _ => none) (fun _ _ _ => none) (fun _ _ => none) (fun _ _ _ _ => none) (fun _ _ => none) (fun _ _ => none) (fun y _ => some y) (fun _ => none) (fun _ => none) (fun _ => none)
theorem yExpr_inv {e : Stmt} {t : Expr} (h : yExpr e = some t) : ∃ p, e = .Expr t p := by
  cases e <;> first | exact no h | (cases h; exact ⟨_, rfl⟩)
noncomputable def yAsg (e : Stmt) : Option (List Expr × Expr) := @Stmt.casesOn (fun _ => Option (List Expr × Expr)) e (fun _ _ _ _ _ _ _ _ _ _ => none) (fun _ _ _ _ _ _ _ _ _ _ => none) (fun _ _ _ _ _ _ _ _ _ _ _ => none) (fun _ _ => none) (fun _ _ => none) (fun a b _ => some (a, b)) (fun _ _ _ _ _ _ _ => none) (fun _ _ _ _ => none) (fun _ _ _ _ _ => none) (fun _ _ _ _ _ => none) (fun _ _ _ _ _ => none) (fun _ _ _ _ => none) (fun _ _ _ _ => none) (fun _ _ _ => none) (fun _ _ _ => none) (fun _ _ _ => none) (fun _ _ _ => none) (fun _ _ _ _ _ => none) (fun _ _ _ _ _ => none) (fun _ _ _ => none) (fun _ _ => none) (fun _ _ _ _ => none) (fun _ _ => none) (fun _ _ => none) (fun _ _ => none) (fun _ => none) (fun _ => none) (fun _ => none)
theorem yAsg_inv {e : Stmt} {t : List Expr × Expr} (h : yAsg e = some t) : ∃ p, e = .Assign t.1 t.2 p := by
  cases e <;> first | exact no h | (cases h; exact ⟨_, rfl⟩)
noncomputable def yRet (e : Stmt) : Option (Option Expr) := @Stmt.casesOn (fun _ => Option (Option Expr)) e (fun _ _ _ _ _ _ _ _ _ _ => none) (fun _ _ _ _ _ _ _ _ _ _ => none) (fun _ _ _ _ _ _ _ _ _ _ _ => none) (fun a _ => some a) (fun _ _ => none) (fun _ _ _ => none) (fun _ _ _ _ _ _ _ => none) (fun _ _ _ _ => none) (fun _ _ _ _ _ => none) (fun _ _ _ _ _ => none) (fun _ _ _ _ _ => none) (fun _ _ _ _ => none) (fun _ _ _ _ => none) (fun _ _ _ => none) (fun _ _ _ => none) (fun _ _ _ => none) (fun _ _ _ => none) (fun _ _ _ _ _ => none) (fun _ _ _ _ _ => none) (fun _ _ _ => none) (fun _ _ => none) (fun _ _ _ _ => none) (fun _ _ => none) (fun _ _ => none) (fun _ _ => none) (fun _ => none) (fun _ => none) (fun _ => none)
theorem yRet_inv {e : Stmt} {t : Option Expr} (h : yRet e = some t) : ∃ p, e = .Return t p := by
  cases e <;> first | exact no h | (cases h; exact ⟨_, rfl⟩)
noncomputable def yIf (e : Stmt) : Option (Expr × List Stmt × List Stmt) := @Stmt.casesOn (fun _ => Option (Expr × List Stmt × List Stmt)) e (fun _ _ _ _ _ _ _ _ _ _ => none) (fun _ _ _ _ _ _ _ _ _ _ => none) (fun _ _ _ _ _ _ _ _ _ _ _ => none) (fun _ _ => none) (fun _ _ => none) (fun _ _ _ => none) (fun _ _ _ _ _ _ _ => none) (fun _ _ _ _ => none) (fun _ _ _ _ _ => none) (fun _ _ _ _ _ => none) (fun _ _ _ _ _ => none) (fun _ _ _ _ => none) (fun a b c _ => some (a, b, c)) (fun _ _ _ => none) (fun _ _ _ => none) (fun _ _ _ => none) (fun _ _ _ => none) (fun _ _ _ _ _ => none) (fun _ _ _ _ _ => none) (fun _ _ _ => none) (fun _ _ => none) (fun _ _ _ _ => none) (fun _ _ => none) (fun _ _ => none) (fun _ _ => none) (fun _ => none) (fun _ => none) (fun _ => none)
theorem yIf_inv {e : Stmt} {t : Expr × List Stmt × List Stmt} (h : yIf e = some t) : ∃ p, e = .If t.1 t.2.1 t.2.2 p := by
  cases e <;> first | exact no h | (cases h; exact ⟨_, rfl⟩)
noncomputable def yFor (e : Stmt) : Option (Expr × Expr × List Stmt × List Stmt) := @Stmt.casesOn (fun _ => Option (Expr × Expr × List Stmt × List Stmt)) e (fun _ _ _ _ _ _ _ _ _ _ => none) (fun _ _ _ _ _ _ _ _ _ _ => none) (fun _ _ _ _ _ _ _ _ _ _ _ => none) (fun _ _ => none) (fun _ _ => none) (fun _ _ _ => none) (fun _ _ _ _ _ _ _ => none) (fun _ _ _ _ => none) (fun _ _ _ _ _ => none) (fun a b c d _ => some (a, b, c, d)) (fun _ _ _ _ _ => none) (fun _ _ _ _ => none) (fun _ _ _ _ => none) (fun _ _ _ => none) (fun _ _ _ => none) (fun _ _ _ => none) (fun _ _ _ => none) (fun _ _ _ _ _ => none) (fun _ _ _ _ _ => none) (fun _ _ _ => none) (fun _ _ => none) (fun _ _ _ _ => none) (fun _ _ => none) (fun _ _ => none) (fun _ _ => none) (fun _ => none) (fun _ => none) (fun _ => none)
theorem yFor_inv {e : Stmt} {t : Expr × Expr × List Stmt × List Stmt} (h : yFor e = some t) : ∃ p, e = .For t.1 t.2.1 t.2.2.1 t.2.2.2 p := by
  cases e <;> first | exact no h | (cases h; exact ⟨_, rfl⟩)
noncomputable def yRaise (e : Stmt) : Option (Option Expr × Option Expr) := @Stmt.casesOn (fun _ => Option (Option Expr × Option Expr)) e (fun _ _ _ _ _ _ _ _ _ _ => none) (fun _ _ _ _ _ _ _ _ _ _ => none) (fun _ _ _ _ _ _ _ _ _ _ _ => none) (fun _ _ => none) (fun _ _ => none) (fun _ _ _ => none) (fun _ _ _ _ _ _ _ => none) (fun _ _ _ _ => none) (fun _ _ _ _ _ => none) (fun _ _ _ _ _ => none) (fun _ _ _ _ _ => none) (fun _ _ _ _ => none) (fun _ _ _ _ => none) (fun _ _ _ => none) (fun _ _ _ => none) (fun _ _ _ => none) (fun a b _ => some (a, b)) (fun _ _ _ _ _ => none) (fun _ _ _ _ _ => none) (fun _ _ _ => none) (fun _ _ => none) (fun _ _ _ _ => none) (fun _ _ => none) (fun _ _ => none) (fun _ _ => none) (fun _ => none) (fun _ => none) (fun _ => none)
theorem yRaise_inv {e : Stmt} {t : Option Expr × Option Expr} (h : yRaise e = some t) : ∃ p, e = .Raise t.1 t.2 p := by
  cases e <;> first | exact no h | (cases h; exact ⟨_, rfl⟩)
noncomputable def yPass (e : Stmt) : Option (Unit) := @Stmt.casesOn (fun _ => Option (Unit)) e (fun _ _ _ _ _ _ _ _ _ _ => none) (fun _ _ _ _ _ _ _ _ _ _ => none) (fun _ _ _ _ _ _ _ _ _ _ _ => none) (fun _ _ => none) (fun _ _ => none) (fun _ _ _ => none) (fun _ _ _ _ _ _ _ => none) (fun _ _ _ _ => none) (fun _ _ _ _ _ => none) (fun _ _ _ _ _ => none) (fun _ _ _ _ _ => none) (fun _ _ _ _ => none) (fun _ _ _ _ => none) (fun _ _ _ => none) (fun _ _ _ => none) (fun _ _ _ => none) (fun _ _ _ => none) (fun _ _ _ _ _ => none) (fun _ _ _ _ _ => none) (fun _ _ _ => none) (fun _ _ => none) (fun _ _ _ _ => none) (fun _ _ => none) (fun _ _ => none) (fun _ _ => none) (fun _ => some ()) (fun _ => none) (fun _ => none)
theorem yPass_inv {e : Stmt} {t : Unit} (h : yPass e = some t) : ∃ p, e = .Pass p := by
  cases e <;> first | exact no h | (cases h; exact ⟨_, rfl⟩)
noncomputable def yTry (e : Stmt) : Option (List Stmt × List ExceptHandler × List Stmt × List Stmt) := @Stmt.casesOn (fun _ => Option (List Stmt × List ExceptHandler × List Stmt × List Stmt)) e (fun _ _ _ _ _ _ _ _ _ _ => none) (fun _ _ _ _ _ _ _ _ _ _ => none) (fun _ _ _ _ _ _ _ _ _ _ _ => none) (fun _ _ => none) (fun _ _ => none) (fun _ _ _ => none) (fun _ _ _ _ _ _ _ => none) (fun _ _ _ _ => none) (fun _ _ _ _ _ => none) (fun _ _ _ _ _ => none) (fun _ _ _ _ _ => none) (fun _ _ _ _ => none) (fun _ _ _ _ => none) (fun _ _ _ => none) (fun _ _ _ => none) (fun _ _ _ => none) (fun _ _ _ => none) (fun a b c d _ => some (a, b, c, d)) (fun _ _ _ _ _ => none) (fun _ _ _ => none) (fun _ _ => none) (fun _ _ _ _ => none) (fun _ _ => none) (fun _ _ => none) (fun _ _ => none) (fun _ => none) (fun _ => none) (fun _ => none)
theorem yTry_inv {e : Stmt} {t : List Stmt × List ExceptHandler × List Stmt × List Stmt} (h : yTry e = some t) : ∃ p, e = .Try t.1 t.2.1 t.2.2.1 t.2.2.2 p := by
  cases e <;> first | exact no h | (cases h; exact ⟨_, rfl⟩)
/-- the parts of a handler -/
noncomputable def yHand : ExceptHandler → Option Expr × Option Str × List Stmt
  | .ExceptHandler t v b _ => (t, v, b)
theorem yHand_eq (x : ExceptHandler) : ∃ p, x = .ExceptHandler (yHand x).1 (yHand x).2.1 (yHand x).2.2 p := by
  cases x; exact ⟨_, rfl⟩
theorem strConst_inv {e : Expr} (h : (xConst e).any (fun k => match k with | .str _ => true | _ => false) = true) : ∃ t k p, e = .Constant (.str t) k p := by
  obtain ⟨k, h1, h2⟩ := any_inv h
  obtain ⟨n, p, rfl⟩ := xConst_inv h1
  cases k <;> first | (cases h2; done) | exact ⟨_, _, _, rfl⟩

/-- a comprehension whose own name is a cell, its store taken into it -/
noncomputable def pComp (e : PE) : Option (PE × Nat × PIt × Option PE) := @PE.casesOn (fun _ => Option (PE × Nat × PIt × Option PE)) e none (fun _ => none) (fun _ => none) (fun _ => none) (fun _ => none) (fun _ _ => none) (fun _ _ _ => none) (fun _ => none) (fun _ => none) (fun _ => none) (fun _ => none) (fun _ _ _ => none) (fun _ _ _ => none) (fun _ _ _ _ _ => none) (fun _ => none) (fun _ => none) none (fun _ _ => none) (fun _ _ _ => none) (fun _ => none) (fun _ _ => none) (fun _ _ => none) (fun _ _ => none) (fun _ _ => none) (fun _ => none) (fun a b c d => some (a, b, c, d)) (fun _ _ _ => none) (fun _ => none) (fun _ => none) (fun _ _ => none) (fun _ _ => none) (fun _ => none) (fun _ _ => none) (fun _ => none) (fun _ _ => none) (fun _ _ _ => none) (fun _ _ _ => none) (fun _ _ => none)
theorem pComp_inv {e : PE} {t : PE × Nat × PIt × Option PE} (h : pComp e = some t) : e = .comp t.1 t.2.1 t.2.2.1 t.2.2.2 := by
  cases e <;> first | exact no h | (cases h; rfl)
noncomputable def ckCC (c : Ck) (v : Str) (e : PE) (y : Expr) : Bool := (pComp e).any fun k => (xLC y).any fun t => (xGen t.2.1).any fun g => ckIt c k.2.2.1 g.2.1 && !isSet g.2.1 && scopeOkC c g.1 t.2.2 && c.ctx.all (fun p => p.2 != k.2.1) && ckE (c.inner g.1 k.2.1 t.2.2) k.1 t.1 && ckC (c.inner g.1 k.2.1 t.2.2) k.2.2.2 g.2.2 && !(t.2.2.names.any fun p => p.1 == v && (p.2 == .local || p.2 == .cell))
mutual
noncomputable def ckS (c : Ck) : PS → Stmt → Bool
  | .expr e, x => (yExpr x).any fun y => isCall y && ckE c e y
  | .asg i e, x => (yAsg x).any fun t => (one t.1).any fun u => (xName u).any fun v => c.var v i && ((c.names.lookup v != some .free && ckE c e t.2) || (c.names.lookup v == some .local && u.pos.line == t.2.pos.line && ckCC c v e t.2))
  | .asgT is e, x => (yAsg x).any fun t => (one t.1).any fun u => (xTup u).any fun ts => !isComp t.2 && (xTup t.2).isNone && ckTg c is ts && ckE c e t.2
  | .ret e, x => (yRet x).any fun t => t.any fun y => ckE c e y
  | .ifs t a b, x => (yIf x).any fun u => ckE c t u.1 && ckSs c a u.2.1 && ckSs c b u.2.2
  | .for1 i it body, x => (yFor x).any fun t => t.2.2.2.isEmpty && ckIt c it t.2.1 && !isSet t.2.1 && (xName t.1).any (fun v => c.var v i && c.names.lookup v != some .free) && ckSs c body t.2.2.1
  | .raise d, x => (yRaise x).any fun t => t.2.isNone && t.1.any fun e => (xNamed e).any fun u => (one u.2).any fun z => u.1 == Str.ofString d && c.glob u.1 && excNames.contains d && (xConst z).any fun k => match k with | .str _ => true | _ => false
  | .pass, x => (yPass x).isSome
  | _, _ => false
noncomputable def ckSs (c : Ck) : List PS → List Stmt → Bool
  | [], xs => xs.isEmpty
  | p :: ps, xs => (match xs with | x :: xs => ckS c p x && ckSs c ps xs | [] => false)
end

/-- a handler that hands the exception on to a def -/
noncomputable def pRet (e : PS) : Option PE := @PS.casesOn (fun _ => Option PE) e (fun _ => none) (fun _ _ => none) (fun _ _ => none) (fun _ _ _ => none) (fun _ _ _ _ _ _ => none) (fun e => some e) (fun _ _ _ => none) (fun _ _ _ => none) (fun _ _ _ _ => none) (fun _ _ => none) (fun _ => none) (fun _ _ _ _ => none) none (fun _ => none)
noncomputable def pCallX (e : PE) : Option (String × Nat) := @PE.casesOn (fun _ => Option (String × Nat)) e none (fun _ => none) (fun _ => none) (fun _ => none) (fun _ => none) (fun _ _ => none) (fun _ _ _ => none) (fun _ => none) (fun _ => none) (fun _ => none) (fun _ => none) (fun _ _ _ => none) (fun _ _ _ => none) (fun _ _ _ _ _ => none) (fun _ => none) (fun _ => none) none (fun _ _ => none) (fun _ _ _ => none) (fun _ => none) (fun _ _ => none) (fun _ _ => none) (fun f j => some (f, j)) (fun _ _ => none) (fun _ => none) (fun _ _ _ _ => none) (fun _ _ _ => none) (fun _ => none) (fun _ => none) (fun _ _ => none) (fun _ _ => none) (fun _ => none) (fun _ _ => none) (fun _ => none) (fun _ _ => none) (fun _ _ _ => none) (fun _ _ _ => none) (fun _ _ => none)
theorem pRet_inv {p : PS} {e : PE} (h : pRet p = some e) : p = .ret e := by
  cases p <;> first | exact no h | (cases h; rfl)
theorem pCallX_inv {p : PE} {t : String × Nat} (h : pCallX p = some t) : p = .callX t.1 t.2 := by
  cases p <;> first | exact no h | (cases h; rfl)
noncomputable def xHand (l : List PS) : Option (String × Nat) := (one l).bind fun p => (pRet p).bind pCallX
theorem xHand_inv {l : List PS} {t : String × Nat} (h : xHand l = some t) : l = [.ret (.callX t.1 t.2)] := by
  obtain ⟨p, h1, h2⟩ := Option.bind_eq_some_iff.mp h
  obtain ⟨e, h3, h4⟩ := Option.bind_eq_some_iff.mp h2
  rw [one_inv h1, pRet_inv h3, pCallX_inv h4]
/-- a statement of a def's body itself -/
noncomputable def ckTry (c : Ck) (body : List PS) (d : String) (i : Nat) (hd : List PS) (x : Stmt) : Bool :=
  (xHand hd).any fun u => (yTry x).any fun t => (one t.2.1).any fun z => t.2.2.1.isEmpty && t.2.2.2.isEmpty && d == "RingError" && i == u.2 && ckSs c body t.1 &&
    (yHand z).1.any (fun e => (xName e).any fun y => y == Str.ofString "RingError" && c.glob y) &&
    (yHand z).2.1.any (fun v => c.var v i && c.names.lookup v == some .local && (one (yHand z).2.2).any fun b => (yRet b).any fun r => r.any fun e => (xNamed e).any fun g => g.1 == Str.ofString u.1 && c.glob g.1 && c.fns.contains u.1 && (one g.2).any fun a => decide (xName a = some v))
noncomputable def ckT (c : Ck) : PS → Stmt → Bool
  | .try body d i hd, x => ckTry c body d i hd x
  | p, x => ckS c p x
noncomputable def ckTs (c : Ck) : List PS → List Stmt → Bool
  | [], xs => xs.isEmpty
  | p :: ps, xs => (match xs with | x :: xs => ckT c p x && ckTs c ps xs | [] => false)

section
variable {am : Amb} {n : Nat} {F : Fn}

theorem swaps_comp {e : Expr} {gs : List Comprehension} {scope : Scope} {pos p' : Pos} {v : Str} {l : Nat} {env : Env} : ∃ b, swapsWith (.ListComp e gs scope pos) (some (.Name v p')) l env = pure b := ⟨_, rfl⟩

/-- what may stand for a comprehension -/
theorem comp_form {c : Ck} {e : PE} {el : Expr} {gs : List Comprehension} {sc : Scope} {pos : Pos} (h : ckE c e (.ListComp el gs sc pos) = true) :
    ∃ (own : Bool) (elt : PE) (j : Nat) (it : PIt) (cond : Option PE), e = (if own then .own (.comp elt j it cond) else .comp elt j it cond) ∧ ckE c (.comp elt j it cond) (.ListComp el gs sc pos) = true := by
  cases e with
  | comp elt j it cond => exact ⟨false, elt, j, it, cond, rfl, h⟩
  | own a =>
    obtain ⟨h0, h⟩ := Bool.and_eq_true_iff.mp h
    cases a with
    | comp elt j it cond => exact ⟨true, elt, j, it, cond, rfl, h⟩
    | _ => first | exact noB h0 | exact noB h
  | _ => exact noB h
theorem no_setcomp {c : Ck} {e : PE} {a : Expr} {gs : List Comprehension} {sc : Scope} {pos : Pos} : ckE c e (.SetComp a gs sc pos) = false := by
  cases e with
  | own a => cases a with
    | bf f b => cases f <;> rfl
    | bin op a b => cases op <;> rfl
    | _ => rfl
  | _ => rfl
theorem no_dictcomp {c : Ck} {e : PE} {a b : Expr} {gs : List Comprehension} {sc : Scope} {pos : Pos} : ckE c e (.DictComp a b gs sc pos) = false := by
  cases e with
  | own a => cases a with
    | bf f b => cases f <;> rfl
    | bin op a b => cases op <;> rfl
    | _ => rfl
  | _ => rfl
theorem only_lc {c : Ck} {e : PE} {y : Expr} (h : ckE c e y = true) (hc : isComp y = true) : ∃ el gs sc pos, y = .ListComp el gs sc pos := by
  cases y with
  | ListComp el gs sc pos => exact ⟨el, gs, sc, pos, rfl⟩
  | SetComp _ _ _ _ => exact noB (no_setcomp.symm.trans h)
  | DictComp _ _ _ _ _ => exact noB (no_dictcomp.symm.trans h)
  | _ => exact noB hc
theorem comp_bad {own : Bool} {elt : PE} {j : Nat} {it : PIt} {cond : Option PE} {ρ : List V} {Hc : H} : evE false F ρ (if own then .own (.comp elt j it cond) else .comp elt j it cond) Hc = .bad := by
  cases own <;> simp [qE_1, qE_2, qE_3, qE_4, qE_5, qE_6, qE_7, qE_8, qE_9, qE_10, qE_11, qE_12, qE_13, qE_14, qE_15, qE_16, qE_17, qE_18, qE_19, qE_20, qE_21, qE_22, qE_23, qE_24, qE_25, qE_26, qE_27, qE_28, qE_29, qE_30, qE_31, qE_32, qE_33, qE_34, qE_35, qE_36, qE_37, qE_38]

theorem asg_ok {q : Bool} {c : Ck} (hinj : (c.ctx.map (·.2)).Nodup) {i : Nat} {e : PE} {v : Str} {y : Expr} {p p' : Pos} (hv : c.var v i = true) (hk : c.names.lookup v ≠ some .free) (h : ckE c e y = true) : SJ am n q F c (.asg i e) (.Assign [.Name v p'] y p) := by
  have hpj := (ckE_ok (am := am) (n := n) (F := F) q c e y h).1
  by_cases hc : isComp y = true
  · refine hold fun _ k_ => ?_
    obtain ⟨el, gs, scope, pos, rfl⟩ := only_lc h hc
    refine k_ ?_
    refine hold fun _ k_ => ?_
    obtain ⟨own, elt, j, it, cond, rfl, h'⟩ := comp_form h
    refine k_ ?_
    refine hold fun _ k_ => ?_
    obtain ⟨x', iter, ifs, px, hg, hh⟩ := gen_any (show (xGen gs).any _ = true from h')
    refine k_ ?_
    subst hg
    simp only [Bool.and_eq_true, Bool.not_eq_true'] at hh
    refine hold fun _ k_ => ?_
    obtain ⟨⟨⟨⟨⟨h1, h2⟩, h3⟩, h4⟩, h5⟩, h6⟩ := hh
    refine k_ ?_
    intro cx ρ A res outer π₀ s₀ G π Hc s x
    obtain ⟨b, hb⟩ := swaps_comp (e := el) (gs := [⟨.Name x' px, iter, ifs, 0⟩]) (scope := scope) (pos := pos) (p' := p') (v := v) (l := p.line) (env := cx.env)
    cases b with
    | false => exact s_asg_plain hv hk hinj hpj.1 x hb
    | true =>
      cases q with
      | false => exact .inl (by simp only [qS_1, qS_2, qS_3, qS_4, qS_5, qS_6, qS_7, qS_8, qS_9, qS_10, qS_11, qS_12, qS_13, qS_14, comp_bad, R.st_bad])
      | true => exact s_asg_comp h2 h3 h4 (ckIt_ok c it _ h1) (ckE_ok true _ elt _ h5).1.1 (ckC_ok _ cond _ h6) hv hk hinj x hb
  · exact fun cx ρ A res outer π₀ s₀ G π Hc s x => s_asg_plain hv hk hinj hpj.1 x (swaps_plain (by simpa using hc) _ _ _)

theorem asgC_ok {q : Bool} {c : Ck} (hinj : (c.ctx.map (·.2)).Nodup) {i : Nat} {e : PE} {v : Str} {y : Expr} {p p' : Pos} (hv : c.var v i = true) (hk : c.names.lookup v = some .local) (hl : (Expr.Name v p').pos.line = y.pos.line) (h : ckCC c v e y = true) : SJ am n q F c (.asg i e) (.Assign [.Name v p'] y p) := by
  refine hold fun _ k_ => ?_
  obtain ⟨⟨elt, j, it, cond⟩, h1, h2⟩ := any_inv h
  refine k_ ?_
  refine hold fun _ k_ => ?_
  obtain ⟨el, gs, scope, pos, rfl, h3⟩ := lc_any h2
  refine k_ ?_
  refine hold fun _ k_ => ?_
  obtain ⟨x', iter, ifs, px, rfl, hh⟩ := gen_any h3
  refine k_ ?_
  have e1 := pComp_inv h1
  simp only at e1
  subst e1
  simp only [Bool.and_eq_true, Bool.not_eq_true'] at hh
  refine hold fun _ k_ => ?_
  obtain ⟨⟨⟨⟨⟨⟨h1, h2⟩, h3⟩, h4⟩, h5⟩, h6⟩, h7⟩ := hh
  refine k_ ?_
  intro cx ρ A res outer π₀ s₀ G π Hc s x
  cases q with
  | false => exact .inl (by simp only [qS_1, qS_2, qS_3, qS_4, qS_5, qS_6, qS_7, qS_8, qS_9, qS_10, qS_11, qS_12, qS_13, qS_14]; rw [show evE false F ρ (.comp elt j it cond) Hc = .bad from rfl]; rfl)
  | true =>
    refine s_asg_compC (own := false) h2 h3 h4 (ckIt_ok c it _ h1) (ckE_ok true _ elt _ h5).1.1 (ckC_ok _ cond _ h6) hv (by rw [hk]; decide) hinj x ?_
    show (pure (cx.env.blockKind == .function && cx.env.kindOf v == some .local && p'.line == pos.line && !(scope.names.any fun (n, k) => n == v && (k == .local || k == .cell))) : Sem Bool) = pure true
    have a1 : cx.env.blockKind = .function := by unfold Env.blockKind; simp [x.b.cxk.kind]
    have a2 : cx.env.kindOf v = some .local := by rw [kind_is x.b.ck]; exact hk
    rw [a1, a2, show p'.line = pos.line from hl, h7]; simp
mutual
theorem ckS_ok {c : Ck} (hinj : (c.ctx.map (·.2)).Nodup) (q : Bool) : ∀ (p : PS) (x : Stmt), ckS c p x = true → SJ am n q F c p x
  | .expr e, x, h => by
    obtain ⟨y, h1, h2⟩ := any_inv h
    obtain ⟨p, rfl⟩ := yExpr_inv h1
    rw [Bool.and_eq_true] at h2
    exact s_expr h2.1 (ckE_ok q c e _ h2.2).1.1
  | .asg i e, x, h => by
    refine hold fun _ k_ => ?_
    obtain ⟨⟨ts, y⟩, h1, h2⟩ := any_inv h
    refine k_ ?_
    obtain ⟨p, rfl⟩ := yAsg_inv h1
    obtain ⟨u, rfl, h3⟩ := one_any h2
    refine hold fun _ k_ => ?_
    obtain ⟨v, p', rfl, h4⟩ := name_any h3
    refine k_ ?_
    obtain ⟨h4, h5⟩ := Bool.and_eq_true_iff.mp h4
    rcases (Bool.or_eq_true _ _).mp h5 with h5 | h5
    · simp only [Bool.and_eq_true, bne_iff_ne, ne_eq] at h5
      exact asg_ok hinj h4 h5.1 h5.2
    · simp only [Bool.and_eq_true, beq_iff_eq] at h5
      exact asgC_ok hinj h4 h5.1.1 h5.1.2 h5.2
  | .ret e, x, h => by
    obtain ⟨t, h1, h2⟩ := any_inv h
    obtain ⟨p, rfl⟩ := yRet_inv h1
    obtain ⟨y, rfl, h3⟩ := any_inv h2
    exact s_ret (ckE_ok q c e _ h3).1.1
  | .ifs t a b, x, h => by
    obtain ⟨u, h1, h2⟩ := any_inv h
    obtain ⟨p, rfl⟩ := yIf_inv h1
    simp only [Bool.and_eq_true] at h2
    exact s_if (ckE_ok q c t _ h2.1.1).1.2 (ckSs_ok hinj q a _ h2.1.2) (ckSs_ok hinj q b _ h2.2)
  | .for1 i it body, x, h => by
    refine hold fun _ k_ => ?_
    obtain ⟨⟨t, iter, ys, zs⟩, h1, h2⟩ := any_inv h
    refine k_ ?_
    obtain ⟨p, rfl⟩ := yFor_inv h1
    simp only [Bool.and_eq_true, Bool.not_eq_true', List.isEmpty_iff] at h2
    refine hold fun _ k_ => ?_
    obtain ⟨⟨⟨⟨rfl, h3⟩, h4⟩, h5⟩, h6⟩ := h2
    refine k_ ?_
    refine hold fun _ k_ => ?_
    obtain ⟨v, p', rfl, h7⟩ := name_any h5
    refine k_ ?_
    simp only [Bool.and_eq_true, bne_iff_ne, ne_eq] at h7
    cases q with
    | true => exact s_for1 h4 (ckIt_ok c it _ h3) (ckSs_ok hinj true body _ h6) h7.1 h7.2 hinj
    | false => exact fun cx ρ A res outer π₀ s₀ G π Hc s x => .inl (by simp [qS_1, qS_2, qS_3, qS_4, qS_5, qS_6, qS_7, qS_8, qS_9, qS_10, qS_11, qS_12, qS_13, qS_14])
  | .raise d, x, h => by
    refine hold fun _ k_ => ?_
    obtain ⟨⟨e, cc⟩, h1, h2⟩ := any_inv h
    refine k_ ?_
    obtain ⟨p, rfl⟩ := yRaise_inv h1
    simp only [Bool.and_eq_true, Option.isNone_iff_eq_none] at h2
    obtain ⟨rfl, h3⟩ := h2
    obtain ⟨e', rfl, h4⟩ := any_inv h3
    refine hold fun _ k_ => ?_
    obtain ⟨f, xs, q1, q2, rfl, h5⟩ := named_any h4
    refine k_ ?_
    obtain ⟨z, rfl, h6⟩ := one_any h5
    simp only [Bool.and_eq_true, beq_iff_eq] at h6
    refine hold fun _ k_ => ?_
    obtain ⟨⟨⟨rfl, h7⟩, h8⟩, h9⟩ := h6
    refine k_ ?_
    refine hold fun _ k_ => ?_
    obtain ⟨t, k, p3, rfl⟩ := strConst_inv h9
    refine k_ ?_
    exact s_raise (by simpa using h8) h7
  | .pass, x, h => by
    obtain ⟨u, h1⟩ := Option.isSome_iff_exists.mp h
    obtain ⟨p, rfl⟩ := yPass_inv h1
    exact s_pass
  | .asgT is e, x, h => by
    refine hold fun _ k_ => ?_
    obtain ⟨⟨ts, y⟩, h1, h2⟩ := any_inv h
    refine k_ ?_
    obtain ⟨p, rfl⟩ := yAsg_inv h1
    obtain ⟨u, rfl, h3⟩ := one_any h2
    obtain ⟨ts, h4, h5⟩ := any_inv h3
    obtain ⟨k, tp, rfl⟩ := xTup_inv h4
    simp only [Bool.and_eq_true, Bool.not_eq_true', Option.isNone_iff_eq_none] at h5
    cases q with
    | true => exact s_asgT h5.1.1.1 h5.1.1.2 h5.1.2 hinj (ckE_ok true c e _ h5.2).1.1
    | false => exact fun cx ρ A res outer π₀ s₀ G π Hc s x => .inl rfl
  | .setIdx .., x, h => by cases h
  | .setIdx2 .., x, h => by cases h
  | .for2 .., x, h => by cases h
  | .while .., x, h => by cases h
  | .try .., x, h => by cases h
  | .frz .., x, h => by cases h
theorem ckSs_ok {c : Ck} (hinj : (c.ctx.map (·.2)).Nodup) (q : Bool) : ∀ (ps : List PS) (xs : List Stmt), ckSs c ps xs = true → SsJ am n q F c ps xs
  | [], xs, h => by
    cases xs with
    | nil => exact ss_nil
    | cons _ _ => cases h
  | p :: ps, xs, h => by
    cases xs with
    | nil => cases h
    | cons x xs =>
      obtain ⟨h1, h2⟩ := Bool.and_eq_true_iff.mp (show (ckS c p x && ckSs c ps xs) = true from h)
      exact ss_cons (ckS_ok hinj q p x h1) (ckSs_ok hinj q ps xs h2)
end

theorem ckTry_form {c : Ck} {body hd : List PS} {d : String} {i : Nat} {x : Stmt} (h : ckTry c body d i hd x = true) :
    ∃ f ys v p p1 p2 p3 p4 tp hp, (d = "RingError" ∧ hd = [.ret (.callX f i)] ∧ x = .Try ys [.ExceptHandler (some (.Name (Str.ofString "RingError") tp)) (some v) [.Return (some (.Call (.Name (Str.ofString f) p1) [.Name v p2] [] p3)) p4] hp] [] [] p) ∧
      ckSs c body ys = true ∧ c.glob (Str.ofString "RingError") = true ∧ c.var v i = true ∧ c.names.lookup v = some .local ∧ c.glob (Str.ofString f) = true ∧ f ∈ c.fns := by
  refine hold fun _ k_ => ?_
  obtain ⟨⟨f, j⟩, h1, h2⟩ := any_inv h
  refine k_ ?_
  refine hold fun _ k_ => ?_
  obtain ⟨⟨ys, hs, o, fi⟩, h3, h4⟩ := any_inv h2
  refine k_ ?_
  obtain ⟨p, e3⟩ := yTry_inv h3
  obtain ⟨z, e4, h5⟩ := one_any h4
  obtain ⟨hp, hz⟩ := yHand_eq z
  simp only [Bool.and_eq_true, beq_iff_eq, List.isEmpty_iff] at h5
  refine hold fun _ k_ => ?_
  obtain ⟨⟨⟨⟨⟨⟨e5, e6⟩, e7⟩, e8⟩, a3⟩, a4⟩, a5⟩ := h5
  refine k_ ?_
  obtain ⟨e, e1, a6⟩ := any_inv a4
  refine hold fun _ k_ => ?_
  obtain ⟨y, tp, e9, a7⟩ := name_any a6
  refine k_ ?_
  obtain ⟨v, v1, a8⟩ := any_inv a5
  simp only [Bool.and_eq_true, beq_iff_eq] at a7 a8
  obtain ⟨⟨b1, b2⟩, b3⟩ := a8
  obtain ⟨b, b4, b5⟩ := one_any b3
  obtain ⟨r, r1, b6⟩ := any_inv b5
  obtain ⟨p4, r2⟩ := yRet_inv r1
  obtain ⟨e', r3, b7⟩ := any_inv b6
  refine hold fun _ k_ => ?_
  obtain ⟨g, xs, p1, p3, r4, b8⟩ := named_any b7
  refine k_ ?_
  simp only [Bool.and_eq_true, beq_iff_eq] at b8
  refine hold fun _ k_ => ?_
  obtain ⟨⟨⟨r5, c1⟩, c2⟩, c3⟩ := b8
  refine k_ ?_
  obtain ⟨a, r6, c4⟩ := one_any c3
  obtain ⟨p2, r7⟩ := xName_inv (of_decide_eq_true c4)
  have r8 := xHand_inv h1
  simp only at e3 e4 e5 e6 e8 r5 r8 a3
  refine ⟨f, ys, v, p, p1, p2, p3, p4, tp, hp, ⟨e7, by rw [r8, e8], ?_⟩, a3, by rw [← a7.1]; exact a7.2, b1, b2, by rw [← r5]; exact c1, by simpa using c2⟩
  rw [e3, e4, e5, e6, hz, e1, e9, a7.1, v1, b4, r2, r3, r4, r5, r6, r7]

theorem ckTry_ok {c : Ck} (hinj : (c.ctx.map (·.2)).Nodup) (q : Bool) {body hd : List PS} {d : String} {i : Nat} {x : Stmt} (h : ckTry c body d i hd x = true) ⦃cx : Cx⦄ ⦃ρ : List V⦄ ⦃A : Around⦄ ⦃res : List Addr⦄ ⦃outer : List Env⦄ ⦃π₀ : List Addr⦄ ⦃s₀ : Shared⦄ ⦃π : List Addr⦄ ⦃Hc : H⦄ ⦃s : Shared⦄
    (X : Stm am n q F c cx A res outer π₀ s₀ (fun _ _ => True) ρ π Hc s) : SP (am.at res) cx outer q A π₀ s₀ (fun _ _ => True) (fun Q E s => wpAny am.M A (exec x cx.env) Q E s) (exS q F (.try body d i hd) ρ Hc) s := by
  refine hold fun _ k_ => ?_
  obtain ⟨f, ys, v, p, p1, p2, p3, p4, tp, hp, ⟨rfl, rfl, rfl⟩, a3, a9, b1, b2, c1, c2⟩ := ckTry_form h
  refine k_ ?_
  cases q with
  | true => exact s_try (ckSs_ok hinj true _ _ a3) a9 b1 b2 hinj c1 c2 X
  | false => exact .inl rfl

/-- the body of a def -/
noncomputable def TsJ (am : Amb) (n : Nat) (q : Bool) (F : Fn) (c : Ck) (ps : List PS) (xs : List Stmt) : Prop := ∀ ⦃cx : Cx⦄ ⦃ρ : List V⦄ ⦃A : Around⦄ ⦃res : List Addr⦄ ⦃outer : List Env⦄ ⦃π₀ : List Addr⦄ ⦃s₀ : Shared⦄ ⦃π : List Addr⦄ ⦃Hc : H⦄ ⦃s : Shared⦄,
  Stm am n q F c cx A res outer π₀ s₀ (fun _ _ => True) ρ π Hc s → SP (am.at res) cx outer q A π₀ s₀ (fun _ _ => True) (fun Q E s => wpAny am.M A (execs xs cx.env) Q E s) (exSs q F ps ρ Hc) s

theorem ts_cons {q : Bool} {c : Ck} {p : PS} {ps : List PS} {y : Stmt} {ys : List Stmt}
    (h1 : ∀ ⦃cx : Cx⦄ ⦃ρ : List V⦄ ⦃A : Around⦄ ⦃res : List Addr⦄ ⦃outer : List Env⦄ ⦃π₀ : List Addr⦄ ⦃s₀ : Shared⦄ ⦃π : List Addr⦄ ⦃Hc : H⦄ ⦃s : Shared⦄, Stm am n q F c cx A res outer π₀ s₀ (fun _ _ => True) ρ π Hc s → SP (am.at res) cx outer q A π₀ s₀ (fun _ _ => True) (fun Q E s => wpAny am.M A (exec y cx.env) Q E s) (exS q F p ρ Hc) s)
    (h2 : TsJ am n q F c ps ys) : TsJ am n q F c (p :: ps) (y :: ys) := fun cx ρ A res outer π₀ s₀ π Hc s x => sp_cons x (h1 x) fun _ _ _ _ x' => h2 x'

theorem ckTs_ok {c : Ck} (hinj : (c.ctx.map (·.2)).Nodup) (q : Bool) : ∀ (ps : List PS) (xs : List Stmt), ckTs c ps xs = true → TsJ am n q F c ps xs
  | [], xs, h => by
    cases xs with
    | nil => exact fun cx ρ A res outer π₀ s₀ π Hc s x => ss_nil x
    | cons _ _ => cases h
  | p :: ps, xs, h => by
    cases xs with
    | nil => cases h
    | cons x xs =>
      obtain ⟨h1, h2⟩ := Bool.and_eq_true_iff.mp (show (ckT c p x && ckTs c ps xs) = true from h)
      refine ts_cons ?_ (ckTs_ok hinj q ps xs h2)
      intro cx ρ A res outer π₀ s₀ π Hc s X
      cases p with
      | «try» body d i hd => exact ckTry_ok hinj q h1 X
      | _ => exact ckS_ok hinj q _ _ h1 X
end

end Mine

namespace Mine
open PySem PySem.W PyProof.Rows

theorem fm_congr {α β : Type} {f g : α → Option β} : ∀ {l : List α}, (∀ x ∈ l, f x = g x) → l.filterMap f = l.filterMap g
  | [], _ => rfl
  | a :: l, h => by
    rw [List.filterMap_cons, List.filterMap_cons, h a (by simp), fm_congr fun x hx => h x (by simp [hx])]

theorem lookup_zip {ns : List Str} (hn : ns.Nodup) : ∀ {vs : List Value}, vs.length = ns.length → ns.filterMap (fun n => ((ns.zip vs).lookup n).map (n, ·)) = ns.zip vs := by
  induction ns with
  | nil => intro vs _; simp
  | cons a ns ih =>
    intro vs hl
    cases vs with
    | nil => simp at hl
    | cons v vs =>
      rw [List.nodup_cons] at hn
      simp only [List.zip_cons_cons, List.filterMap_cons, List.lookup_cons, beq_self_eq_true, Option.map_some]
      congr 1
      refine Eq.trans (fm_congr fun x hx => ?_) (ih hn.2 (vs := vs) (by simpa using hl))
      have : (x == a) = false := by
        rw [beq_eq_false_iff_ne]; rintro rfl; exact hn.1 hx
      rw [this]

theorem lookup_some {ns : List Str} : ∀ {vs : List Value}, vs.length = ns.length → ∀ n ∈ ns, ((ns.zip vs).lookup n).isSome = true := by
  induction ns with
  | nil => intro vs _ n hn; cases hn
  | cons a ns ih =>
    intro vs hl n hn
    cases vs with
    | nil => simp at hl
    | cons v vs =>
      simp only [List.zip_cons_cons, List.lookup_cons]
      cases hq : n == a with
      | true => rfl
      | false =>
        rcases List.mem_cons.mp hn with rfl | h
        · simp at hq
        · exact ih (by simpa using hl) n h

theorem bind_plain {fd : FuncData} {vals : List Value} (hp : fd.params.posonlyargs = []) (hk : fd.params.kwonlyargs = []) (hv : fd.params.vararg = none) (hw : fd.params.kwarg = none) (hd : fd.defaults = .none)
    (hn : (fd.params.args.map (·.arg)).Nodup) (hl : vals.length = fd.params.args.length) : bindArgs fd ⟨vals, []⟩ = pure ((fd.params.args.map (·.arg)).zip vals) := by
  have hl' : vals.length = (fd.params.args.map (·.arg)).length := by simpa using hl
  have hm : ((fd.params.args.map (·.arg)).filter fun n => (((fd.params.args.map (·.arg)).zip vals).lookup n).isNone) = [] := by
    rw [List.filter_eq_nil_iff]
    intro n hn'
    have := lookup_some hl' n hn'
    cases hq : ((fd.params.args.map (·.arg)).zip vals).lookup n with
    | none => rw [hq] at this; cases this
    | some _ => simp
  have hz := lookup_zip hn hl'
  unfold bindArgs
  dsimp only
  simp only [hp, hk, hv, hw, hd]
  simp only [seqItems?, List.map_nil, List.nil_append, List.append_nil, List.forIn_nil, pure_bind, Option.getD_none]
  generalize fd.params.args.map (·.arg) = ns at hl' hm hz
  have hgt : ¬ vals.length > ns.length := by omega
  simp [hgt, hm, hz]
  rfl

noncomputable def plainDefaults : Value → Bool
  | .none => true
  | _ => false
noncomputable def stmtsOf : FuncBody → Option (List Stmt)
  | .stmts b => some b
  | _ => none

/-- a def of the text is a def of the table; nm: its names, slot by slot -/
noncomputable def ckFn (fns : List String) (nums : List (String × Int)) (d : FnDef) (nm : List String) (fd : FuncData) : Bool :=
  let ns := nm.map Str.ofString
  (match stmtsOf fd.body with | some b => ckTs ⟨ns.zipIdx, fd.scope.names, fns, nums⟩ d.body b | none => false) &&
  fd.params.posonlyargs.isEmpty && fd.params.kwonlyargs.isEmpty && fd.params.vararg.isNone && fd.params.kwarg.isNone && plainDefaults fd.defaults &&
  decide (fd.params.args.map (·.arg) = ns.take d.arity) && decide (d.arity ≤ nm.length) && decide (nm.length ≤ d.slots) && decide ns.Nodup &&
  fd.closure.isEmpty && fd.scope.kind == .function && !fd.scope.isGenerator && !fd.scope.isCoroutine && decide (fd.globals = mainGlobals) && decide (fd.builtins = builtinsNs) &&
  ns.all (fun x => fd.scope.names.lookup x == some .local || fd.scope.names.lookup x == some .cell) && fd.scope.names.all (fun p => p.2 != .free)

/-- the text holds the table's defs -/
structure ProgOK (am : Amb) (P : Tab) (nm : String → List String) (fns : List String) (nums : List (String × Int)) : Prop where
  fn : ∀ f d a o fd, P f = some d → am.mg (Str.ofString f) = some (.ref a) → am.B.get? a = some o → o.data = .func fd → ckFn fns nums d (nm f) fd = true ∧ am.B.CodeRec fd.code fd.qualname
  fns : ∀ f ∈ fns, ∃ a, FunAt am f a
  nums : ∀ p ∈ nums, ∃ t, am.mg (Str.ofString p.1) = some (.int p.2 t)

theorem VR.more {am : Amb} {π : List Addr} {h : Heap} {r : List Addr} {v : V} {x : Value} : ∀ (new : List Addr), (∀ l ∈ new, h.get? l = none) → VR (am.at r) π h v x → VR (am.at (new ++ r)) π h v x
  | [], _, e => e
  | l :: new, hl, e => VR.held (am := am.at (new ++ r)) (hl l (by simp)) (VR.more new (fun a ha => hl a (by simp [ha])) e)
theorem VRs.more {am : Amb} {π : List Addr} {h : Heap} {r : List Addr} {vs : List V} {xs : List Value} : ∀ (new : List Addr), (∀ l ∈ new, h.get? l = none) → VRs (am.at r) π h vs xs → VRs (am.at (new ++ r)) π h vs xs
  | [], _, e => e
  | l :: new, hl, e => VRs.held (am := am.at (new ++ r)) (hl l (by simp)) (VRs.more new (fun a ha => hl a (by simp [ha])) e)

theorem cells_some : ∀ (names : List (Str × NameKind)) (k : Nat) (acc : List (Str × Addr)) (x : Str), (names.lookup x = some .cell ∨ (acc.lookup x).isSome = true) → ((cellsFrom k names acc).lookup x).isSome = true
  | [], k, acc, x, h => by
    rcases h with h | h
    · simp at h
    · exact h
  | (y, kd) :: r, k, acc, x, h => by
    unfold cellsFrom
    cases hxy : x == y with
    | true =>
      have hxy := beq_iff_eq.mp hxy
      subst hxy
      split
      · exact cells_some r _ _ x (.inr (by simp))
      · rename_i hk
        refine cells_some r _ _ x ?_
        rcases h with h | h
        · simp only [List.lookup_cons, beq_self_eq_true, Option.some.injEq] at h
          subst h; simp at hk
        · exact .inr h
    | false =>
      have h' : r.lookup x = some .cell ∨ (acc.lookup x).isSome = true := by
        rcases h with h | h
        · rw [List.lookup_cons, hxy] at h; exact .inl h
        · exact .inr h
      split
      · refine cells_some r _ _ x ?_
        rcases h' with h | h
        · exact .inl h
        · exact .inr (by rw [List.lookup_cons, hxy]; exact h)
      · exact cells_some r _ _ x h'

theorem bindL_get (kd : Str → Option NameKind) : ∀ (ns : List Str) (vs : List Value) (m : Str → Option Value), ns.Nodup → vs.length = ns.length → ∀ (i : Nat) (x : Str) (v : Value), ns[i]? = some x → vs[i]? = some v → kd x = some .local → bindL kd (ns.zip vs) m x = some v
  | [], vs, m, _, _, i, x, v, h, _, _ => by simp at h
  | a :: ns, [], m, _, hl, i, x, v, h, _, _ => by simp at hl
  | a :: ns, w :: vs, m, hn, hl, i, x, v, h1, h2, h3 => by
    have keep : ∀ (ns : List Str) (vs : List Value) (m : Str → Option Value) (x : Str), x ∉ ns → bindL kd (ns.zip vs) m x = m x := by
      intro ns
      induction ns with
      | nil => intro vs m x _; rfl
      | cons b ns ih =>
        intro vs m x hx
        cases vs with
        | nil => rfl
        | cons u vs =>
          simp only [List.mem_cons, not_or] at hx
          rw [List.zip_cons_cons, bindL, ih _ _ _ hx.2]
          split
          · exact if_neg hx.1
          · rfl
    rw [List.nodup_cons] at hn
    rw [List.zip_cons_cons, bindL]
    cases i with
    | zero =>
      simp only [List.getElem?_cons_zero, Option.some.injEq] at h1 h2
      subst h1 h2
      rw [keep _ _ _ _ hn.1, if_pos h3]; simp
    | succ i =>
      exact bindL_get kd ns vs _ hn.2 (by simpa using hl) i x v (by simpa using h1) (by simpa using h2) h3

theorem bindC_get (kd : Str → Option NameKind) : ∀ (ns : List Str) (vs : List Value) (m : Str → Option Value), ns.Nodup → vs.length = ns.length → ∀ (i : Nat) (x : Str) (v : Value), ns[i]? = some x → vs[i]? = some v → kd x = some .cell → bindC kd (ns.zip vs) m x = some v
  | [], vs, m, _, _, i, x, v, h, _, _ => by simp at h
  | a :: ns, [], m, _, hl, i, x, v, h, _, _ => by simp at hl
  | a :: ns, w :: vs, m, hn, hl, i, x, v, h1, h2, h3 => by
    have keep : ∀ (ns : List Str) (vs : List Value) (m : Str → Option Value) (x : Str), x ∉ ns → bindC kd (ns.zip vs) m x = m x := by
      intro ns
      induction ns with
      | nil => intro vs m x _; rfl
      | cons b ns ih =>
        intro vs m x hx
        cases vs with
        | nil => rfl
        | cons u vs =>
          simp only [List.mem_cons, not_or] at hx
          rw [List.zip_cons_cons, bindC, ih _ _ _ hx.2]
          split
          · rfl
          · exact if_neg hx.1
    rw [List.nodup_cons] at hn
    rw [List.zip_cons_cons, bindC]
    cases i with
    | zero =>
      simp only [List.getElem?_cons_zero, Option.some.injEq] at h1 h2
      subst h1 h2
      rw [keep _ _ _ _ hn.1, if_neg (by rw [h3]; simp)]; simp
    | succ i =>
      exact bindC_get kd ns vs _ hn.2 (by simpa using hl) i x v (by simpa using h1) (by simpa using h2) h3

theorem zipIdx_lookup {ns : List Str} {x : Str} {i : Nat} (h : ns.zipIdx.lookup x = some i) : ns[i]? = some x := by
  have := lookup_mem h
  rw [List.mem_zipIdx_iff_getElem?] at this
  simpa using this

theorem zipIdx_nodup (ns : List Str) : (ns.zipIdx.map (·.2)).Nodup := by
  have : ns.zipIdx.map (·.2) = List.range ns.length := by
    apply List.ext_getElem
    · simp
    · intro i h1 h2; simp
  rw [this]; exact List.nodup_range
end Mine

namespace Mine
open PySem PySem.W PyProof.Rows

section
variable {am : Amb} {P : Tab} {nm : String → List String} {fns : List String} {nums : List (String × Int)}

theorem VRs.len' {am : Amb} {π : List Addr} {h : Heap} {vs : List V} {xs : List Value} (e : VRs am π h vs xs) : xs.length = vs.length := by
  have := e.len; omega

theorem args_len {am : Amb} {q : Bool} {π : List Addr} {h : Heap} {vs : List V} {xs : List Value} (e : ArgR am q π h vs xs) : xs.length = vs.length := by
  rcases e with e | ⟨_, c, a, rfl, rfl, _⟩
  · exact e.len'
  · rfl

/-- an argument, as the frame will read it -/
theorem args_get {am : Amb} {q : Bool} {π : List Addr} {h : Heap} {vs : List V} {xs : List Value} (e : ArgR am q π h vs xs) {i : Nat} {v : V} (hv : vs[i]? = some v) : ∃ x, xs[i]? = some x ∧ SR am π h v x := by
  rcases e with e | ⟨_, c, a, rfl, rfl, h1, h2⟩
  · obtain ⟨x, h1, h2⟩ := e.get i v hv
    exact ⟨x, h1, .inl h2⟩
  · cases i with
    | zero =>
      simp only [List.getElem?_cons_zero, Option.some.injEq] at hv
      subst hv
      exact ⟨_, rfl, .inr ⟨c, a, rfl, rfl, h1, h2⟩⟩
    | succ i => simp at hv

theorem run_ok (ok : AmbX am) (pk : ProgOK am P nm fns nums) : ∀ n, FnOK am n (run P n)
  | 0 => ⟨fun res q f a vs xs stack A π Hc s _ _ _ _ _ => .inl rfl⟩
  | n + 1 => ⟨fun res q f a vs xs stack A π Hc s fa as hr hd ha => by
    have IH := run_ok ok pk n
    refine hold fun _ k_ => ?_
    obtain ⟨hga, o, fd, ho, hdata⟩ := fa
    refine k_ ?_
    show JAt _ _ _ _ (match P f with | some d => runD q (run P n) d vs Hc | Option.none => .bad) _ _ _
    cases hP : P f with
    | none => exact .inl rfl
    | some d =>
    simp only
    obtain ⟨hck, hcode⟩ := pk.fn f d a o fd hP hga ho hdata
    unfold runD
    by_cases hlen' : ¬ vs.length = d.arity
    · rw [if_neg hlen']; exact .inl rfl
    have hlen := Classical.not_not.mp hlen'
    rw [if_pos hlen]
    unfold ckFn at hck
    simp only [Bool.and_eq_true, decide_eq_true_eq, beq_iff_eq, Bool.not_eq_true', List.isEmpty_iff, Option.isNone_iff_eq_none] at hck
    refine hold fun _ k_ => ?_
    obtain ⟨⟨⟨⟨⟨⟨⟨⟨⟨⟨⟨⟨⟨⟨⟨⟨⟨k1, k2⟩, k3⟩, k4⟩, k5⟩, k6⟩, k7⟩, k8⟩, k9⟩, k10⟩, k11⟩, k12⟩, k13⟩, k14⟩, k15⟩, k16⟩, k17⟩, k18⟩ := hck
    refine k_ ?_
    cases hb : stmtsOf fd.body with
    | none => rw [hb] at k1; cases k1
    | some body =>
    rw [hb] at k1
    simp only at k1
    have hbody : fd.body = .stmts body := by
      cases hq : fd.body with
      | stmts b => rw [hq] at hb; cases hb; rfl
      | expr e => rw [hq] at hb; cases hb
    have hdef : fd.defaults = .none := by
      cases hq : fd.defaults <;> rw [hq] at k6 <;> first | rfl | cases k6
    let ns := (nm f).map Str.ofString
    let c : Ck := ⟨ns.zipIdx, fd.scope.names, fns, nums⟩
    have hns : ns.Nodup := k10
    have hpn : fd.params.args.map (·.arg) = ns.take d.arity := k7
    have hnl : ns.length = (nm f).length := by simp [ns]
    have hxl : xs.length = d.arity := by rw [args_len ha, hlen]
    have hpl : fd.params.args.length = d.arity := by
      have := congrArg List.length hpn
      rw [List.length_map, List.length_take] at this
      omega
    have hbind : bindArgs fd ⟨xs, []⟩ = pure ((ns.take d.arity).zip xs) := by
      rw [← hpn]
      refine bind_plain k2 k3 k4 k5 hdef ?_ (by omega)
      rw [hpn]; exact hns.sublist (List.take_sublist _ _)
    have hkind : ∀ x ∈ ns, fd.scope.names.lookup x = some .local ∨ fd.scope.names.lookup x = some .cell := fun x hx => by
      have := List.all_eq_true.mp k17 x hx
      simpa using this
    have TS := ckTs_ok (am := am) (n := n) (F := run P n) (c := c) (zipIdx_nodup ns) q d.body body k1
    -- the call
    have hlim : s.heap.NoLimit := ok.nolimit.keeps hr.base
    by_cases hbad : exSs q (run P n) d.body (vs ++ List.replicate (d.slots - d.arity) .undef) Hc = .bad
    · rw [hbad]; exact .inl rfl
    refine .inr (wpAny_call (codeAny_call_cells (binds := (ns.take d.arity).zip xs) (body := body) (o := o) (fd := fd) (by have := as.depth; unfold recursionLimit; omega) (hr.base a o ho) hdata hlim (hcode.keeps hr.base) hbody hbind k11 (fun x hx => ?_) (fun s₁ I => ?_) k14 k13 k12))
    · have hm : x.1 ∈ ns := List.mem_of_mem_take (List.of_mem_zip hx).1
      rcases hkind x.1 hm with h | h
      · exact .inl h
      · exact .inr ⟨h, cells_some _ _ _ _ (.inl h)⟩
    generalize hE : callEnvC fd s.heap.objs.size a = env at I
    have eloc : env.locals = s.heap.objs.size := by rw [← hE]; rfl
    have efr : env.frame = some env.locals := by rw [← hE]; rfl
    have esc : env.scope = fd.scope := by rw [← hE]; rfl
    have egl : env.globals = mainGlobals := by rw [← hE]; exact k15
    have ebl : env.builtins = builtinsNs := by rw [← hE]; exact k16
    have ecl : env.cells = cellsFrom (s.heap.objs.size + 1) fd.scope.names [] := by rw [← hE]; rfl
    have ekd : ∀ x, env.kindOf x = fd.scope.names.lookup x := fun x => by unfold Env.kindOf; rw [esc]
    have hfresh : ∀ b, s.heap.objs.size ≤ b → s.heap.get? b = none := fun b hb => by
      cases hq : s.heap.get? b with
      | none => rfl
      | some o' => exact absurd (Heap.lt_size hq) (Nat.not_lt_of_le hb)
    have fL : s.heap.get? env.locals = none := hfresh _ (by rw [eloc]; exact Nat.le_refl _)
    have fC : ∀ x cc, (x, cc) ∈ env.cells → s.heap.get? cc = none := fun x cc h => hfresh _ (Nat.le_of_lt (eloc ▸ I.above x cc h))
    let new : List Addr := env.locals :: env.cells.filterMap fun p => env.cells.lookup p.1
    have hcm : ∀ l, l ∈ env.cells.filterMap (fun p => env.cells.lookup p.1) → ∃ y, env.cells.lookup y = some l := by
      intro l hl
      obtain ⟨p, _, h2⟩ := List.mem_filterMap.mp hl
      exact ⟨p.1, h2⟩
    have hmc : ∀ y l, env.cells.lookup y = some l → l ∈ env.cells.filterMap (fun p => env.cells.lookup p.1) := fun y l h => List.mem_filterMap.mpr ⟨(y, l), mem_of_lookup h, h⟩
    have hnew : ∀ l ∈ new, s.heap.get? l = none := by
      intro l hl
      rcases List.mem_cons.mp hl with rfl | hl
      · exact fL
      · obtain ⟨y, h1⟩ := hcm l hl
        exact fC y l (mem_of_lookup h1)
    have keep := I.toInCall.keep
    have nfL := Ns.nf I.toInCall.ns
    have bn : ∀ l, s.heap.get? l = none → am.B.get? l = none := fun l h => none_of_stays hr.base h
    have hdn : ∀ a' ∈ π, ∃ o, s.heap.get? a' = some o := by
      intro a' ha'
      obtain ⟨i, hi, e1⟩ := List.getElem_of_mem ha'
      have h1 : π[i]? = some a' := by rw [List.getElem?_eq_getElem hi, e1]
      have h2 : i < Hc.length := by rw [← hr.len]; exact hi
      have := hr.cell i Hc[i] a' (by simp [h2]) h1
      cases hc : Hc[i] with
      | list us => rw [hc] at this; obtain ⟨_, ⟨o, _, ho, _⟩, _⟩ := this; exact ⟨o, ho⟩
      | dict es => rw [hc] at this; exact this.elim
    have offN : ∀ l, s.heap.get? l = none → l ∉ π := fun l h hm => by obtain ⟨o, ho⟩ := hdn l hm; rw [h] at ho; cases ho
    -- the state at the body's start
    let cx : Cx := ⟨env, env :: stack, ns.zipIdx⟩
    have hr1 : HR (am.at (new ++ res)) (env :: stack) π Hc s₁.heap := by
      refine ⟨fun b o e => keep b o (hr.base b o e), ⟨by rw [esc, k12]; simp, ?_, hr.frames.of_keeps fun b o e _ => ⟨o, keep b o e, rfl⟩⟩, hr.len, hr.nodup, ?_, ?_, ?_⟩
      · obtain ⟨o, ho, hn⟩ := nfL
        exact ⟨env.locals, o, efr, bn _ fL, ho, hn⟩
      · intro l hl
        rcases List.mem_append.mp hl with hl | hl
        · rcases List.mem_cons.mp hl with rfl | hl
          · exact nfL
          · obtain ⟨y, h1⟩ := hcm l hl
            obtain ⟨o, ho, hd'⟩ := I.cell y l h1
            exact ⟨o, ho, fun us q => by rw [hd'] at q; cases q⟩
        · obtain ⟨o, ho, hn⟩ := hr.res l hl
          exact ⟨o, keep l o ho, hn⟩
      · intro l hl
        refine ⟨(hr.off l hl).1, ?_⟩
        rw [List.filterMap_cons, efr]
        rw [List.mem_cons, not_or]
        exact ⟨fun q => offN _ fL (q ▸ hl), (hr.off l hl).2⟩
      · intro i cc l h1 h2
        have := hr.cell i cc l h1 h2
        cases cc with
        | list us =>
          refine hold fun _ k_ => ?_
          obtain ⟨ys, q1, q2, q3⟩ := this
          refine k_ ?_
          exact (show CellAt (am.at (new ++ res)) π s.heap (.list us) l from ⟨ys, q1, q2, VRs.more new hnew q3⟩).keeps keep
        | dict es => exact this
    have sr1 : ∀ {v : V} {x : Value}, SR (am.at res) π s.heap v x → SR (am.at (new ++ res)) π s₁.heap v x := by
      intro v x e
      rcases e with e | ⟨d', b, e1, e2, e3, C, o', us, e4, e5, e6⟩
      · exact .inl ((VR.more new hnew e).keeps keep)
      · exact .inr ⟨d', b, e1, e2, e3, C, o', us, e4, keep b o' e5, e6⟩
    have er1 : ER (am.at (new ++ res)) cx (vs ++ List.replicate (d.slots - d.arity) .undef) π s₁.heap := by
      refine ⟨⟨_, I.toInCall.ns⟩, offN _ fL, fun y l hl => ⟨offN _ (fC y l (mem_of_lookup hl)), ?_, _, I.cell y l hl⟩, fun x y l h1 h2 => ?_, fun x i v h1 h2 h3 h4 => ?_⟩
      · exact Nat.ne_of_gt (I.above y l (mem_of_lookup hl))
      · exact name_of_addr I.apart (mem_of_lookup h1) (mem_of_lookup h2)
      · have hx : ns[i]? = some x := zipIdx_lookup h1
        have hi : i < vs.length := by
          rcases Nat.lt_or_ge i vs.length with h | h
          · exact h
          · rw [List.getElem?_append_right h] at h2
            have := List.mem_of_getElem? h2
            rw [List.mem_replicate] at this
            exact absurd this.2 h3
        rw [List.getElem?_append_left hi] at h2
        obtain ⟨xv, h5, h6⟩ := args_get ha h2
        have hxi : (ns.take d.arity)[i]? = some x := by rw [List.getElem?_take_of_lt (by omega)]; exact hx
        have hnt : (ns.take d.arity).Nodup := hns.sublist (List.take_sublist _ _)
        have hlt : xs.length = (ns.take d.arity).length := by rw [List.length_take]; omega
        refine ⟨xv, ?_, sr1 h6⟩
        rcases hkind x (List.mem_of_getElem? hx) with hk | hk
        · have hk' : env.kindOf x = some .local := by rw [ekd]; exact hk
          exact .inl ⟨hk', _, I.toInCall.ns, bindL_get _ _ _ _ hnt hlt i x xv hxi h5 hk'⟩
        · have hk' : env.kindOf x = some .cell := by rw [ekd]; exact hk
          have hcs := cells_some fd.scope.names (s.heap.objs.size + 1) [] x (.inl hk)
          rw [← ecl] at hcs
          obtain ⟨l, hl⟩ := Option.isSome_iff_exists.mp hcs
          refine .inr ⟨.inl hk', l, hl, ?_⟩
          have := I.cell x l hl
          rw [bindC_get _ _ _ _ hnt hlt i x xv hxi h5 hk'] at this
          exact this
    have as1 : AS n (env :: stack) (A.deeper env) := by
      refine ⟨?_, ?_, ?_⟩
      · show A.frames.map (env :: ·) = _; rw [as.frames]; rfl
      · show A.depth + 1 + n < 800; have := as.depth; omega
      · show A.units + 3 + 10 * n < 9000; have := as.units; omega
    have hd1 : Hd q (A.deeper env) π (Fs (env :: stack)) s₁.heap := by
      unfold Hd at hd ⊢
      split
      · rename_i hq; rw [if_pos hq] at hd; exact hd
      · rename_i hq
        rw [if_neg hq] at hd
        refine hold fun _ k_ => ?_
        obtain ⟨he, o', us, e1, e2, e3, e4, e5⟩ := hd
        refine k_ ?_
        refine ⟨he, o', us, e1, e2, ?_, keep he o' e4, e5⟩
        simp only [Fs, List.filterMap_cons, efr, List.mem_cons, not_or]
        exact ⟨(fun q' => by rw [q', fL] at e4; cases e4), e3⟩
    have topE : TopEnv env := ⟨by rw [esc]; exact k13, by rw [esc]; exact k14, egl, ebl⟩
    have cxk : CxOK cx := by
      refine ⟨fun x hx => ?_, by show env.scope.kind = _; rw [esc]; exact k12, egl, ebl, ⟨env, stack, rfl, rfl, topE⟩⟩
      rcases hx with hx | hx
      · have hx : fd.scope.names.lookup x = some .cell := by rw [← ekd]; exact hx
        have hcs := cells_some fd.scope.names (s.heap.objs.size + 1) [] x (.inl hx)
        rw [← ecl] at hcs
        exact Option.isSome_iff_exists.mp hcs
      · have hx : fd.scope.names.lookup x = some .free := by rw [← ekd]; exact hx
        have := List.all_eq_true.mp k18 _ (lookup_mem hx)
        simp at this
    have ne1 : q = true → NoExc (vs ++ List.replicate (d.slots - d.arity) .undef) := by
      intro hq v hv k hk
      subst hk
      rcases List.mem_append.mp hv with hv | hv
      · rcases ha with ha | ⟨h, _⟩
        · obtain ⟨i, hi, e1⟩ := List.getElem_of_mem hv
          obtain ⟨x, _, h2⟩ := ha.get i (.exc k) (by rw [List.getElem?_eq_getElem hi, e1])
          exact h2
        · rw [hq] at h; cases h
      · rw [List.mem_replicate] at hv; cases hv.2
    have st1 : Step (Fs stack) π s π s₁ := by
      obtain ⟨h', tk, e⟩ := I.toInCall.same
      exact ⟨⟨h', tk, e⟩, .of_keeps keep, [], by simp, by simp⟩
    have X : Stm am n q (run P n) c cx (A.deeper env) (new ++ res) stack π s (fun _ _ => True) (vs ++ List.replicate (d.slots - d.arity) .undef) π Hc s₁ :=
      ⟨⟨ok, IH, ⟨rfl, by show env.scope.names = _; rw [esc], pk.fns, pk.nums⟩, cxk, as1, ne1⟩,
        ⟨⟨rfl, efr⟩, List.mem_append.mpr (.inl List.mem_cons_self), bn _ fL, fL, fun y l hl => ⟨List.mem_append.mpr (.inl (List.mem_cons_of_mem _ (hmc y l hl))), bn _ (fC y l (mem_of_lookup hl)), fC y l (mem_of_lookup hl)⟩⟩,
        st1, ⟨hr1, er1, hd1⟩, fun b o e => hideAll_get _ (hr.base b o e) (by
          rw [List.mem_append, not_or]
          refine ⟨fun hm => ?_, fun hm => ?_⟩
          · have z : am.B.get? b = none := (hr.off b hm).1
            rw [z] at e; cases e
          · have z : am.B.get? b = none := (hr.frames.mem hm).1
            rw [z] at e; cases e), trivial, fun _ _ _ _ _ _ => trivial⟩
    have down : ∀ {π' : List Addr} {H' : H} {h' : Heap}, HR (am.at (new ++ res)) (env :: stack) π' H' h' → HR (am.at res) stack π' H' h' := fun {π' H' h'} z => by
      have z := HR.sub (am := am) (r := new ++ res) (r' := res) (fun a ha => List.mem_append.mpr (.inr ha)) z
      refine ⟨z.base, z.frames.2.2, z.len, z.nodup, z.res, fun a ha => ⟨(z.off a ha).1, ?_⟩, z.cell⟩
      have := (z.off a ha).2
      rw [List.filterMap_cons, efr, List.mem_cons, not_or] at this
      exact this.2
    rcases TS X with h | h
    · exact absurd h hbad
    refine wpAny_mono h (fun fl s' z => ?_) fun y s' z => ?_
    · refine hold fun _ k_ => ?_
      obtain ⟨fl', ρ', H', π', z1, z2, z3, z4, z5, _⟩ := z
      refine k_ ?_
      rw [z1]
      cases fl' with
      | next => cases z5; exact ⟨.none, H', π', rfl, z2, down z3.hr, rfl⟩
      | ret w => obtain ⟨xv, rfl, hxv⟩ := z5; exact ⟨w, H', π', rfl, z2, down z3.hr, hxv.sub fun a ha => List.mem_append.mpr (.inr ha)⟩
    · refine hold fun _ k_ => ?_
      obtain ⟨d', ρ', H', π', e, C, fl, z1, rfl, z3, z4, z5, z6, z7⟩ := z
      refine k_ ?_
      have fl' := frames_low (π₀ := π) X.f z5.hr
      refine x_leave as1.frames fl' efr z7 fun h' x' t' => ?_
      rw [z1]
      refine ⟨d', H', π', e, C, _, rfl, rfl, z3, z4.touch X.f z5.hr t', ?_, x'⟩
      exact (down z5.hr).upto t'.slots fun b o e => t'.stays b o (X.low b o e)⟩
end

end Mine

namespace Mine


/-- a fork on a truth -/
noncomputable def forkR {α : Type} (o : Option Bool) (a b : Unit → R α) : R α :=
  match o with
  | some true => a ()
  | some false => b ()
  | none => .bad
@[simp] theorem forkR_t {α : Type} (a b : Unit → R α) : forkR (some true) a b = a () := rfl
@[simp] theorem forkR_f {α : Type} (a b : Unit → R α) : forkR (some false) a b = b () := rfl
noncomputable def forkS (o : Option Bool) (a b : Unit → RS) : RS :=
  match o with
  | some true => a ()
  | some false => b ()
  | none => .bad
@[simp] theorem forkS_t (a b : Unit → RS) : forkS (some true) a b = a () := rfl
@[simp] theorem forkS_f (a b : Unit → RS) : forkS (some false) a b = b () := rfl

/-- the table's lists, as functions -/
noncomputable def tabOf (tl : List (String × FnDef × List String)) : Tab := fun f => (tl.lookup f).map (·.1)
noncomputable def nmOf (tl : List (String × FnDef × List String)) : String → List String := fun f => ((tl.lookup f).map (·.2)).getD []


variable (q : Bool) (F : Fn) (ρ : List V) (h : H)

@[simp] theorem truthy_bool (b : Bool) : truthy (.bool b) = some b := rfl

@[simp] theorem e_not (a : PE) : evE q F ρ (.not a) h = (evE q F ρ a h).bind fun x h => R.opt ((truthy x).map fun b => .bool (!b)) h := by
  rw [qE_9]; congr 1; funext x h; cases truthy x <;> rfl
@[simp] theorem e_and1 (e : PE) : evAnd q F ρ [e] h = evE q F ρ e h := rfl
@[simp] theorem e_and2 (e d : PE) (es : List PE) : evAnd q F ρ (e :: d :: es) h = (evE q F ρ e h).bind fun x h => forkR (truthy x) (fun _ => evAnd q F ρ (d :: es) h) (fun _ => .ok x h) := rfl
@[simp] theorem e_or1 (e : PE) : evOr q F ρ [e] h = evE q F ρ e h := rfl
@[simp] theorem e_or2 (e d : PE) (es : List PE) : evOr q F ρ (e :: d :: es) h = (evE q F ρ e h).bind fun x h => forkR (truthy x) (fun _ => .ok x h) (fun _ => evOr q F ρ (d :: es) h) := rfl
@[simp] theorem e_ite (t a b : PE) : evE q F ρ (.ite t a b) h = (evE q F ρ t h).bind fun x h => forkR (truthy x) (fun _ => evE q F ρ a h) (fun _ => evE q F ρ b h) := rfl
@[simp] theorem e_cmp2 (o1 o2 : Cop) (a b c : PE) : evE q F ρ (.cmp2 o1 o2 a b c) h = (evE q F ρ a h).bind fun x h => (evE q F ρ b h).bind fun y h =>
    forkR (pyCmp o1 h x y) (fun _ => (evE q F ρ c h).bind fun z h => R.opt ((pyCmp o2 h y z).map .bool) h) (fun _ => .ok (.bool false) h) := rfl
@[simp] theorem s_ifs (t : PE) (a b : List PS) : exS q F (.ifs t a b) ρ h = (evE q F ρ t h).st ρ fun x h => forkS (truthy x) (fun _ => exSs q F a ρ h) (fun _ => exSs q F b ρ h) := rfl

/-- the value of a name -/
noncomputable def varR (o : Option V) (h : H) : R V :=
  match o with
  | some .undef => .bad
  | some (.exc _) => .bad
  | some v => .ok v h
  | none => .bad
@[simp] theorem e_var (i : Nat) : evE q F ρ (.var i) h = varR ρ[i]? h := rfl
@[simp] theorem varR_int (i : Int) : varR (some (.int i)) h = .ok (.int i) h := rfl
@[simp] theorem varR_bool (i : Bool) : varR (some (.bool i)) h = .ok (.bool i) h := rfl
@[simp] theorem varR_none : varR (some .none) h = .ok .none h := rfl
@[simp] theorem varR_str (i : String) : varR (some (.str i)) h = .ok (.str i) h := rfl
@[simp] theorem varR_tup (i : List V) : varR (some (.tup i)) h = .ok (.tup i) h := rfl
@[simp] theorem varR_lst (i : List V) : varR (some (.lst i)) h = .ok (.lst i) h := rfl
@[simp] theorem varR_ref (i : Nat) : varR (some (.ref i)) h = .ok (.ref i) h := rfl
@[simp] theorem varR_dct : varR (some .dct) h = .ok .dct h := rfl

/-- a value that a name may have -/
noncomputable def V.val : V → Prop
  | .undef => False
  | .exc _ => False
  | _ => True
theorem varR_val {v : V} (hv : v.val) : varR (some v) h = .ok v h := by cases v <;> first | rfl | exact hv.elim


@[simp] theorem e_none : evE q F ρ .none h = .ok .none h := rfl
@[simp] theorem e_bool (b : Bool) : evE q F ρ (.bool b) h = .ok (.bool b) h := rfl
@[simp] theorem e_int (i : Int) : evE q F ρ (.int i) h = .ok (.int i) h := rfl
@[simp] theorem e_str (s : String) : evE q F ρ (.str s) h = .ok (.str s) h := rfl
@[simp] theorem e_glob (g : String) (i : Int) : evE q F ρ (.glob g i) h = .ok (.int i) h := rfl
@[simp] theorem e_neg (i : Int) : evE q F ρ (.neg i) h = .ok (.int (-i)) h := rfl
@[simp] theorem e_bin (op : Bop) (a b : PE) : evE q F ρ (.bin op a b) h = (evE q F ρ a h).bind fun x h => (evE q F ρ b h).bind fun y h => R.opt (pyBin op h x y) h := rfl
@[simp] theorem e_and (es : List PE) : evE q F ρ (.and es) h = evAnd q F ρ es h := rfl
@[simp] theorem e_or (es : List PE) : evE q F ρ (.or es) h = evOr q F ρ es h := rfl
@[simp] theorem e_cmp (op : Cop) (a b : PE) : evE q F ρ (.cmp op a b) h = (evE q F ρ a h).bind fun x h => (evE q F ρ b h).bind fun y h => R.opt ((pyCmp op h x y).map .bool) h := rfl
@[simp] theorem e_list (es : List PE) : evE q F ρ (.list es) h = (evEs q F ρ es h).bind fun vs h => R.opt (mkL vs) h := rfl
@[simp] theorem e_tup (es : List PE) : evE q F ρ (.tup es) h = (evEs q F ρ es h).bind fun vs h => R.opt (mkT vs) h := rfl
@[simp] theorem e_dict0 : evE q F ρ .dict0 h = .ok .dct h := rfl
@[simp] theorem e_idx (a i : PE) : evE q F ρ (.idx a i) h = (evE q F ρ a h).bind fun x h => (evE q F ρ i h).bind fun y h => R.opt (pyIdx h x y) h := rfl
@[simp] theorem e_slice (a : PE) (lo hi : Option PE) : evE q F ρ (.slice a lo hi) h = (evE q F ρ a h).bind fun x h => (evO q F ρ lo h).bind fun l h => (evO q F ρ hi h).bind fun u h => R.opt (pySlice h x l u) h := rfl
@[simp] theorem e_isinst (a : PE) (ts : List Ty) : evE q F ρ (.isinst a ts) h = (evE q F ρ a h).bind fun x h => R.opt ((isTys h x ts).map .bool) h := rfl
noncomputable def excR (o : Option V) (h : H) (f : String → R V) : R V :=
  match o with
  | some (.exc c) => f c
  | _ => .bad
@[simp] theorem excR_some (c : String) (f : String → R V) : excR (some (.exc c)) h f = f c := rfl
@[simp] theorem e_isexc (x : Nat) (t : Ty) : evE q F ρ (.isexc x t) h = excR ρ[x]? h fun c => R.opt ((isExc c t).map .bool) h := rfl
@[simp] theorem e_callX (f : String) (x : Nat) : evE q F ρ (.callX f x) h = excR ρ[x]? h fun c => pcall h (F q f [.exc c] h) := rfl
@[simp] theorem e_bf (f : Bf) (a : PE) : evE q F ρ (.bf f a) h = if (!q && f.walks) || !f.ready then .bad else (evE q F ρ a h).bind fun x h => R.opt (Mine.bf f h x) h := rfl
@[simp] theorem e_join0 (a : PE) : evE q F ρ (.join0 a) h = if !q then .bad else (evE q F ρ a h).bind fun x h => R.opt ((litems h x).bind fun vs => (joinStrs vs).map .str) h := rfl
noncomputable def lstR (r : R (List V)) : R V :=
  match r with
  | .ok r h => R.opt (mkL r) h
  | _ => .bad
@[simp] theorem lstR_ok (r : List V) : lstR (.ok r h) = R.opt (mkL r) h := rfl
@[simp] theorem e_comp (elt : PE) (x : Nat) (it : PIt) (cond : Option PE) : evE q F ρ (.comp elt x it cond) h = if !q then .bad else (evIt q F ρ it h).bind fun vs h =>
      lstR (compL vs.2 (fun v h => evE q F (ρ.set x v) elt h) (fun v h => evC q F (ρ.set x v) cond h) vs.1 h) := rfl
@[simp] theorem e_callF (f : String) (args : List PE) : evE q F ρ (.call false f args) h = (evEs q F ρ args h).bind fun vs h => pcall h (F q f vs h) := rfl
@[simp] theorem e_callT (f : String) (args : List PE) : evE q F ρ (.call true f args) h = (evEs q F ρ args h).bind fun vs h => F q f vs h := rfl
noncomputable def ownR (v : V) (h : H) : R V :=
  match v with
  | .lst vs => .ok (.ref h.length) (h ++ [.list vs])
  | _ => .bad
@[simp] theorem ownR_lst (vs : List V) : ownR (.lst vs) h = .ok (.ref h.length) (h ++ [.list vs]) := rfl
@[simp] theorem e_own (a : PE) : evE q F ρ (.own a) h = (evE q F ρ a h).bind fun x h => ownR x h := rfl
@[simp] theorem e_append (o a : PE) : evE q F ρ (.append o a) h = (evE q F ρ o h).bind fun x h => if lcell h x then (evE q F ρ a h).bind fun y h => onList h x fun vs => some (.none, vs ++ [y]) else .bad := rfl
@[simp] theorem es_nil : evEs q F ρ [] h = .ok [] h := rfl
@[simp] theorem es_cons (e : PE) (es : List PE) : evEs q F ρ (e :: es) h = (evE q F ρ e h).bind fun v h => (evEs q F ρ es h).bind fun vs h => .ok (v :: vs) h := rfl
@[simp] theorem o_none : evO q F ρ Option.none h = .ok Option.none h := rfl
@[simp] theorem o_some (e : PE) : evO q F ρ (some e) h = (evE q F ρ e h).bind fun v h => .ok (some v) h := rfl
@[simp] theorem c_none : evC q F ρ Option.none h = .ok (.bool true) h := rfl
@[simp] theorem c_some (e : PE) : evC q F ρ (some e) h = evE q F ρ e h := rfl
@[simp] theorem i_seq (e : PE) : evIt q F ρ (.seq e) h = (evE q F ρ e h).bind fun x h => R.opt (iterOf h x) h := rfl
noncomputable def rngR (v : V) (h : H) : R (List V × Watch) :=
  match v with
  | .int n => if -1000000 ≤ n ∧ n ≤ 1000000 then .ok (upto n, Option.none) h else .bad
  | _ => .bad
theorem rngR_int {n : Int} (h1 : -1000000 ≤ n) (h2 : n ≤ 1000000) : rngR (.int n) h = .ok (upto n, Option.none) h := by simp [rngR, h1, h2]
@[simp] theorem i_range1 (a : PE) : evIt q F ρ (.range1 a) h = (evE q F ρ a h).bind fun x h => rngR x h := rfl
noncomputable def rng2R (v w : V) (h : H) : R (List V × Watch) :=
  match v, w with
  | .int m, .int n => if -1000000 ≤ m ∧ m ≤ 1000000 ∧ -1000000 ≤ n ∧ n ≤ 1000000 then .ok (fromTo m n, Option.none) h else .bad
  | _, _ => .bad
@[simp] theorem i_range2 (a b : PE) : evIt q F ρ (.range2 a b) h = (evE q F ρ a h).bind fun x h => (evE q F ρ b h).bind fun y h => rng2R x y h := rfl

-- statements
@[simp] theorem ss_nil' : exSs q F [] ρ h = .ok .next ρ h := rfl
@[simp] theorem ss_cons' (s : PS) (ss : List PS) : exSs q F (s :: ss) ρ h = (exS q F s ρ h).then fun ρ h => exSs q F ss ρ h := rfl
noncomputable def noneS (v : V) (ρ : List V) (h : H) : RS :=
  match v with
  | .none => .ok .next ρ h
  | _ => .bad
@[simp] theorem noneS_none : noneS .none ρ h = .ok .next ρ h := rfl
@[simp] theorem s_expr' (e : PE) : exS q F (.expr e) ρ h = (evE q F ρ e h).st ρ fun v h => noneS v ρ h := rfl
@[simp] theorem s_asg' (x : Nat) (e : PE) : exS q F (.asg x e) ρ h = (evE q F ρ e h).st ρ fun v h => .ok .next (ρ.set x v) h := rfl
@[simp] theorem s_ret' (e : PE) : exS q F (.ret e) ρ h = (evE q F ρ e h).st ρ fun v h => .ok (.ret v) ρ h := rfl
@[simp] theorem s_pass' : exS q F .pass ρ h = .ok .next ρ h := rfl
@[simp] theorem s_for1' (x : Nat) (it : PIt) (body : List PS) : exS q F (.for1 x it body) ρ h = if !q then .bad else (evIt q F ρ it h).st ρ fun vs h => forL vs.2 (bind1 x) (fun ρ h => exSs q F body ρ h) vs.1 ρ h := rfl
@[simp] theorem s_raise' (c : String) : exS q F (.raise c) ρ h = if !q then .bad else .err c ρ h := rfl
noncomputable def catchS (c : String) (r : RS) (f : String → List V → H → RS) : RS :=
  match r with
  | .err d ρ h => if excNames.contains d && c == "RingError" then f d ρ h else .bad
  | r => r
noncomputable def doneS (x : Nat) (r : RS) : RS :=
  match r with
  | .ok f ρ h => .ok f (ρ.set x .undef) h
  | _ => .bad
@[simp] theorem doneS_ok (x : Nat) (f : Fl) : doneS x (.ok f ρ h) = .ok f (ρ.set x .undef) h := rfl
@[simp] theorem catchS_ok (c : String) (g : Fl) (f : String → List V → H → RS) : catchS c (.ok g ρ h) f = .ok g ρ h := rfl
theorem catchS_err (d : String) (hd : d ∈ excNames) (f : String → List V → H → RS) : catchS "RingError" (.err d ρ h) f = f d ρ h := by simp [catchS, hd]
@[simp] theorem s_try' (body : List PS) (c : String) (x : Nat) (hd : List PS) : exS q F (.try body c x hd) ρ h = if !q then .bad else catchS c (exSs q F body ρ h) fun d ρ h => doneS x (exSs false F hd (ρ.set x (.exc d)) h) := by
  rw [qS_12]
  cases q with
  | false => rfl
  | true =>
    simp only [catchS]
    cases exSs true F body ρ h with
    | ok f ρ h => rfl
    | bad => rfl
    | err d ρ h =>
      by_cases e : (excNames.contains d && c == "RingError") = true
      · simp only [e, if_true, Bool.not_true, Bool.false_eq_true, if_false]
        cases exSs false F hd (ρ.set x (.exc d)) h <;> rfl
      · simp only [e, if_false, Bool.not_true, Bool.false_eq_true]


theorem runD_eq (d : FnDef) (vs : List V) (hl : vs.length = d.arity) : runD q F d vs h = (exSs q F d.body (vs ++ List.replicate (d.slots - d.arity) .undef) h).out := by
  simp [runD, hl]

/-- a loop that comes to its end; the state before round i is f i w, w what the loop's name holds -/
theorem forL_idx {t : Watch} {x : Nat} {body : List V → H → RS} (vs : List V) (f : Nat → V → List V) (g : Nat → H) (ht : ∀ i, t.ok (g i) = true)
    (hb : ∀ i w, (hi : i < vs.length) → body ((f i w).set x vs[i]) (g i) = .ok .next (f (i + 1) vs[i]) (g (i + 1))) (w : V) :
    ∃ w', forL t (bind1 x) body vs (f 0 w) (g 0) = .ok .next (f vs.length w') (g vs.length) := by
  have key : ∀ (n : Nat) (us : List V) (k : Nat) (w : V), k + us.length = n → n = vs.length → (∀ i (hi : i < us.length) (hj : k + i < vs.length), us[i] = vs[k + i]) →
      ∃ w', forL t (bind1 x) body us (f k w) (g k) = .ok .next (f n w') (g n) := by
    intro n us
    induction us with
    | nil => intro k w hk hn _; simp at hk; subst hk; exact ⟨w, by simp [forL, ht]⟩
    | cons u us ih =>
      intro k w hk hn hus
      have hk' : k < vs.length := by simp at hk; omega
      have hu : u = vs[k] := hus 0 (by simp) hk'
      obtain ⟨w', e⟩ := ih (k + 1) u (by simp at hk ⊢; omega) hn (fun i hi hj => by
        have := hus (i + 1) (by simp; omega) (by omega)
        simp only [List.getElem_cons_succ] at this
        rw [this]; congr 1; omega)
      refine ⟨w', ?_⟩
      simp only [forL, ht, if_true, bind1]
      rw [hu, hb k w hk', RS.then_next, ← hu, e]
  exact key vs.length vs 0 w (by simp) rfl (fun i hi hj => by simp)



/-- the same over a cell -/
theorem compL_pureW {elt cond : V → H → R V} (e : V → V) (b : V → Bool) (h : H) (w : Watch) (hw : w.ok h = true) (vs : List V)
    (hc : ∀ v ∈ vs, cond v h = .ok (.bool (b v)) h) (he : ∀ v ∈ vs, b v = true → elt v h = .ok (e v) h) :
    compL w elt cond vs h = .ok ((vs.filter b).map e) h := by
  induction vs with
  | nil => simp [compL, hw]
  | cons v vs ih =>
    have ih := ih (fun v hv => hc v (List.mem_cons_of_mem _ hv)) (fun v hv => he v (List.mem_cons_of_mem _ hv))
    simp only [compL, hw, if_true]
    rw [hc v (by simp)]
    simp only [R.bind_ok, truthy_bool]
    cases hb : b v with
    | true => dsimp only; rw [he v (by simp) hb, R.bind_ok, ih, R.bind_ok]; simp [hb]
    | false => dsimp only; rw [ih]; simp [hb]

theorem mkL_eq {vs : List V} (hl : vs.length ≤ 1000000) : mkL vs = some (.lst vs) := by simp [mkL, hl]
theorem mkT_eq {vs : List V} (hl : vs.length ≤ 1000000) : mkT vs = some (.tup vs) := by simp [mkT, hl]

/-- a call that makes no cells -/
theorem pcall_ok {v : V} (hv : v.plain = true) (h : H) : pcall h (.ok v h) = .ok v h := by
  simp [pcall, frz, mapRef_plain _ v hv]
theorem pcall_new {v w : V} (h n : H) (hv : frz h.length (h ++ n) v = some w) : pcall h (.ok v (h ++ n)) = .ok w h := by
  simp [pcall, hv]
@[simp] theorem pcall_err0 (c : String) (h : H) : pcall h (.err c h) = .err c h := by simp [pcall]

@[simp] theorem isTys_one (h : H) (v : V) (t : Ty) : isTys h v [t] = isTy h v t := by
  simp only [isTys]; cases isTy h v t with
  | none => rfl
  | some b => cases b <;> rfl
@[simp] theorem isTys_two (h : H) (v : V) (t u : Ty) (ts : List Ty) : isTys h v (t :: u :: ts) = (match isTy h v t with
    | some true => some true
    | some false => isTys h v (u :: ts)
    | none => Option.none) := rfl
@[simp] theorem isTy_int_int (h : H) (a : Int) : isTy h (.int a) .int = some true := rfl
@[simp] theorem isTy_str_int (h : H) (a : String) : isTy h (.str a) .int = some false := rfl
@[simp] theorem isTy_none_int (h : H)  : isTy h .none .int = some false := rfl
@[simp] theorem isTy_dct_int (h : H)  : isTy h .dct .int = some false := rfl
@[simp] theorem isTy_tup_int (h : H) (a : List V) : isTy h (.tup a) .int = some false := rfl
@[simp] theorem isTy_lst_int (h : H) (a : List V) : isTy h (.lst a) .int = some false := rfl
@[simp] theorem isTy_bool_int (h : H) (a : Bool) : isTy h (.bool a) .int = some true := rfl
@[simp] theorem isTy_int_bool (h : H) (a : Int) : isTy h (.int a) .bool = some false := rfl
@[simp] theorem isTy_str_bool (h : H) (a : String) : isTy h (.str a) .bool = some false := rfl
@[simp] theorem isTy_none_bool (h : H)  : isTy h .none .bool = some false := rfl
@[simp] theorem isTy_dct_bool (h : H)  : isTy h .dct .bool = some false := rfl
@[simp] theorem isTy_tup_bool (h : H) (a : List V) : isTy h (.tup a) .bool = some false := rfl
@[simp] theorem isTy_lst_bool (h : H) (a : List V) : isTy h (.lst a) .bool = some false := rfl
@[simp] theorem isTy_bool_bool (h : H) (a : Bool) : isTy h (.bool a) .bool = some true := rfl
@[simp] theorem isTy_int_list (h : H) (a : Int) : isTy h (.int a) .list = some false := rfl
@[simp] theorem isTy_str_list (h : H) (a : String) : isTy h (.str a) .list = some false := rfl
@[simp] theorem isTy_none_list (h : H)  : isTy h .none .list = some false := rfl
@[simp] theorem isTy_dct_list (h : H)  : isTy h .dct .list = some false := rfl
@[simp] theorem isTy_tup_list (h : H) (a : List V) : isTy h (.tup a) .list = some false := rfl
@[simp] theorem isTy_lst_list (h : H) (a : List V) : isTy h (.lst a) .list = some true := rfl
@[simp] theorem isTy_bool_list (h : H) (a : Bool) : isTy h (.bool a) .list = some false := rfl
theorem isTy_ref_list (h : H) (i : Nat) (vs : List V) (e : h[i]? = some (.list vs)) : isTy h (.ref i) .list = some true := by simp only [isTy, e]; rfl
@[simp] theorem isTy_int_tuple (h : H) (a : Int) : isTy h (.int a) .tuple = some false := rfl
@[simp] theorem isTy_str_tuple (h : H) (a : String) : isTy h (.str a) .tuple = some false := rfl
@[simp] theorem isTy_none_tuple (h : H)  : isTy h .none .tuple = some false := rfl
@[simp] theorem isTy_dct_tuple (h : H)  : isTy h .dct .tuple = some false := rfl
@[simp] theorem isTy_tup_tuple (h : H) (a : List V) : isTy h (.tup a) .tuple = some true := rfl
@[simp] theorem isTy_lst_tuple (h : H) (a : List V) : isTy h (.lst a) .tuple = some false := rfl
@[simp] theorem isTy_bool_tuple (h : H) (a : Bool) : isTy h (.bool a) .tuple = some false := rfl

@[simp] theorem cmp_lt_int (h : H) (a b : Int) : pyCmp .lt h (.int a) (.int b) = some (decide (a < b)) := rfl
@[simp] theorem cmp_gt_int (h : H) (a b : Int) : pyCmp .gt h (.int a) (.int b) = some (decide (b < a)) := rfl
@[simp] theorem cmp_le_int (h : H) (a b : Int) : pyCmp .le h (.int a) (.int b) = some (decide (a ≤ b)) := by
  simp only [pyCmp, pyLt, Option.map_some, Option.some.injEq]
  by_cases e : b < a
  · simp [e]
  · simp [e]; omega
@[simp] theorem cmp_ge_int (h : H) (a b : Int) : pyCmp .ge h (.int a) (.int b) = some (decide (b ≤ a)) := by
  simp only [pyCmp, pyLt, Option.map_some, Option.some.injEq]
  by_cases e : a < b
  · simp [e]
  · simp [e]; omega
theorem pyEq_plain {a b : V} (h : H) (ha : a.plain = true) (hb : b.plain = true) (oa : V.ok 8 a = true) (ob : V.ok 8 b = true) : pyEq h a b = some (peq a b) := by
  simp [pyEq, frz, mapRef_plain _ a ha, mapRef_plain _ b hb, oa, ob]
@[simp] theorem pyEq_int (h : H) (a b : Int) : pyEq h (.int a) (.int b) = some (decide (a = b)) := by
  rw [pyEq_plain h rfl rfl rfl rfl]; simp only [peq_none, peq_bool, peq_int, peq_str, peq_tup, peq_lst, Option.some.injEq]; exact Bool.eq_iff_iff.2 (by simp)
@[simp] theorem cmp_eq (h : H) (a b : V) : pyCmp .eq h a b = pyEq h a b := rfl
@[simp] theorem cmp_ne (h : H) (a b : V) : pyCmp .ne h a b = (pyEq h a b).map (!·) := rfl
@[simp] theorem bin_add_int (h : H) (a b : Int) : pyBin .add h (.int a) (.int b) = some (.int (a + b)) := rfl
@[simp] theorem bin_sub_int (h : H) (a b : Int) : pyBin .sub h (.int a) (.int b) = some (.int (a - b)) := rfl
theorem bin_mul_int (h : H) (a b : Int) (e : b.natAbs < 9223372036854775808) : pyBin .mul h (.int a) (.int b) = some (.int (a * b)) := if_pos (.inr e)
theorem bin_fdiv_int (h : H) (a b : Int) (e : b ≠ 0) : pyBin .fdiv h (.int a) (.int b) = some (.int (a.fdiv b)) := if_neg e
theorem bin_mod_int (h : H) (a b : Int) (e : b ≠ 0) : pyBin .mod h (.int a) (.int b) = some (.int (a.fmod b)) := if_neg e
@[simp] theorem bin_pow (h : H) : pyBin .pow h (.int 10) (.int 20) = some (.int 100000000000000000000) := by simp [pyBin, int2]


/-- a loop to its end, in a function's body -/
theorem out_forW {t : Watch} {x : Nat} {body : List V → H → RS} {vs ρ : List V} {h : H} {k : List V → H → RS} {r : R V} (f : Nat → V → List V) (g : Nat → H) (w : V)
    (ht : ∀ i, t.ok (g i) = true) (hρ : f 0 w = ρ) (hh : g 0 = h)
    (hb : ∀ i w, (hi : i < vs.length) → body ((f i w).set x vs[i]) (g i) = .ok .next (f (i + 1) vs[i]) (g (i + 1)))
    (hk : ∀ w', (k (f vs.length w') (g vs.length)).out = r) : ((forL t (bind1 x) body vs ρ h).then k).out = r := by
  subst hρ hh
  obtain ⟨w', e⟩ := forL_idx vs f g ht hb w
  rw [e, RS.then_next]; exact hk w'
theorem out_for {x : Nat} {body : List V → H → RS} {vs ρ : List V} {h : H} {k : List V → H → RS} {r : R V} (f : Nat → V → List V) (g : Nat → H) (w : V)
    (hρ : f 0 w = ρ) (hh : g 0 = h)
    (hb : ∀ i w, (hi : i < vs.length) → body ((f i w).set x vs[i]) (g i) = .ok .next (f (i + 1) vs[i]) (g (i + 1)))
    (hk : ∀ w', (k (f vs.length w') (g vs.length)).out = r) : ((forL Option.none (bind1 x) body vs ρ h).then k).out = r :=
  out_forW f g w (fun _ => rfl) hρ hh hb hk
@[simp] theorem upto_len (n : Int) : (upto n).length = n.toNat := by simp [upto]
@[simp] theorem upto_at (n : Int) (i : Nat) (hi : i < (upto n).length) : (upto n)[i] = .int i := by simp [upto]

@[simp] theorem cell_get (h : H) (c : Cell) : (h ++ [c])[h.length]? = some c := by simp
@[simp] theorem cell_set (h : H) (c d : Cell) : (h ++ [c]).set h.length d = h ++ [d] := by simp

theorem len_of {h : H} {w : V} {vs : List V} (hl : litems h w = some vs) : Mine.bf .len h w = some (.int vs.length) := by
  cases w <;> simp only [litems, Option.some.injEq, reduceCtorEq] at hl
  · subst hl; rfl
  · rename_i i
    cases hc : h[i]? with
    | none => rw [hc] at hl; cases hl
    | some c =>
      rw [hc] at hl
      cases c with
      | dict es => cases hl
      | list us => cases hl; simp [Mine.bf, hc]
theorem isList_of {h : H} {w : V} {vs : List V} (hl : litems h w = some vs) : isTy h w .list = some true := by
  cases w <;> simp only [litems, Option.some.injEq, reduceCtorEq] at hl
  · rfl
  · rename_i i
    cases hc : h[i]? with
    | none => rw [hc] at hl; cases hl
    | some c =>
      rw [hc] at hl
      cases c with
      | dict es => cases hl
      | list us => exact isTy_ref_list _ _ _ hc
theorem iter_of {h : H} {w : V} {vs : List V} (hl : litems h w = some vs) : ∃ t : Watch, iterOf h w = some (vs, t) ∧ t.ok h = true := by
  cases w <;> simp only [litems, Option.some.injEq, reduceCtorEq] at hl
  · subst hl; exact ⟨Option.none, rfl, rfl⟩
  · rename_i i
    cases hc : h[i]? with
    | none => rw [hc] at hl; cases hl
    | some c =>
      rw [hc] at hl
      cases c with
      | dict es => cases hl
      | list us => cases hl; exact ⟨some (i, .list vs), by simp [iterOf, hc], by simp [Watch.ok, hc]⟩
/-- a value whose kind is known -/
noncomputable def okV (h : H) (v : V) : Prop :=
  match v with
  | .undef => False
  | .exc _ => False
  | .ref i => (h[i]?).isSome = true
  | _ => True
theorem okV.val {h : H} {v : V} (hv : okV h v) : v.val := by
  cases v <;> first | trivial | exact hv.elim
theorem okV_of {h : H} {w : V} {vs : List V} (hl : litems h w = some vs) : okV h w := by
  cases w <;> simp only [litems, Option.some.injEq, reduceCtorEq] at hl
  · trivial
  · rename_i i
    cases hc : h[i]? with
    | none => rw [hc] at hl; cases hl
    | some c => simp [okV, hc]
theorem notList_of {h : H} {w : V} (hv : okV h w) (hl : litems h w = Option.none) : isTy h w .list = some false := by
  cases w <;> first | rfl | exact hv.elim | cases hl | skip
  rename_i i
  simp only [okV, Option.isSome_iff_exists] at hv
  obtain ⟨c, hc⟩ := hv
  cases c with
  | list vs => simp [litems, hc] at hl
  | dict es => simp [isTy, hc]
@[simp] theorem asBools_map {α : Type} (l : List α) (f : α → Bool) : asBools (l.map fun v => .bool (f v)) = some (l.map f) := by
  induction l with
  | nil => rfl
  | cons a l ih => simp [asBools, ih]
@[simp] theorem asInts_map (l : List Int) : asInts (l.map .int) = some l := by
  induction l with
  | nil => rfl
  | cons a l ih => simp [asInts, ih]
@[simp] theorem walks_all : Bf.walks .all = true := rfl
@[simp] theorem ready_all : Bf.ready .all = true := rfl
@[simp] theorem ready_any : Bf.ready .any = true := rfl
@[simp] theorem ready_len : Bf.ready .len = true := rfl
@[simp] theorem walks_len : Bf.walks .len = false := rfl
@[simp] theorem ready_list : Bf.ready .list = true := rfl
@[simp] theorem walks_list : Bf.walks .list = false := rfl
@[simp] theorem ready_tuple : Bf.ready .tuple = true := rfl
@[simp] theorem walks_tuple : Bf.walks .tuple = false := rfl
@[simp] theorem ready_int : Bf.ready .int = true := rfl
@[simp] theorem walks_int : Bf.walks .int = false := rfl
@[simp] theorem ready_str : Bf.ready .str = true := rfl
@[simp] theorem walks_str : Bf.walks .str = false := rfl
@[simp] theorem ready_listRev : Bf.ready .listRev = true := rfl
@[simp] theorem bf_all {h : H} {vs : List V} : Mine.bf .all h (.lst vs) = (asBools vs).map fun bs => .bool (bs.all id) := rfl
@[simp] theorem bf_any {h : H} {vs : List V} : Mine.bf .any h (.lst vs) = (asBools vs).map fun bs => .bool (bs.any id) := rfl
@[simp] theorem bf_int {h : H} {b : Bool} : Mine.bf .int h (.bool b) = some (.int (if b then 1 else 0)) := rfl
theorem bf_rev {h : H} {w : V} {vs : List V} (hl : litems h w = some vs) : Mine.bf .listRev h w = some (.lst vs.reverse) := by simp [Mine.bf, hl]
theorem litems_ref {h : H} {i : Nat} {vs : List V} (hc : h[i]? = some (.list vs)) : litems h (.ref i) = some vs := by simp [litems, hc]
@[simp] theorem litems_lst (h : H) (vs : List V) : litems h (.lst vs) = some vs := rfl
theorem lcell_ref {h : H} {i : Nat} {vs : List V} (hc : h[i]? = some (.list vs)) : lcell h (.ref i) = true := by simp [lcell, hc]
theorem onList_ref {h : H} {i : Nat} {vs : List V} (hc : h[i]? = some (.list vs)) (f : List V → Option (V × List V)) (v : V) (vs' : List V) (e : f vs = some (v, vs')) (hl : vs'.length ≤ 1000000) :
    onList h (.ref i) f = .ok v (h.set i (.list vs')) := by simp [onList, hc, e, hl]

-- a body, statement by statement
theorem o_asg {q : Bool} {F : Fn} {x : Nat} {e : PE} {ss : List PS} {ρ ρ' : List V} {h h' : H} {v : V} {r : R V} (he : evE q F ρ e h = .ok v h') (hρ : ρ.set x v = ρ') (k : (exSs q F ss ρ' h').out = r) : (exSs q F (.asg x e :: ss) ρ h).out = r := by
  subst hρ; rw [ss_cons', s_asg', he]; exact k
theorem o_ret {q : Bool} {F : Fn} {e : PE} {ss : List PS} {ρ : List V} {h h' : H} {v : V} (he : evE q F ρ e h = .ok v h') : (exSs q F (.ret e :: ss) ρ h).out = .ok v h' := by
  rw [ss_cons', s_ret', he]; rfl
theorem o_expr {q : Bool} {F : Fn} {e : PE} {ss : List PS} {ρ : List V} {h h' : H} {r : R V} (he : evE q F ρ e h = .ok .none h') (k : (exSs q F ss ρ h').out = r) : (exSs q F (.expr e :: ss) ρ h).out = r := by
  rw [ss_cons', s_expr', he]; exact k
theorem o_exprE {q : Bool} {F : Fn} {e : PE} {ss : List PS} {ρ : List V} {h h' : H} {c : String} (he : evE q F ρ e h = .err c h') : (exSs q F (.expr e :: ss) ρ h).out = .err c h' := by
  rw [ss_cons', s_expr', he]; rfl
theorem exSs_app (q : Bool) (F : Fn) (a b : List PS) (ρ : List V) (h : H) : exSs q F (a ++ b) ρ h = (exSs q F a ρ h).then fun ρ h => exSs q F b ρ h := by
  induction a generalizing ρ h with
  | nil => simp
  | cons s a ih =>
    rw [List.cons_append, ss_cons', ss_cons']
    cases exS q F s ρ h with
    | bad => rfl
    | err c ρ h => rfl
    | ok f ρ h => cases f with
      | next => simp only [RS.then_next]; exact ih ρ h
      | ret v => rfl
theorem o_ifT {q : Bool} {F : Fn} {t : PE} {a b ss : List PS} {ρ : List V} {h h' : H} {r : R V} (ht : evE q F ρ t h = .ok (.bool true) h') (k : (exSs q F (a ++ ss) ρ h').out = r) : (exSs q F (.ifs t a b :: ss) ρ h).out = r := by
  rw [ss_cons', s_ifs, ht]; rw [exSs_app] at k; exact k
theorem o_ifF {q : Bool} {F : Fn} {t : PE} {a b ss : List PS} {ρ : List V} {h h' : H} {r : R V} (ht : evE q F ρ t h = .ok (.bool false) h') (k : (exSs q F (b ++ ss) ρ h').out = r) : (exSs q F (.ifs t a b :: ss) ρ h).out = r := by
  rw [ss_cons', s_ifs, ht]; rw [exSs_app] at k; exact k

theorem isTy_int_no {h : H} {v : V} (hv : okV h v) (h1 : ∀ a, v ≠ .int a) (h2 : ∀ b, v ≠ .bool b) : isTy h v .int = some false := by
  cases v <;> first | rfl | exact hv.elim | exact absurd rfl (h1 _) | exact absurd rfl (h2 _) | skip
  rename_i i
  obtain ⟨c, hc⟩ := Option.isSome_iff_exists.mp hv
  simp only [isTy, hc]
  cases c <;> rfl
theorem kind_of (v : V) : (∃ a, v = .int a) ∨ (∃ b, v = .bool b) ∨ ((∀ a, v ≠ .int a) ∧ ∀ b, v ≠ .bool b) := by
  cases v <;> first | exact .inl ⟨_, rfl⟩ | exact .inr (.inl ⟨_, rfl⟩) | exact .inr (.inr ⟨(fun _ q => nomatch q), (fun _ q => nomatch q)⟩)

end Mine

namespace Mine
open PySem PySem.W PyProof.Rows

noncomputable def excChk (K : Frag) : Bool := excNames.all fun c => match nsIn K mainGlobals (Str.ofString c) with
  | some (some (.ref C)) =>
      (findIn K (.ref C) "__getattribute__" == some (some (.builtin "BaseException.__getattribute__")) && findIn K (.ref C) "__getattr__" == some none) && (clsIn K C).isSome && findIn K (.ref C) "__class__" == some (some (.builtin "object.__class__")) &&
      specialIn K (.builtin "object.__class__") "__get__" == some (some (.builtin "getset_descriptor.__get__")) && takesIn K (.builtin "object.__class__") == some true &&
      mroIn K C (.type "object") == some true && kitOne K (.ref C) (.type "ValueError") == some true &&
      (excNames.all fun d => match nsIn K mainGlobals (Str.ofString d) with
        | some (some (.ref D)) => kitOne K (.ref C) (.ref D) == some (c == d || d == "RingError")
        | _ => false) &&
      (match nsIn K mainGlobals (Str.ofString "RingError") with
        | some (some (.ref D)) => exmOne K (.ref C) (.ref D) == some true
        | _ => false)
  | _ => false
noncomputable def specChk (p : Program) : Bool := excNames.all fun c => specOf p (Str.ofString c) == some ("ValueError.__new__", [.type "ValueError", .type "Exception", .type "BaseException", .type "object"])
noncomputable def btChk (K : Frag) : Bool := bTab.all fun q => nsIn K mainGlobals q.1 == some none && bootBuiltins q.1 == some q.2 && q.1 != ("__name__" : Str)
noncomputable def defChk (p : Program) (fns : List String) (nums : List (String × Int)) (tl : List (String × FnDef × List String)) : Bool :=
  tl.all fun t => match (recsOf p).find? (fun r => r.name == Str.ofString t.1) with
    | some r => ckFn fns nums t.2.1 t.2.2 (Calls.docDef r.name r.params r.body r.scope .none .none .none)
    | none => false
noncomputable def fnsChk (p : Program) (fns : List String) : Bool := fns.all fun f => ((recsOf p).find? (fun r => r.name == Str.ofString f)).isSome
noncomputable def numsChk (K : Frag) (nums : List (String × Int)) : Bool := nums.all fun q => match nsIn K mainGlobals (Str.ofString q.1) with
  | some (some (.int i _)) => i == q.2
  | _ => false

section
variable {p prog : Program} {w : World} {loose : List Str} {mean : ExcName → Option Value} {mg mb : Str → Option Value} {h : Heap} {K : Frag}

theorem exc_at (X : K.In h) (G : h.Ns mainGlobals mg) (hx : excChk K = true) {c : String} (hc : c ∈ excNames) : ∃ C, nsIn K mainGlobals (Str.ofString c) = some (some (.ref C)) ∧ mg (Str.ofString c) = some (.ref C) := by
  have := List.all_eq_true.mp hx c hc
  split at this
  · rename_i C e; exact ⟨C, e, mg_of X G e⟩
  · cases this

theorem amb_ok {P : Tab} (T : Top p loose mean mg mb h) (X : K.In h) (himp : importsNone p = true) (htree : prog.given.tree = none) (hx : excChk K = true) (ho : specChk p = true) (hb : btChk K = true) :
    AmbX { prog, w, B := h, mg, mb, P, K } where
  g := T.g
  b := T.b
  nolimit := T.nolimit
  noseer := T.seer himp
  tree := htree
  K := X
  bt := fun q hq => by
    have := List.all_eq_true.mp hb q hq
    simp only [Bool.and_eq_true, beq_iff_eq, bne_iff_ne, ne_eq] at this
    exact ⟨mg_none_of X T.g this.1.1, (T.builtins q.1 this.2).trans this.1.2⟩
  exc := fun c hc => by
    obtain ⟨C, e1, e2⟩ := exc_at X T.g hx hc
    have := List.all_eq_true.mp hx c hc
    rw [e1] at this
    simp only [Bool.and_eq_true, beq_iff_eq] at this
    refine hold fun _ k_ => ?_
    obtain ⟨⟨⟨⟨⟨⟨⟨⟨a1, a2⟩, a3⟩, a4⟩, a5⟩, a6⟩, a7⟩, _⟩, _⟩ := this
    refine k_ ?_
    exact ⟨C, e2, a1, a2, a3, a4, a5, a6, a7⟩
  sub := fun c hc d hd C D e1 e2 => by
    obtain ⟨C', f1, f2⟩ := exc_at X T.g hx hc
    obtain ⟨D', g1, g2⟩ := exc_at X T.g hx hd
    have h1 : C' = C := by have := f2.symm.trans e1; cases this; rfl
    have h2 : D' = D := by have := g2.symm.trans e2; cases this; rfl
    subst h1 h2
    have := List.all_eq_true.mp hx c hc
    rw [f1] at this
    simp only [Bool.and_eq_true, beq_iff_eq] at this
    have := List.all_eq_true.mp this.1.2 d hd
    rw [g1] at this
    simpa only [beq_iff_eq] using this
  exm := fun c hc C D e1 e2 => by
    obtain ⟨C', f1, f2⟩ := exc_at X T.g hx hc
    obtain ⟨D', g1, g2⟩ := exc_at (c := "RingError") X T.g hx (by simp [excNames])
    have h1 : C' = C := by have := f2.symm.trans e1; cases this; rfl
    have h2 : D' = D := by have := g2.symm.trans e2; cases this; rfl
    subst h1 h2
    have := List.all_eq_true.mp hx c hc
    rw [f1] at this
    simp only [Bool.and_eq_true, beq_iff_eq] at this
    have := this.2
    rw [g1] at this
    simpa only [beq_iff_eq] using this
  rs := fun c hc C e1 => by
    have hs := List.all_eq_true.mp ho c hc
    rw [beq_iff_eq] at hs
    obtain ⟨C', O, _⟩ := T.ownAt hs
    have h1 : C' = C := by have := O.bound.symm.trans e1; cases this; rfl
    subst h1
    refine hold fun _ k_ => ?_
    obtain ⟨bm, N, nm, q, bs, hdct, sn, sub, ab, col, dd, k0, k1, k2, k3, k5, mN, hC, hN, hq, TQ⟩ := O.obj
    refine k_ ?_
    exact ⟨nm, q, N, bs, bm, hdct, sn, sub, ab, col, dd, k0, k1, k2, k3, k5, mN, hC, hN, hq, TQ⟩

theorem ckFn_any {fns : List String} {nums : List (String × Int)} {d : FnDef} {nm : List String} {n : Str} {ps : Arguments} {b : List Stmt} {sc : Scope} (pm cd doc : Value) :
    ckFn fns nums d nm (Calls.docDef n ps b sc pm cd doc) = ckFn fns nums d nm (Calls.docDef n ps b sc .none .none .none) := rfl

theorem prog_ok {P : Tab} {fns : List String} {nums : List (String × Int)} {tl : List (String × FnDef × List String)} (T : Top p loose mean mg mb h) (X : K.In h) (hd : defChk p fns nums tl = true) (hf : fnsChk p fns = true) (hn : numsChk K nums = true) :
    ProgOK { prog, w, B := h, mg, mb, P, K } (tabOf tl) (nmOf tl) fns nums where
  fn := fun f d a o fd e1 e2 e3 e4 => by
    unfold tabOf at e1
    unfold nmOf
    cases hl : tl.lookup f with
    | none => rw [hl] at e1; cases e1
    | some t =>
      rw [hl] at e1
      simp only [Option.map_some, Option.some.injEq] at e1
      subst e1
      have hm : (f, t) ∈ tl := by
        clear hd
        induction tl with
        | nil => simp at hl
        | cons u tl ih =>
          obtain ⟨g, u⟩ := u
          rw [List.lookup_cons] at hl
          cases hq : f == g with
          | true => rw [hq] at hl; cases hl; rw [beq_iff_eq.mp hq]; exact List.mem_cons_self
          | false => rw [hq] at hl; exact List.mem_cons_of_mem _ (ih hl)
      have := List.all_eq_true.mp hd _ hm
      split at this
      · rename_i r hr
        have hrm := List.mem_of_find?_eq_some hr
        have hrn : r.name = Str.ofString f := by have := List.find?_some hr; simpa using this
        refine hold fun _ k_ => ?_
        obtain ⟨a', o', pm, code, doc, t1, t2, t3, t4⟩ := T.fn r hrm
        refine k_ ?_
        rw [hrn] at t1
        have h1 : a' = a := by have := t1.symm.trans e2; cases this; rfl
        subst h1
        have h2 : o' = o := by have := t2.symm.trans e3; cases this; rfl
        subst h2
        rw [t3] at e4
        cases e4
        refine ⟨?_, t4⟩
        rw [ckFn_any]
        exact this
      · cases this
  fns := fun f hf' => by
    have := List.all_eq_true.mp hf f hf'
    obtain ⟨r, hr⟩ := Option.isSome_iff_exists.mp this
    have hrm := List.mem_of_find?_eq_some hr
    have hrn : r.name = Str.ofString f := by have := List.find?_some hr; simpa using this
    refine hold fun _ k_ => ?_
    obtain ⟨a', o', pm, code, doc, t1, t2, t3, t4⟩ := T.fn r hrm
    refine k_ ?_
    rw [hrn] at t1
    exact ⟨a', t1, o', _, t2, t3⟩
  nums := fun q hq => by
    have := List.all_eq_true.mp hn q hq
    split at this
    · rename_i i t e
      rw [beq_iff_eq] at this
      subst this
      exact ⟨t, mg_of X T.g e⟩
    · cases this

theorem ints_vr {am : Amb} {π : List Addr} {xs : List Value} {l : List Int} (hi : IntsAre xs l) : VRs am π h (l.map .int) xs := by
  induction hi with
  | nil => simp [VRs]
  | cons n t _ ih => simp only [List.map_cons, VRs, VR]; exact ⟨_, _, rfl, ⟨t, rfl⟩, ih⟩

/-- a law whose run gives True holds -/
theorem law_wp {s₁ : Shared} {tl : List (String × FnDef × List String)} {fns : List String} {nums : List (String × Int)} (T : Top p loose mean mg mb s₁.heap) (X : K.In s₁.heap) (himp : importsNone p = true) (htree : prog.given.tree = none)
    (hx : excChk K = true) (ho : specChk p = true) (hb : btChk K = true) (hd : defChk p fns nums tl = true) (hf : fnsChk p fns = true) (hn : numsChk K nums = true) (hlaw : "law" ∈ fns)
    {fa : Addr} (hmg : mg "law" = some (.ref fa)) {a : Addr} {xs : List Value} {l : List Int} (hl : s₁.heap.IsList a xs.toArray) (hi : IntsAre xs l) (h63 : ¬ (63 : Int) < (l.length : Int)) {n : Nat} (hn9 : n ≤ 400) {H' : H}
    (hrun : run (tabOf tl) n true "law" [V.ints l] [] = .ok (.bool true) H') {Q : Value → Shared → Prop} {E : Value → Shared → Prop}
    (hQ : ∀ s', (∃ h' tk, s' = { s₁ with heap := h', toks := tk }) → (∀ b o, s₁.heap.get? b = some o → s'.heap.get? b = some o) → Q (.bool true) s') :
    wpAny (model prog w) callerA (PySem.call (.ref fa) [.ref a]) Q E s₁ := by
  have ok : AmbX { prog := prog, w := w, B := s₁.heap, mg := mg, mb := mb, P := tabOf tl, K := K } := amb_ok T X himp htree hx ho hb
  have pk : ProgOK { prog := prog, w := w, B := s₁.heap, mg := mg, mb := mb, P := tabOf tl, K := K } (tabOf tl) (nmOf tl) fns nums := prog_ok T X hd hf hn
  obtain ⟨fa', ff⟩ := pk.fns "law" hlaw
  have hfa : fa' = fa := by have := ff.1.symm.trans hmg; cases this; rfl
  subst hfa
  have hr : HR (({ prog := prog, w := w, B := s₁.heap, mg := mg, mb := mb, P := tabOf tl, K := K } : Amb).at []) [] [] [] s₁.heap :=
    ⟨fun _ _ e => e, trivial, rfl, List.nodup_nil, (fun a ha => by cases ha), (fun a ha => by cases ha), (fun i c a h1 => by simp at h1)⟩
  have hlen : xs.length = l.length := by have := (ints_vr (am := { prog := prog, w := w, B := s₁.heap, mg := mg, mb := mb, P := tabOf tl, K := K }) (π := []) (h := s₁.heap) hi).len; simpa using this
  have J := (run_ok ok pk n).call [] true "law" fa' [V.ints l] [.ref a] [] callerA [] [] s₁ ff ⟨rfl, by show 1 + claimMargin + n < 800; unfold claimMargin; omega, by show 4 + 10 * n < 9000; omega⟩ hr rfl (.inl (by
    simp only [VRs, V.ints, VR]
    exact ⟨_, _, rfl, ⟨a, xs, rfl, ⟨by simp, by simp [Amb.at]⟩, hl, by simp; omega, ints_vr hi⟩, rfl⟩))
  rw [hrun] at J
  rcases J with J | J
  · cases J
  · refine wpAny_mono J (fun v s' z => ?_) fun e s' z => ?_
    · refine hold fun _ k_ => ?_
      obtain ⟨b, H2, π', z1, z2, z3, z4⟩ := z
      refine k_ ?_
      cases z1
      simp only [VR] at z4
      subst z4
      exact hQ s' z2.same fun b o e => z2.ext.keep b o e (by simp) (by simp [Fs])
    · obtain ⟨_, _, _, _, _, _, z, _⟩ := z; cases z
end

end Mine

namespace Mine
open PySem PySem.W PyProof.Rows

/-- the classes' places -/
noncomputable def exAddrs (h : Heap) : List Addr := excNames.filterMap fun c => match h.nsMap mainGlobals (Str.ofString c) with
  | some (.ref C) => some C
  | _ => none
noncomputable def fragAt (h : Heap) (as : List Addr) : Frag := as.filterMap fun a => (h.get? a).map fun o => (a, o)
/-- the part of the heap that the walk leans on -/
noncomputable def exFrag (h : Heap) : Frag := fragAt h (mainGlobals :: exAddrs h ++ (exAddrs h).filterMap fun C => match h.get? C with
  | some ⟨_, _, .cls cd, _⟩ => some cd.ns
  | _ => none)
noncomputable def hookB (nums : List (String × Int)) (h : Heap) : Bool := excChk (exFrag h) && btChk (exFrag h) && numsChk (exFrag h) nums
/-- what the walk leans on -/
noncomputable def Leans (nums : List (String × Int)) (h : Heap) : Prop := ∃ K : Frag, K.In h ∧ excChk K = true ∧ btChk K = true ∧ numsChk K nums = true

theorem fragAt_in (h : Heap) : ∀ as : List Addr, (fragAt h as).In h := by
  intro as a o e
  have hm := lookup_mem e
  obtain ⟨b, _, hb⟩ := List.mem_filterMap.mp hm
  cases hq : h.get? b with
  | none => rw [hq] at hb; cases hb
  | some o' => rw [hq] at hb; cases hb; exact hq

/-- the statements with these numbers -/
noncomputable def keepAt (is : List Nat) (p : Program) : Program := { p with main := { p.main with body := (p.main.body.zipIdx.filter fun x => is.contains x.2).map (·.1) } }

theorem law_head {l : OpenLaw} {q : Program} {N : Nat} {nums : List (String × Int)} (said : l.wellSaid = true) (hrs : l.row.wellSaid = true)
    (left : LeftO l.row.prog q [] (fun s => xlAt q [] s && recOk (RowW.records l.row.toRowW) s) (fun s => hookB nums s.heap) (fun _ => true) N)
    (d1 : (defOf q l.row.name).isSome = true) (d2 : l.row.prog.theDef l.row.name = (defOf q l.row.name).map fun x => (x.1.params, x.1.body, x.1.scope))
    (d3 : ((defOf q l.row.name).map fun x => kwWritten? x.1.params.kwonlyargs x.1.params.kw_defaults) = (defOf q l.row.name).map fun x => some x.2)
    (hwr : (!l.row.writes || l.row.records.isEmpty) = true) (ok : (chainsOk q && opensWell l.row.prog && (frees l.row.toRowW && l.row.within.isEmpty)) = true) (hb : l.row.prog.bare) (hw : l.row.toRowW.promised)
    (walk : ∀ d kwd, defOf q l.row.name = some (d, kwd) → WalkO q [] (XL q []) (fun _ h => Leans nums h) l.row.toRowW d kwd fun f vs => PySem.call f vs) : l.Holds := by
  obtain ⟨⟨d, kwd⟩, hdef⟩ := Option.isSome_iff_exists.mp d1
  rw [hdef] at d2 d3
  simp only [Option.map_some, Option.some.injEq] at d2 d3
  refine ⟨said, holds_open (q := q) (loose := []) (Xt := fun s => xlAt q [] s && recOk (RowW.records l.row.toRowW) s) (XP := XL q []) (YP := fun _ h => Leans nums h) left (fun w s e => ?_) (fun w h h' e k => ?_)
    (fun s e => xl_of s (Bool.and_eq_true_iff.mp e).1) XL.keeps hdef d2 d3 (fun s e => recFacts_of (Bool.and_eq_true_iff.mp e).2) hwr hrs ok hb hw (walk d kwd hdef)⟩
  · simp only [hookB, Bool.and_eq_true] at e
    exact ⟨exFrag s.heap, fragAt_in _ _, e.1.1, e.1.2, e.2⟩
  · obtain ⟨K, k1, k2⟩ := e
    exact ⟨K, fun a o z => k a o (k1 a o z), k2⟩
end Mine

namespace Mine

@[simp] theorem pcall_bool (h : H) (b : Bool) : pcall h (.ok (.bool b) h) = .ok (.bool b) h := pcall_ok rfl h
@[simp] theorem pcall_int (h : H) (b : Int) : pcall h (.ok (.int b) h) = .ok (.int b) h := pcall_ok rfl h
@[simp] theorem pcall_none (h : H) : pcall h (.ok .none h) = .ok .none h := pcall_ok rfl h

noncomputable def V.nat (d : Nat) : V := .int d
noncomputable def V.nats (l : List Nat) : List V := l.map V.nat
@[simp] theorem nats_length (l : List Nat) : (V.nats l).length = l.length := by simp [V.nats]
@[simp] theorem nats_nil : V.nats [] = [] := rfl
theorem nats_cons (a : Nat) (l : List Nat) : V.nats (a :: l) = .int a :: V.nats l := rfl
theorem nats_take (n : Nat) (l : List Nat) : (V.nats l).take n = V.nats (l.take n) := by simp [V.nats]
theorem nats_drop (n : Nat) (l : List Nat) : (V.nats l).drop n = V.nats (l.drop n) := by simp [V.nats]
theorem nats_get {l : List Nat} {i : Nat} {d : Nat} (e : l[i]? = some d) : (V.nats l)[i]? = some (.int d) := by simp [V.nats, e, V.nat]
theorem nats_plains (l : List Nat) : V.plains (V.nats l) = true := by
  induction l with
  | nil => rfl
  | cons a l ih => rw [nats_cons, V.plains, ih]; rfl
theorem nats_plain (l : List Nat) : V.plain (.lst (V.nats l)) = true := nats_plains l
theorem nats_val {l : List Nat} {v : V} (hv : v ∈ V.nats l) : ∃ d ∈ l, v = .int d := by
  simp only [V.nats, List.mem_map] at hv
  obtain ⟨d, hd, rfl⟩ := hv; exact ⟨d, hd, rfl⟩
theorem peqs_nats (a b : List Nat) : peqs (V.nats a) (V.nats b) = decide (a = b) := by
  induction a generalizing b with
  | nil => cases b <;> rfl
  | cons x a ih => cases b with
    | nil => rfl
    | cons y b =>
      rw [nats_cons, nats_cons, peqs_cons, peq_int, ih]
      by_cases e1 : x = y <;> by_cases e2 : a = b <;> simp [e1, e2]
      omega
theorem ok_nats (l : List Nat) (n : Nat) : (V.nats l).all (V.ok (n + 1)) = true := by
  rw [List.all_eq_true]; intro v hv
  obtain ⟨d, _, rfl⟩ := nats_val hv; rfl
theorem ok_lnats (l : List Nat) (n : Nat) : V.ok (n + 2) (.lst (V.nats l)) = true := ok_nats l n

theorem pyEq_frz {h : H} {a b a' b' : V} (ha : frz 0 h a = some a') (hb : frz 0 h b = some b') (oa : V.ok 8 a' = true) (ob : V.ok 8 b' = true) : pyEq h a b = some (peq a' b') := by
  simp [pyEq, ha, hb, oa, ob]
theorem frz_plain (n : Nat) (h : H) (v : V) (hv : v.plain = true) : frz n h v = some v := mapRef_plain _ v hv

/-- a list of small numbers, by value or in a cell -/
def IsL (h : H) (v : V) (l : List Nat) : Prop := litems h v = some (V.nats l)
theorem IsL.lst (h : H) (l : List Nat) : IsL h (.lst (V.nats l)) l := rfl
theorem IsL.ref {h : H} {i : Nat} {l : List Nat} (e : h[i]? = some (.list (V.nats l))) : IsL h (.ref i) l := litems_ref e
theorem frzAt_nats {h : H} {i n k : Nat} {l : List Nat} (hn : n ≤ i) (e : h[i]? = some (.list (V.nats l))) : frzAt (k + 1) n h i = some (.lst (V.nats l)) := by
  rw [frzAt, if_neg (by omega), e]
  show Option.map _ (V.mapRefs _ (V.nats l)) = _
  rw [mapRefs_plain _ _ (nats_plains l)]; rfl
theorem litems_cases {h : H} {v : V} {vs : List V} (e : litems h v = some vs) : v = .lst vs ∨ ∃ i, v = .ref i ∧ h[i]? = some (.list vs) := by
  cases v <;> simp only [litems, Option.some.injEq, reduceCtorEq] at e
  · exact .inl (by rw [e])
  · rename_i i
    refine .inr ⟨i, rfl, ?_⟩
    cases hc : h[i]? with
    | none => rw [hc] at e; cases e
    | some c =>
      rw [hc] at e
      cases c with
      | dict es => cases e
      | list us => cases e; rfl
theorem IsL.frz {h : H} {v : V} {l : List Nat} (e : IsL h v l) : frz 0 h v = some (.lst (V.nats l)) := by
  rcases litems_cases e with rfl | ⟨i, rfl, hc⟩
  · exact frz_plain 0 h _ (nats_plain l)
  · exact frzAt_nats (Nat.zero_le _) hc
theorem IsL.okV {h : H} {v : V} {l : List Nat} (e : IsL h v l) : okV h v := okV_of e
theorem IsL.val {h : H} {v : V} {l : List Nat} (e : IsL h v l) : v.val := (okV_of e).val
theorem IsL.items {h : H} {v : V} {l : List Nat} (e : IsL h v l) : ∀ vs, litems h v = some vs → ∀ x ∈ vs, Mine.okV h x := by
  intro vs hv x hx
  rw [e] at hv; cases hv
  obtain ⟨d, _, rfl⟩ := nats_val hx; trivial
theorem pyEq_L {h : H} {a b : V} {x y : List Nat} (ha : IsL h a x) (hb : IsL h b y) : pyEq h a b = some (decide (x = y)) := by
  rw [pyEq_frz ha.frz hb.frz (ok_lnats x 6) (ok_lnats y 6), peq_lst, peqs_nats]
theorem IsL.slice {h : H} {v : V} {l : List Nat} (e : IsL h v l) (lo hi : Option V) (a b : Option Int) (ha : lo.mapM asInt? = some a) (hb : hi.mapM asInt? = some b) : pySlice h v lo hi = some (.lst (slc (V.nats l) a b)) := by
  rw [pySlice, ha, hb]
  rcases litems_cases e with rfl | ⟨i, rfl, hc⟩
  · rfl
  · simp only [e, Option.map_some]
    rw [litems_ref hc]; rfl
theorem slice_of {h : H} {v : V} {vs : List V} (e : litems h v = some vs) (lo hi : Option V) (a b : Option Int) (ha : lo.mapM asInt? = some a) (hb : hi.mapM asInt? = some b) : pySlice h v lo hi = some (.lst (slc vs a b)) := by
  rw [pySlice, ha, hb]
  rcases litems_cases e with rfl | ⟨i, rfl, hc⟩
  · rfl
  · simp only
    rw [litems_ref hc]; rfl
theorem slc_to {α : Type} (vs : List α) (j : Nat) : slc vs Option.none (some (j : Int)) = vs.take j := by
  simp only [slc, cut, Int.not_lt.2 (Int.natCast_nonneg j), if_false, Int.toNat_natCast, List.drop_zero]
  rcases Nat.le_total j vs.length with hj | hj
  · rw [Nat.min_eq_left hj]
  · rw [Nat.min_eq_right hj, List.take_length, List.take_of_length_le hj]
theorem slc_from {α : Type} (vs : List α) (i : Nat) : slc vs (some (i : Int)) Option.none = vs.drop i := by
  simp only [slc, cut, Int.not_lt.2 (Int.natCast_nonneg i), if_false, Int.toNat_natCast, List.take_length]
  rcases Nat.le_total i vs.length with hj | hj
  · rw [Nat.min_eq_left hj]
  · rw [Nat.min_eq_right hj, List.drop_length, List.drop_of_length_le hj]
theorem slc_mid {α : Type} (vs : List α) (i j : Nat) : slc vs (some (i : Int)) (some (j : Int)) = (vs.take j).drop i := by
  simp only [slc, cut, Int.not_lt.2 (Int.natCast_nonneg _), if_false, Int.toNat_natCast]
  have e : vs.take (min j vs.length) = vs.take j := by
    rcases Nat.le_total j vs.length with hj | hj
    · rw [Nat.min_eq_left hj]
    · rw [Nat.min_eq_right hj, List.take_length, List.take_of_length_le hj]
  rw [e]
  rcases Nat.le_total i vs.length with hi | hi
  · rw [Nat.min_eq_left hi]
  · rw [Nat.min_eq_right hi, List.drop_of_length_le (by rw [List.length_take]; omega), List.drop_of_length_le (by rw [List.length_take]; omega)]
theorem slice_to {h : H} {v : V} {vs : List V} (e : litems h v = some vs) (j : Nat) : pySlice h v Option.none (some (.int j)) = some (.lst (vs.take j)) := by
  rw [slice_of e _ _ Option.none (some (j : Int)) rfl rfl, slc_to]
theorem slice_from {h : H} {v : V} {vs : List V} (e : litems h v = some vs) (i : Nat) : pySlice h v (some (.int i)) Option.none = some (.lst (vs.drop i)) := by
  rw [slice_of e _ _ (some (i : Int)) Option.none rfl rfl, slc_from]
theorem slice_mid {h : H} {v : V} {vs : List V} (e : litems h v = some vs) (i j : Nat) : pySlice h v (some (.int i)) (some (.int j)) = some (.lst ((vs.take j).drop i)) := by
  rw [slice_of e _ _ (some (i : Int)) (some (j : Int)) rfl rfl, slc_mid]

theorem idx_of {h : H} {v : V} {vs : List V} (e : litems h v = some vs) {j : Nat} {x : V} (hj : vs[j]? = some x) : pyIdx h v (.int j) = some x := by
  have hl : j < vs.length := (List.getElem?_eq_some_iff.1 hj).1
  have hp : place vs.length (j : Int) = some j := by simp [place, hl]
  rcases litems_cases e with rfl | ⟨i, rfl, hc⟩
  · show (place vs.length (j : Int)).bind _ = _
    rw [hp]; exact hj
  · rw [pyIdx, hc]
    show (place vs.length (j : Int)).bind _ = _
    rw [hp]; exact hj
theorem IsL.idx {h : H} {v : V} {l : List Nat} (e : IsL h v l) {j d : Nat} (hj : l[j]? = some d) : pyIdx h v (.int j) = some (.int d) := idx_of e (nats_get hj)

theorem addLL (h : H) (vs ws : List V) (hl : vs.length + ws.length ≤ 1000000) : pyBin .add h (.lst vs) (.lst ws) = some (.lst (vs ++ ws)) := by
  simp [pyBin, pyAdd, litems, mkL, hl]
theorem mul_of {h : H} {a : V} {vs : List V} (ha : litems h a = some vs) (n : Nat) (hn : n < 1000000) (hl : n * vs.length ≤ 1000000) : pyBin .mul h a (.int n) = some (.lst (List.replicate n vs).flatten) := by
  have h1 : -1000000 < (n : Int) ∧ (n : Int) < 1000000 := by omega
  have e : (if -1000000 < (n : Int) ∧ (n : Int) < 1000000 then (litems h a).bind fun vs => mkL (rep vs n) else Option.none) = some (.lst (List.replicate n vs).flatten) := by
    rw [if_pos h1, ha, Option.bind_some, rep, Int.toNat_natCast]
    exact mkL_eq (by simpa using hl)
  rcases litems_cases ha with rfl | ⟨i, rfl, _⟩ <;> exact e

theorem fmod_small (x : Int) (m : Nat) (hm : 0 < m) : ∃ j : Nat, j < m ∧ x.fmod m = j := by
  have h1 := Int.fmod_nonneg_of_pos x (show (0 : Int) < m by omega)
  have h2 := Int.fmod_lt_of_pos x (show (0 : Int) < m by omega)
  obtain ⟨j, hj⟩ := Int.eq_ofNat_of_zero_le h1
  exact ⟨j, by omega, hj⟩

/-- a cell of the script -/
noncomputable def cellAt (l : List Int) (k : Nat) : Int := l.getD k 0

-- assignment to several names
noncomputable def setS (v : V) (ρ : List V) (xs : List Nat) (h : H) : RS :=
  match v with
  | .tup vs => (match setAll ρ xs vs with
    | some ρ => .ok .next ρ h
    | Option.none => .bad)
  | _ => .bad
theorem s_asgT' (q : Bool) (F : Fn) (ρ : List V) (h : H) (xs : List Nat) (e : PE) : exS q F (.asgT xs e) ρ h = if !q then .bad else (evE q F ρ e h).st ρ fun v h => setS v ρ xs h := rfl
theorem o_asgT {F : Fn} {xs : List Nat} {e : PE} {ss : List PS} {ρ ρ' : List V} {h h' : H} {vs : List V} {r : R V} (he : evE true F ρ e h = .ok (.tup vs) h') (hρ : setAll ρ xs vs = some ρ') (k : (exSs true F ss ρ' h').out = r) : (exSs true F (.asgT xs e :: ss) ρ h).out = r := by
  rw [ss_cons', s_asgT', if_neg (by decide), he, R.st_ok, setS, hρ]; exact k
@[simp] theorem e_clear (q : Bool) (F : Fn) (ρ : List V) (h : H) (o : PE) : evE q F ρ (.clear o) h = (evE q F ρ o h).bind fun x h => onList h x fun _ => some (.none, []) := rfl

theorem rng_nat (h : H) (n : Nat) (hn : n ≤ 1000000) : rngR (.int n) h = .ok (upto n, Option.none) h := rngR_int h (by omega) (by omega)


/-- a call begins -/
theorem start {P : Tab} {f : String} {d : FnDef} {n : Nat} {q : Bool} {vs ρ : List V} {h : H} {r : R V} (hf : P f = some d) (hl : vs.length = d.arity) (hρ : vs ++ List.replicate (d.slots - d.arity) .undef = ρ)
    (k : (exSs q (run P n) d.body ρ h).out = r) : run P (n + 1) q f vs h = r := by
  rw [run_succ hf, runD_eq _ _ _ _ _ hl, hρ]; exact k
theorem it_nat {q : Bool} {F : Fn} {ρ : List V} {h h' : H} {a : PE} {n : Nat} (e : evE q F ρ a h = .ok (.int n) h') (hn : n ≤ 1000000) : evIt q F ρ (.range1 a) h = .ok (upto n, Option.none) h' := by
  rw [i_range1, e, R.bind_ok, rng_nat _ _ hn]
theorem it_of {q : Bool} {F : Fn} {ρ : List V} {h h' : H} {a : PE} {v : V} {vs : List V} (e : evE q F ρ a h = .ok v h') (hl : litems h' v = some vs) : ∃ t : Watch, evIt q F ρ (.seq a) h = .ok (vs, t) h' ∧ t.ok h' = true := by
  obtain ⟨t, h1, h2⟩ := iter_of hl
  exact ⟨t, by rw [i_seq, e, R.bind_ok, h1]; rfl, h2⟩
theorem it_lst {q : Bool} {F : Fn} {ρ : List V} {h h' : H} {a : PE} {vs : List V} (e : evE q F ρ a h = .ok (.lst vs) h') : evIt q F ρ (.seq a) h = .ok (vs, Option.none) h' := by
  rw [i_seq, e]; rfl
/-- a comprehension that changes nothing, over things a ∈ l that stand as c a -/
theorem compL_M {α : Type} {elt cond : V → H → R V} (c e : α → V) (b : α → Bool) (h : H) (w : Watch) (hw : w.ok h = true) (l : List α)
    (hc : ∀ a ∈ l, cond (c a) h = .ok (.bool (b a)) h) (he : ∀ a ∈ l, b a = true → elt (c a) h = .ok (e a) h) :
    compL w elt cond (l.map c) h = .ok ((l.filter b).map e) h := by
  induction l with
  | nil => simp [compL, hw]
  | cons a l ih =>
    have ih := ih (fun v hv => hc v (List.mem_cons_of_mem _ hv)) (fun v hv => he v (List.mem_cons_of_mem _ hv))
    rw [List.map_cons, compL, if_pos hw, hc a (List.mem_cons_self ..), R.bind_ok, truthy_bool]
    cases hb : b a with
    | true => dsimp only; rw [he a (List.mem_cons_self ..) hb, R.bind_ok, ih, R.bind_ok, List.filter_cons_of_pos hb, List.map_cons]
    | false => dsimp only; rw [ih, List.filter_cons_of_neg (by rw [hb]; exact Bool.false_ne_true)]
theorem ev_compF {α : Type} {F : Fn} {ρ : List V} {h h' : H} {elt cond : PE} {x : Nat} {it : PIt} {l : List α} {c : α → V} {t : Watch} {r : V} (hi : evIt true F ρ it h = .ok (l.map c, t) h') (ht : t.ok h' = true) (e : α → V) (b : α → Bool)
    (hc : ∀ a ∈ l, evE true F (ρ.set x (c a)) cond h' = .ok (.bool (b a)) h') (he : ∀ a ∈ l, b a = true → evE true F (ρ.set x (c a)) elt h' = .ok (e a) h') (hr : mkL ((l.filter b).map e) = some r) :
    evE true F ρ (.comp elt x it (some cond)) h = .ok r h' := by
  rw [e_comp, if_neg (by decide), hi, R.bind_ok, compL_M c e b h' t ht l hc he, lstR_ok, hr]; rfl
theorem ev_comp {α : Type} {F : Fn} {ρ : List V} {h h' : H} {elt : PE} {x : Nat} {it : PIt} {l : List α} {c : α → V} {t : Watch} {r : V} (hi : evIt true F ρ it h = .ok (l.map c, t) h') (ht : t.ok h' = true) (e : α → V)
    (he : ∀ a ∈ l, evE true F (ρ.set x (c a)) elt h' = .ok (e a) h') (hr : mkL (l.map e) = some r) :
    evE true F ρ (.comp elt x it Option.none) h = .ok r h' := by
  rw [e_comp, if_neg (by decide), hi, R.bind_ok, compL_M c e (fun _ => true) h' t ht l (fun _ _ => rfl) (fun a ha _ => he a ha), lstR_ok, List.filter_eq_self.2 (fun _ _ => rfl), hr]; rfl
theorem it_rng {q : Bool} {F : Fn} {ρ : List V} {h h' : H} {a : PE} {n : Nat} (e : evE q F ρ a h = .ok (.int n) h') (hn : n ≤ 1000000) : evIt q F ρ (.range1 a) h = .ok ((List.range n).map fun i : Nat => V.int i, Option.none) h' := it_nat e hn
theorem it_int {q : Bool} {F : Fn} {ρ : List V} {h h' : H} {a : PE} {m : Int} {n : Nat} (e : evE q F ρ a h = .ok (.int m) h') (h1 : -1000000 ≤ m) (h2 : m ≤ 1000000) (hn : m.toNat = n) : evIt q F ρ (.range1 a) h = .ok ((List.range n).map fun i : Nat => V.int i, Option.none) h' := by
  rw [i_range1, e, R.bind_ok, rngR_int h' h1 h2, upto, hn]
theorem forL_M {α : Type} {t : Watch} {x : Nat} {body : List V → H → RS} (l : List α) (c : α → V) (f : List α → V → List V) (g : List α → H) (ht : ∀ p, t.ok (g p) = true)
    (hb : ∀ p a q w, l = p ++ a :: q → body ((f p w).set x (c a)) (g p) = .ok .next (f (p ++ [a]) (c a)) (g (p ++ [a]))) (w : V) :
    ∃ w', forL t (bind1 x) body (l.map c) (f [] w) (g []) = .ok .next (f l w') (g l) := by
  have key : ∀ (q p : List α) (w : V), l = p ++ q → ∃ w', forL t (bind1 x) body (q.map c) (f p w) (g p) = .ok .next (f l w') (g l) := by
    intro q
    induction q with
    | nil => intro p w e; rw [List.append_nil] at e; subst e; exact ⟨w, if_pos (ht _)⟩
    | cons a q ih =>
      intro p w e
      obtain ⟨w', e'⟩ := ih (p ++ [a]) (c a) (by rw [e, List.append_assoc]; rfl)
      refine ⟨w', ?_⟩
      rw [List.map_cons, forL, if_pos (ht _)]
      show (body ((f p w).set x (c a)) (g p)).then _ = _
      rw [hb p a q w e, RS.then_next, e']
  exact key l [] w rfl
/-- a loop to its end; p: what it has gone through -/
theorem o_for {α : Type} {F : Fn} {x : Nat} {it : PIt} {body ss : List PS} {ρ : List V} {h h' : H} {l : List α} {c : α → V} {t : Watch} {r : R V} (f : List α → V → List V) (g : List α → H) (w : V)
    (hi : evIt true F ρ it h = .ok (l.map c, t) h') (ht : ∀ p, t.ok (g p) = true) (hρ : f [] w = ρ) (hh : g [] = h')
    (hb : ∀ p a q w, l = p ++ a :: q → exSs true F body ((f p w).set x (c a)) (g p) = .ok .next (f (p ++ [a]) (c a)) (g (p ++ [a])))
    (hk : ∀ w', (exSs true F ss (f l w') (g l)).out = r) : (exSs true F (.for1 x it body :: ss) ρ h).out = r := by
  subst hρ hh
  rw [ss_cons', s_for1', if_neg (by decide), hi, R.st_ok]
  obtain ⟨w', e⟩ := forL_M l c f g ht hb w
  rw [e, RS.then_next]; exact hk w'
/-- a loop that changes nothing, and may be left -/
theorem o_each {α : Type} {F : Fn} {x : Nat} {it : PIt} {body ss : List PS} {ρ : List V} {h h' : H} {l : List α} {c : α → V} {t : Watch} {r : R V} {w₀ : V} (b : α → Bool)
    (hi : evIt true F ρ it h = .ok (l.map c, t) h') (ht : t.ok h' = true) (hx : ρ.set x w₀ = ρ)
    (hb : ∀ a ∈ l, b a = true → exSs true F body (ρ.set x (c a)) h' = .ok .next (ρ.set x (c a)) h')
    (hk : (∀ a ∈ l, b a = true) → ∀ w, (exSs true F ss (ρ.set x w) h').out = r)
    (hl : ∀ p a q, l = p ++ a :: q → (∀ d ∈ p, b d = true) → b a = false → ∀ k, ((exSs true F body (ρ.set x (c a)) h').then k).out = r) :
    (exSs true F (.for1 x it body :: ss) ρ h).out = r := by
  rw [ss_cons', s_for1', if_neg (by decide), hi, R.st_ok]
  have key : ∀ (q p : List α) (w : V), l = p ++ q → (∀ d ∈ p, b d = true) → ((forL t (bind1 x) (fun ρ h => exSs true F body ρ h) (q.map c) (ρ.set x w) h').then fun ρ h => exSs true F ss ρ h).out = r := by
    intro q
    induction q with
    | nil =>
      intro p w e hp
      rw [List.append_nil] at e; subst e
      rw [List.map_nil, forL, if_pos ht]; exact hk hp w
    | cons a q ih =>
      intro p w e hp
      rw [List.map_cons, forL, if_pos ht]
      show (((exSs true F body ((ρ.set x w).set x (c a)) h').then _).then _).out = r
      rw [List.set_set]
      cases hba : b a with
      | true =>
        rw [hb a (by rw [e]; simp) hba, RS.then_next]
        exact ih (p ++ [a]) (c a) (by rw [e, List.append_assoc]; rfl) (fun d hd => by
          rcases List.mem_append.1 hd with h | h
          · exact hp d h
          · rw [List.mem_singleton] at h; rw [h]; exact hba)
      | false =>
        have := hl p a q e hp hba
        cases hq : exSs true F body (ρ.set x (c a)) h' with
        | bad => rw [hq] at this; exact this fun _ _ => .bad
        | err d ρ' h => rw [hq] at this; exact this fun _ _ => .bad
        | ok fl ρ' h => rw [hq] at this; cases fl with
          | next => exact this fun ρ h => (forL t (bind1 x) (fun ρ h => exSs true F body ρ h) (List.map c q) ρ h).then fun ρ h => exSs true F ss ρ h
          | ret v => exact this fun _ _ => .bad
  have := key l [] w₀ rfl (fun _ h => nomatch h)
  rw [hx] at this; exact this

end Mine

namespace Mine
/- is_among: 0 thing, 1 low, 2 high -/
noncomputable def D_is_among : FnDef := ⟨3, 3, [
  .ret (.and [.isinst (.var 0) [.int], .not (.isinst (.var 0) [.bool]), .cmp2 .le .le (.var 1) (.var 0) (.var 2)])]⟩
structure U_is_among (P : Tab) : Prop where
  self : P "is_among" = some D_is_among

/- how_many: 0 signs, 1 size, 2 found, 3 turn -/
noncomputable def D_how_many : FnDef := ⟨2, 4, [
  .asg 2 (.int 1),
  .for1 3 (.range1 (.var 1)) [
    .asg 2 (.bin .mul (.var 2) (.var 0))],
  .ret (.var 2)]⟩
structure U_how_many (P : Tab) : Prop where
  self : P "how_many" = some D_how_many

/- need_signs: 0 signs -/
noncomputable def D_need_signs : FnDef := ⟨1, 1, [
  .ifs (.not (.call false "is_among" [.var 0, .int 1, .glob "MOST_SIGNS" 9])) [
    .raise "BadSize"] []]⟩
structure U_need_signs (P : Tab) : Prop where
  self : P "need_signs" = some D_need_signs
  is_among : U_is_among P

/- need_size: 0 size -/
noncomputable def D_need_size : FnDef := ⟨1, 1, [
  .ifs (.not (.call false "is_among" [.var 0, .int 1, .glob "MOST_SIZE" 8])) [
    .raise "BadSize"] []]⟩
structure U_need_size (P : Tab) : Prop where
  self : P "need_size" = some D_need_size
  is_among : U_is_among P

/- need_both: 0 signs, 1 size -/
noncomputable def D_need_both : FnDef := ⟨2, 2, [
  .expr (.call false "need_signs" [.var 0]),
  .expr (.call false "need_size" [.var 1]),
  .ifs (.cmp .gt (.call false "how_many" [.var 0, .var 1]) (.glob "MOST_WORDS" 256)) [
    .raise "BadSize"] []]⟩
structure U_need_both (P : Tab) : Prop where
  self : P "need_both" = some D_need_both
  need_signs : U_need_signs P
  need_size : U_need_size P
  how_many : U_how_many P

/- is_word: 0 signs, 1 word, 2 sign -/
noncomputable def D_is_word : FnDef := ⟨2, 3, [
  .ifs (.or [.not (.isinst (.var 1) [.list]), .not (.cmp2 .le .le (.int 1) (.bf .len (.var 1)) (.glob "MOST_SIZE" 8))]) [
    .ret (.bool false)] [],
  .ret (.bf .all (.comp (.call false "is_among" [.var 2, .int 0, .bin .sub (.var 0) (.int 1)]) 2 (.seq (.var 1)) .none))]⟩
structure U_is_word (P : Tab) : Prop where
  self : P "is_word" = some D_is_word
  is_among : U_is_among P

/- need_word: 0 signs, 1 word -/
noncomputable def D_need_word : FnDef := ⟨2, 2, [
  .ifs (.not (.call false "is_word" [.var 0, .var 1])) [
    .raise "BadWord"] []]⟩
structure U_need_word (P : Tab) : Prop where
  self : P "need_word" = some D_need_word
  is_word : U_is_word P

/- need_sized: 0 signs, 1 size, 2 word -/
noncomputable def D_need_sized : FnDef := ⟨3, 3, [
  .expr (.call false "need_word" [.var 0, .var 2]),
  .ifs (.cmp .ne (.bf .len (.var 2)) (.var 1)) [
    .raise "BadWord"] []]⟩
structure U_need_sized (P : Tab) : Prop where
  self : P "need_sized" = some D_need_sized
  need_word : U_need_word P

/- numbered: 0 signs, 1 size, 2 number, 3 found, 4 left, 5 turn -/
noncomputable def D_numbered : FnDef := ⟨3, 6, [
  .asg 3 (.own (.list [])),
  .asg 4 (.var 2),
  .for1 5 (.range1 (.var 1)) [
    .expr (.append (.var 3) (.bin .mod (.var 4) (.var 0))),
    .asg 4 (.bin .fdiv (.var 4) (.var 0))],
  .ret (.bf .listRev (.var 3))]⟩
structure U_numbered (P : Tab) : Prop where
  self : P "numbered" = some D_numbered

/- all_words: 0 signs, 1 size, 2 number -/
noncomputable def D_all_words : FnDef := ⟨2, 3, [
  .expr (.call false "need_both" [.var 0, .var 1]),
  .ret (.comp (.call false "numbered" [.var 0, .var 1, .var 2]) 2 (.range1 (.call false "how_many" [.var 0, .var 1])) .none)]⟩
structure U_all_words (P : Tab) : Prop where
  self : P "all_words" = some D_all_words
  need_both : U_need_both P
  how_many : U_how_many P
  numbered : U_numbered P

/- number_of: 0 signs, 1 size, 2 word, 3 found, 4 sign -/
noncomputable def D_number_of : FnDef := ⟨3, 5, [
  .expr (.call false "need_both" [.var 0, .var 1]),
  .expr (.call false "need_sized" [.var 0, .var 1, .var 2]),
  .asg 3 (.int 0),
  .for1 4 (.seq (.var 2)) [
    .asg 3 (.bin .add (.bin .mul (.var 3) (.var 0)) (.var 4))],
  .ret (.var 3)]⟩
structure U_number_of (P : Tab) : Prop where
  self : P "number_of" = some D_number_of
  need_both : U_need_both P
  need_sized : U_need_sized P

/- word_of: 0 signs, 1 size, 2 number -/
noncomputable def D_word_of : FnDef := ⟨3, 3, [
  .expr (.call false "need_both" [.var 0, .var 1]),
  .ifs (.not (.call false "is_among" [.var 2, .int 0, .bin .sub (.call false "how_many" [.var 0, .var 1]) (.int 1)])) [
    .raise "BadWord"] [],
  .ret (.call false "numbered" [.var 0, .var 1, .var 2])]⟩
structure U_word_of (P : Tab) : Prop where
  self : P "word_of" = some D_word_of
  need_both : U_need_both P
  is_among : U_is_among P
  how_many : U_how_many P
  numbered : U_numbered P

/- stands_in: 0 piece, 1 word, 2 place -/
noncomputable def D_stands_in : FnDef := ⟨2, 3, [
  .for1 2 (.range1 (.bin .add (.bin .sub (.bf .len (.var 1)) (.bf .len (.var 0))) (.int 1))) [
    .ifs (.cmp .eq (.slice (.var 1) (some (.var 2)) (some (.bin .add (.var 2) (.bf .len (.var 0))))) (.var 0)) [
      .ret (.bool true)] []],
  .ret (.bool false)]⟩
structure U_stands_in (P : Tab) : Prop where
  self : P "stands_in" = some D_stands_in

/- free_of: 0 signs, 1 size, 2 pieces, 3 piece, 4 found, 5 word, 6 piece -/
noncomputable def D_free_of : FnDef := ⟨3, 7, [
  .expr (.call false "need_both" [.var 0, .var 1]),
  .ifs (.not (.isinst (.var 2) [.list])) [
    .raise "BadWord"] [],
  .for1 3 (.seq (.var 2)) [
    .expr (.call false "need_word" [.var 0, .var 3])],
  .asg 4 (.own (.list [])),
  .for1 5 (.seq (.call false "all_words" [.var 0, .var 1])) [
    .ifs (.not (.bf .any (.comp (.call false "stands_in" [.var 6, .var 5]) 6 (.seq (.var 2)) .none))) [
      .expr (.append (.var 4) (.var 5))] []],
  .ret (.var 4)]⟩
structure U_free_of (P : Tab) : Prop where
  self : P "free_of" = some D_free_of
  need_both : U_need_both P
  need_word : U_need_word P
  all_words : U_all_words P
  stands_in : U_stands_in P

end Mine

namespace Mine

/-- a thing is an int from lo to hi, and no bool -/
noncomputable def among (v : V) (lo hi : Int) : Bool :=
  match v with
  | .int a => decide (lo ≤ a) && decide (a ≤ hi)
  | _ => false

theorem is_among_eq {P : Tab} (u : U_is_among P) (n : Nat) (q : Bool) (v : V) (lo hi : Int) (h : H) (hv : okV h v) :
    run P (n + 1) q "is_among" [v, .int lo, .int hi] h = .ok (.bool (among v lo hi)) h := by
  rw [run_succ u.self, runD_eq _ _ _ _ _ rfl]
  simp only [D_is_among]
  refine o_ret ?_
  rcases kind_of v with ⟨a, rfl⟩ | ⟨b, rfl⟩ | ⟨h1, h2⟩
  · simp [among]; by_cases h1 : lo ≤ a <;> simp [h1]
  · simp [among]
  · have e : among v lo hi = false := by
      cases v <;> first | rfl | exact absurd rfl (h1 _)
    simp [varR_val h hv.val, isTy_int_no hv h1 h2, e]

theorem how_many_eq {P : Tab} (u : U_how_many P) (n : Nat) (s : Int) (hs : s.natAbs < 1000) (z : Nat) (hz : z ≤ 1000) (h : H) :
    run P (n + 1) true "how_many" [.int s, .int z] h = .ok (.int (s ^ z)) h := by
  rw [run_succ u.self, runD_eq _ _ _ _ _ rfl]
  simp only [D_how_many]
  simp [rngR_int h (n := z) (by omega) (by omega)]
  refine out_for (fun i w => [.int s, .int z, .int (s ^ i), w]) (fun _ => h) .undef (by simp) rfl ?_ ?_
  · intro i w hi
    simp [bin_mul_int h _ s (by omega), Int.pow_succ]
  · intro w
    simp

theorem need_signs_eq {P : Tab} (u : U_need_signs P) (n : Nat) (v : V) (h : H) (hv : okV h v) :
    run P (n + 2) true "need_signs" [v] h = if among v 1 9 then .ok .none h else .err "BadSize" h := by
  rw [run_succ u.self, runD_eq _ _ _ _ _ rfl]
  simp only [D_need_signs]
  simp [varR_val h hv.val, is_among_eq u.is_among n true v _ _ h hv]
  cases among v 1 9 <;> simp
theorem need_size_eq {P : Tab} (u : U_need_size P) (n : Nat) (v : V) (h : H) (hv : okV h v) :
    run P (n + 2) true "need_size" [v] h = if among v 1 8 then .ok .none h else .err "BadSize" h := by
  rw [run_succ u.self, runD_eq _ _ _ _ _ rfl]
  simp only [D_need_size]
  simp [varR_val h hv.val, is_among_eq u.is_among n true v _ _ h hv]
  cases among v 1 8 <;> simp

/-- signs and a size that go together -/
noncomputable def fits (vs vz : V) : Bool :=
  among vs 1 9 && among vz 1 8 && (match vs, vz with
    | .int s, .int z => decide (s ^ z.toNat ≤ 256)
    | _, _ => false)

theorem among_int {v : V} {lo hi : Int} (e : among v lo hi = true) : ∃ a : Int, v = .int a ∧ lo ≤ a ∧ a ≤ hi := by
  cases v <;> simp [among] at e
  exact ⟨_, rfl, e⟩

theorem need_both_eq {P : Tab} (u : U_need_both P) (n : Nat) (v w : V) (h : H) (hv : okV h v) (hw : okV h w) :
    run P (n + 3) true "need_both" [v, w] h = if fits v w then .ok .none h else .err "BadSize" h := by
  rw [run_succ u.self, runD_eq _ _ _ _ _ rfl]
  simp only [D_need_both]
  have a1 := need_signs_eq u.need_signs n v h hv
  have a2 := need_size_eq u.need_size n w h hw
  cases e1 : among v 1 9 with
  | false => simp [fits, varR_val h hv.val, a1, e1]
  | true =>
    cases e2 : among w 1 8 with
    | false => simp [fits, varR_val h hv.val, varR_val h hw.val, a1, a2, e1, e2]
    | true =>
      obtain ⟨s, rfl, hs1, hs2⟩ := among_int e1
      obtain ⟨z, rfl, hz1, hz2⟩ := among_int e2
      obtain ⟨z', rfl⟩ := Int.eq_ofNat_of_zero_le (show 0 ≤ z by omega)
      by_cases e : s ^ z' ≤ 256
      · have : ¬ 256 < s ^ z' := by omega
        simp [fits, a1, a2, e1, e2, e, this, how_many_eq u.how_many (n + 1) s (by omega) z' (by omega)]
      · have : 256 < s ^ z' := by omega
        simp [fits, a1, a2, e1, e2, e, this, how_many_eq u.how_many (n + 1) s (by omega) z' (by omega)]

/-- a list is a word of the signs -/
noncomputable def wordy (s : Int) (vs : List V) : Bool := decide (1 ≤ vs.length) && decide (vs.length ≤ 8) && vs.all fun v => among v 0 (s - 1)
noncomputable def wordB (h : H) (s : Int) (w : V) : Bool :=
  match litems h w with
  | some vs => wordy s vs
  | none => false

theorem is_word_eq {P : Tab} (u : U_is_word P) (n : Nat) (s : Int) (w : V) (h : H) (hw : okV h w) (hi : ∀ vs, litems h w = some vs → ∀ v ∈ vs, okV h v) :
    run P (n + 2) true "is_word" [.int s, w] h = .ok (.bool (wordB h s w)) h := by
  rw [run_succ u.self, runD_eq _ _ _ _ _ rfl]
  simp only [D_is_word]
  cases hl : litems h w with
  | none => simp [varR_val h hw.val, notList_of hw hl, wordB, hl]
  | some vs =>
    have hi := hi vs hl
    simp [varR_val h hw.val, isList_of hl, len_of hl]
    by_cases h1 : 1 ≤ vs.length
    · have h1' : (1 : Int) ≤ (vs.length : Int) := by omega
      by_cases h2 : vs.length ≤ 8
      · have h2' : (vs.length : Int) ≤ 8 := by omega
        obtain ⟨t, ht, hto⟩ := iter_of hl
        simp [h1', h2', varR_val h hw.val, ht]
        rw [compL_pureW (fun v => .bool (among v 0 (s - 1))) (fun _ => true) h t hto vs]
        · rw [show vs.filter (fun _ => true) = vs from List.filter_eq_self.2 (fun _ _ => rfl), lstR_ok]
          rw [mkL_eq (by simp; omega)]
          simp [wordB, hl, wordy, h1, h2, Function.comp_def]
        · intro v hv; simp
        · intro v hv _
          simp [varR_val h (hi v hv).val, is_among_eq u.is_among n true v _ _ h (hi v hv)]
      · have h2' : ¬ (vs.length : Int) ≤ 8 := by omega
        simp [h1', h2', wordB, hl, wordy, h2]
    · have h1' : ¬ (1 : Int) ≤ (vs.length : Int) := by omega
      simp [h1', wordB, hl, wordy, h1]

theorem need_word_eq {P : Tab} (u : U_need_word P) (n : Nat) (s : Int) (w : V) (h : H) (hw : okV h w) (hi : ∀ vs, litems h w = some vs → ∀ v ∈ vs, okV h v) :
    run P (n + 3) true "need_word" [.int s, w] h = if wordB h s w then .ok .none h else .err "BadWord" h := by
  rw [run_succ u.self, runD_eq _ _ _ _ _ rfl]
  simp only [D_need_word]
  simp [varR_val h hw.val, is_word_eq u.is_word n s w h hw hi]
  cases wordB h s w <;> simp

theorem fits_nat {v w : V} (e : fits v w = true) : ∃ s z : Nat, v = .int s ∧ w = .int z ∧ 1 ≤ s ∧ s ≤ 9 ∧ 1 ≤ z ∧ z ≤ 8 ∧ s ^ z ≤ 256 := by
  simp only [fits, Bool.and_eq_true] at e
  obtain ⟨⟨e1, e2⟩, e3⟩ := e
  obtain ⟨s, rfl, hs1, hs2⟩ := among_int e1
  obtain ⟨z, rfl, hz1, hz2⟩ := among_int e2
  obtain ⟨z', rfl⟩ := Int.eq_ofNat_of_zero_le (show 0 ≤ z by omega)
  obtain ⟨s', rfl⟩ := Int.eq_ofNat_of_zero_le (show 0 ≤ s by omega)
  refine ⟨s', z', rfl, rfl, by omega, by omega, by omega, by omega, ?_⟩
  have e4 := of_decide_eq_true e3
  rw [Int.toNat_natCast] at e4
  have e5 : ((s' ^ z' : Nat) : Int) ≤ 256 := by rw [Int.natCast_pow]; exact e4
  omega


/-- the word with a number -/
noncomputable def word (s : Nat) : Nat → Nat → List Nat
  | 0, _ => []
  | z + 1, k => word s z (k / s) ++ [k % s]
theorem word_length (s z k : Nat) : (word s z k).length = z := by
  induction z generalizing k with
  | zero => rfl
  | succ z ih => simp [word, ih]
theorem word_lt {s : Nat} (hs : 0 < s) (z k : Nat) : ∀ d ∈ word s z k, d < s := by
  induction z generalizing k with
  | zero => intro d hd; cases hd
  | succ z ih =>
    intro d hd
    rcases List.mem_append.1 hd with h | h
    · exact ih _ d h
    · simp at h; subst h; exact Nat.mod_lt _ hs
theorem word_split (s z i k : Nat) (hi : i ≤ z) : word s z k = word s (z - i) (k / s ^ i) ++ word s i k := by
  induction i generalizing z k with
  | zero => simp [word]
  | succ i ih =>
    obtain ⟨z, rfl⟩ : ∃ y, z = y + 1 := ⟨z - 1, by omega⟩
    rw [word, ih z (k / s) (by omega), word, Nat.pow_succ, Nat.mul_comm, ← Nat.div_div_eq_div_mul, List.append_assoc]
    congr 2; omega

theorem numbered_eq {P : Tab} (u : U_numbered P) (n : Nat) (s z k : Nat) (hs : 0 < s) (hz : z ≤ 1000) (h : H) :
    run P (n + 1) true "numbered" [.int s, .int z, .int k] h = .ok (.lst (V.nats (word s z k))) (h ++ [.list (V.nats (word s z k).reverse)]) := by
  refine start u.self rfl (ρ := [.int s, .int z, .int k, .undef, .undef, .undef]) rfl ?_
  refine o_asg (v := .ref h.length) (h' := h ++ [.list []]) (by simp [mkL]) rfl (o_asg rfl rfl ?_)
  refine o_for (fun p w => [.int s, .int z, .int k, .ref h.length, .int ((k / s ^ p.length : Nat) : Int), w]) (fun p => h ++ [.list (V.nats (word s p.length k).reverse)]) .undef (it_rng (n := z) rfl (by omega)) (fun _ => rfl) (by simp) (by simp [word]) ?_ ?_
  · intro p a q w hp
    have hi : p.length < z := by have := congrArg List.length hp; simp at this; omega
    rw [List.length_append, List.length_singleton]
    generalize p.length = i at *
    have e1 : (h ++ [Cell.list (V.nats (word s i k).reverse)])[h.length]? = some (.list (V.nats (word s i k).reverse)) := by simp
    have e2 : k / s ^ (i + 1) = k / s ^ i / s := by rw [Nat.div_div_eq_div_mul, Nat.pow_succ]
    have e3 : word s (i + 1) k = (k / s ^ i % s) :: word s i k := by
      rw [word_split s (i + 1) i k (by omega), show i + 1 - i = 1 by omega]; rfl
    rw [e2, e3]
    have hl := word_length s i k
    generalize word s i k = wd at *
    generalize k / s ^ i = m
    simp [bin_mod_int _ _ (s : Int) (by omega), lcell_ref e1]
    rw [onList_ref e1 _ _ _ rfl (by simp; omega)]
    simp [bin_fdiv_int _ _ (s : Int) (by omega), V.nats, V.nat, Int.fdiv_eq_ediv_of_nonneg, Int.fmod_eq_emod_of_nonneg]
  · intro w
    refine o_ret ?_
    simp [bf_rev (litems_ref (cell_get _ _)), V.nats]
theorem numbered_p {P : Tab} (u : U_numbered P) (n : Nat) (s z k : Nat) (hs : 0 < s) (hz : z ≤ 1000) (h : H) :
    pcall h (run P (n + 1) true "numbered" [.int s, .int z, .int k] h) = .ok (.lst (V.nats (word s z k))) h := by
  rw [numbered_eq u n s z k hs hz h, pcall_new _ _ (frz_plain _ _ _ (nats_plain _))]

/-- a list of lists -/
noncomputable def V.lists (ls : List (List Nat)) : List V := ls.map fun l => .lst (V.nats l)
noncomputable def words (s z : Nat) : List (List Nat) := (List.range (s ^ z)).map (word s z)
theorem lists_plains (ls : List (List Nat)) : V.plains (V.lists ls) = true := by
  induction ls with
  | nil => rfl
  | cons a l ih => simp only [V.lists, List.map_cons, V.plains, V.plain, nats_plains, Bool.true_and]; exact ih
theorem lists_plain (ls : List (List Nat)) : V.plain (.lst (V.lists ls)) = true := lists_plains ls


theorem all_words_eq {P : Tab} (u : U_all_words P) (n : Nat) (s z : Nat) (h : H) (e : fits (.int s) (.int z) = true) :
    run P (n + 4) true "all_words" [.int s, .int z] h = .ok (.lst (V.lists (words s z))) h := by
  obtain ⟨s', z', e1, e2, h1, h2, h3, h4, h5⟩ := fits_nat e
  simp at e1 e2
  have e1 : s = s' := by omega
  have e2 : z = z' := by omega
  subst e1 e2
  refine start u.self rfl (ρ := [.int s, .int z, .undef]) rfl ?_
  refine o_expr (h' := h) (by simp [need_both_eq u.need_both n (.int s) (.int z) h trivial trivial, e]) (o_ret ?_)
  refine ev_comp (it_rng (n := s ^ z) ?_ (by omega)) rfl (fun k => .lst (V.nats (word s z k))) ?_ ?_
  · simp [how_many_eq u.how_many (n + 2) s (by omega) z (by omega)]
  · intro k _
    exact numbered_p u.numbered (n + 2) s z k (by omega) (by omega) h
  · rw [mkL_eq (by simp; omega), V.lists, words, List.map_map]; rfl

end Mine

namespace Mine
/- _law_cell_at: 0 _law_script, 1 _law_k -/
noncomputable def L_cell_at : FnDef := ⟨2, 2, [
  .ifs (.cmp .lt (.var 1) (.bf .len (.var 0))) [
    .ret (.idx (.var 0) (.var 1))] [],
  .ret (.int 0)]⟩
structure UL_cell_at (P : Tab) : Prop where
  self : P "_law_cell_at" = some L_cell_at

/- _law_classes: 0 _law_e, 1 _law_found -/
noncomputable def L_classes : FnDef := ⟨1, 2, [
  .asg 1 (.bin .add (.bin .add (.bin .mul (.list [.int 0]) (.bf .int (.isexc 0 (.own "BadSize")))) (.bin .mul (.list [.int 1]) (.bf .int (.isexc 0 (.own "BadWord"))))) (.bin .mul (.list [.int 2]) (.bf .int (.isexc 0 (.own "BadBook"))))),
  .asg 1 (.bin .add (.bin .add (.var 1) (.bin .mul (.list [.int 3]) (.bf .int (.isexc 0 (.own "BadRing"))))) (.bin .mul (.list [.int 4]) (.bf .int (.isexc 0 (.own "NoWord"))))),
  .asg 1 (.bin .add (.bin .add (.var 1) (.bin .mul (.list [.int 5]) (.bf .int (.isexc 0 (.own "NoRing"))))) (.bin .mul (.list [.int 6]) (.bf .int (.isexc 0 (.own "NoJoin"))))),
  .ret (.bf .tuple (.bin .mul (.var 1) (.bf .int (.isexc 0 .valueError))))]⟩
structure UL_classes (P : Tab) : Prop where
  self : P "_law_classes" = some L_classes

/- _law_power: 0 _law_signs, 1 _law_size, 2 _law_found, 3 _law_step -/
noncomputable def L_power : FnDef := ⟨2, 4, [
  .asg 2 (.int 1),
  .for1 3 (.range1 (.var 1)) [
    .asg 2 (.bin .mul (.var 2) (.var 0))],
  .ret (.var 2)]⟩
structure UL_power (P : Tab) : Prop where
  self : P "_law_power" = some L_power

/- _law_word: 0 _law_signs, 1 _law_size, 2 _law_number, 3 _law_found, 4 _law_step -/
noncomputable def L_word : FnDef := ⟨3, 5, [
  .asg 3 (.list []),
  .for1 4 (.range1 (.var 1)) [
    .asg 3 (.bin .add (.list [.bin .mod (.var 2) (.var 0)]) (.var 3)),
    .asg 2 (.bin .fdiv (.var 2) (.var 0))],
  .ret (.var 3)]⟩
structure UL_word (P : Tab) : Prop where
  self : P "_law_word" = some L_word

end Mine

namespace Mine

theorem cell_at_eq {P : Tab} (u : UL_cell_at P) (n : Nat) (q : Bool) (l : List Int) (k : Nat) (h : H) :
    run P (n + 1) q "_law_cell_at" [V.ints l, .int k] h = .ok (.int (cellAt l k)) h := by
  rw [run_succ u.self, runD_eq _ _ _ _ _ rfl]
  simp only [L_cell_at, V.ints]
  have hl : litems h (.lst (l.map .int)) = some (l.map .int) := rfl
  by_cases hk : k < l.length
  · have hk' : (k : Int) < (l.length : Int) := by omega
    simp [len_of hl, hk', pyIdx, place, hk, cellAt]
  · have hk' : ¬ (k : Int) < (l.length : Int) := by omega
    simp [len_of hl, hk', cellAt, List.getElem?_eq_none (Nat.le_of_not_lt hk)]

/-- the number of an exception's class -/
noncomputable def codeOf (c : String) : Int :=
  if c = "BadSize" then 0 else if c = "BadWord" then 1 else if c = "BadBook" then 2 else if c = "BadRing" then 3 else if c = "NoWord" then 4 else if c = "NoRing" then 5 else 6


theorem mul01 (h : H) (vs : List V) (hl : vs.length ≤ 1000000) (b : Bool) : pyBin .mul h (.lst vs) (.int (if b then 1 else 0)) = some (.lst (if b then vs else [])) := by
  cases b <;> simp [pyBin, pyMul, litems, rep, mkL, hl]
theorem isExc_own (c d : String) (hc : c ∈ ["BadSize", "BadWord", "BadBook", "BadRing", "NoWord", "NoRing", "NoJoin"]) (hd : d ∈ ["BadSize", "BadWord", "BadBook", "BadRing", "NoWord", "NoRing", "NoJoin"]) :
    isExc c (.own d) = some (c == d) := by
  have h1 : excNames.contains c = true := by
    rw [List.contains_iff_mem]; exact List.mem_cons_of_mem _ hc
  have h2 : excNames.contains d = true := by
    rw [List.contains_iff_mem]; exact List.mem_cons_of_mem _ hd
  have h3 : (d == "RingError") = false := by
    rw [beq_eq_false_iff_ne]; rintro rfl; revert hd; decide
  simp only [isExc, h1, h2, if_true, h3, Bool.or_false]
theorem isExc_val (c : String) (hc : c ∈ ["BadSize", "BadWord", "BadBook", "BadRing", "NoWord", "NoRing", "NoJoin"]) : isExc c .valueError = some true := by
  have h1 : excNames.contains c = true := by
    rw [List.contains_iff_mem]; exact List.mem_cons_of_mem _ hc
  simp only [isExc, h1, if_true]

theorem mulT (h : H) (vs : List V) (hl : vs.length ≤ 1000000) : pyBin .mul h (.lst vs) (.int 1) = some (.lst vs) := mul01 h vs hl true

theorem classes_eq {P : Tab} (u : UL_classes P) (n : Nat) (q : Bool) (c : String) (hc : c ∈ ["BadSize", "BadWord", "BadBook", "BadRing", "NoWord", "NoRing", "NoJoin"]) (h : H) :
    run P (n + 1) q "_law_classes" [.exc c] h = .ok (.tup [.int (codeOf c)]) h := by
  rw [run_succ u.self, runD_eq _ _ _ _ _ rfl]
  simp only [L_classes]
  have f0 := isExc_own c "BadSize" hc (by simp)
  have f1 := isExc_own c "BadWord" hc (by simp)
  have f2 := isExc_own c "BadBook" hc (by simp)
  have f3 := isExc_own c "BadRing" hc (by simp)
  have f4 := isExc_own c "NoWord" hc (by simp)
  have f5 := isExc_own c "NoRing" hc (by simp)
  have f6 := isExc_own c "NoJoin" hc (by simp)
  have f7 := isExc_val c hc
  have ex : ∀ (i : Int) (t : Ty) (b : Bool) (ρ : List V), ρ[0]? = some (.exc c) → isExc c t = some b →
      evE q (run P n) ρ (.bin .mul (.list [.int i]) (.bf .int (.isexc 0 t))) h = .ok (.lst (if b then [.int i] else [])) h := by
    intro i t b ρ hρ ht
    have m1 := mul01 h [.int i] (by simp) b
    simp [hρ, ht, mkL_eq, m1]
  have key : (if c == "BadSize" then [V.int 0] else []) ++ (if c == "BadWord" then [V.int 1] else []) ++ (if c == "BadBook" then [V.int 2] else []) ++ (if c == "BadRing" then [V.int 3] else []) ++ (if c == "NoWord" then [V.int 4] else []) ++ (if c == "NoRing" then [V.int 5] else []) ++ (if c == "NoJoin" then [V.int 6] else []) = [.int (codeOf c)] := by
    simp only [List.mem_cons, List.not_mem_nil, or_false] at hc
    rcases hc with rfl | rfl | rfl | rfl | rfl | rfl | rfl <;> rfl
  have hl : ∀ (b : Bool) (i : Int), (if b then [V.int i] else []).length ≤ 1 := by intro b i; cases b <;> simp
  have h0 := hl (c == "BadSize") 0
  have h1 := hl (c == "BadWord") 1
  have h2 := hl (c == "BadBook") 2
  have h3 := hl (c == "BadRing") 3
  have h4 := hl (c == "NoWord") 4
  have h5 := hl (c == "NoRing") 5
  have h6 := hl (c == "NoJoin") 6
  have x0 := fun ρ hρ => ex 0 _ _ ρ hρ f0
  have x1 := fun ρ hρ => ex 1 _ _ ρ hρ f1
  have x2 := fun ρ hρ => ex 2 _ _ ρ hρ f2
  have x3 := fun ρ hρ => ex 3 _ _ ρ hρ f3
  have x4 := fun ρ hρ => ex 4 _ _ ρ hρ f4
  have x5 := fun ρ hρ => ex 5 _ _ ρ hρ f5
  have x6 := fun ρ hρ => ex 6 _ _ ρ hρ f6
  generalize (if c == "BadSize" then [V.int 0] else []) = w0 at *
  generalize (if c == "BadWord" then [V.int 1] else []) = w1 at *
  generalize (if c == "BadBook" then [V.int 2] else []) = w2 at *
  generalize (if c == "BadRing" then [V.int 3] else []) = w3 at *
  generalize (if c == "NoWord" then [V.int 4] else []) = w4 at *
  generalize (if c == "NoRing" then [V.int 5] else []) = w5 at *
  generalize (if c == "NoJoin" then [V.int 6] else []) = w6 at *
  have ad : ∀ a b : List V, a.length + b.length ≤ 1000000 → pyBin .add h (.lst a) (.lst b) = some (.lst (a ++ b)) := fun a b hab => addLL h a b hab
  refine o_asg (v := .lst (w0 ++ w1 ++ w2)) (h' := h) ?_ rfl ?_
  · rw [e_bin, e_bin, x0 _ rfl, R.bind_ok, x1 _ rfl, R.bind_ok, ad _ _ (by omega), R.opt_some, R.bind_ok, x2 _ rfl, R.bind_ok, ad _ _ (by simp; omega)]; rfl
  refine o_asg (v := .lst (w0 ++ w1 ++ w2 ++ w3 ++ w4)) (h' := h) ?_ rfl ?_
  · rw [e_bin, e_bin, show ∀ ρ : List V, ρ[1]? = some (.lst (w0 ++ w1 ++ w2)) → evE q (run P n) ρ (.var 1) h = .ok (.lst (w0 ++ w1 ++ w2)) h from fun ρ hρ => by rw [e_var, hρ]; rfl, R.bind_ok, x3 _ rfl, R.bind_ok, ad _ _ (by simp; omega), R.opt_some, R.bind_ok, x4 _ rfl, R.bind_ok, ad _ _ (by simp; omega)]; · rfl
    · rfl
  refine o_asg (v := .lst (w0 ++ w1 ++ w2 ++ w3 ++ w4 ++ w5 ++ w6)) (h' := h) ?_ rfl ?_
  · rw [e_bin, e_bin, show ∀ ρ : List V, ρ[1]? = some (.lst (w0 ++ w1 ++ w2 ++ w3 ++ w4)) → evE q (run P n) ρ (.var 1) h = .ok (.lst (w0 ++ w1 ++ w2 ++ w3 ++ w4)) h from fun ρ hρ => by rw [e_var, hρ]; rfl, R.bind_ok, x5 _ rfl, R.bind_ok, ad _ _ (by simp; omega), R.opt_some, R.bind_ok, x6 _ rfl, R.bind_ok, ad _ _ (by simp; omega)]; · rfl
    · rfl
  rw [key]
  exact o_ret (by simp [f7, mulT h [.int (codeOf c)] (by simp), Mine.bf, items])

theorem power_eq {P : Tab} (u : UL_power P) (n : Nat) (s : Int) (hs : s.natAbs < 1000) (z : Nat) (hz : z ≤ 1000) (h : H) :
    run P (n + 1) true "_law_power" [.int s, .int z] h = .ok (.int (s ^ z)) h := by
  rw [run_succ u.self, runD_eq _ _ _ _ _ rfl]
  simp only [L_power]
  simp [rngR_int h (n := z) (by omega) (by omega)]
  refine out_for (fun i w => [.int s, .int z, .int (s ^ i), w]) (fun _ => h) .undef (by simp) rfl ?_ ?_
  · intro i w hi
    simp [bin_mul_int h _ s (by omega), Int.pow_succ]
  · intro w
    simp

theorem lword_eq {P : Tab} (u : UL_word P) (n : Nat) (s z k : Nat) (hs : 0 < s) (hz : z ≤ 1000) (h : H) :
    run P (n + 1) true "_law_word" [.int s, .int z, .int k] h = .ok (.lst (V.nats (word s z k))) h := by
  refine start u.self rfl (ρ := [.int s, .int z, .int k, .undef, .undef]) rfl ?_
  refine o_asg (v := .lst []) (h' := h) rfl rfl ?_
  refine o_for (fun p w => [.int s, .int z, .int ((k / s ^ p.length : Nat) : Int), .lst (V.nats (word s p.length k)), w]) (fun _ => h) .undef (it_rng (n := z) rfl (by omega)) (fun _ => rfl) (by simp [word]) rfl ?_ ?_
  · intro p a q w hp
    have hi : p.length < z := by have := congrArg List.length hp; simp at this; omega
    rw [List.length_append, List.length_singleton]
    generalize p.length = i at *
    have e2 : k / s ^ (i + 1) = k / s ^ i / s := by rw [Nat.div_div_eq_div_mul, Nat.pow_succ]
    have e3 : word s (i + 1) k = (k / s ^ i % s) :: word s i k := by
      rw [word_split s (i + 1) i k (by omega), show i + 1 - i = 1 by omega]; rfl
    rw [e2, e3]
    have hl := word_length s i k
    generalize word s i k = wd at *
    generalize k / s ^ i = m
    have m1 : ∀ x : V, mkL [x] = some (.lst [x]) := fun x => rfl
    have m2 : ∀ x : V, pyBin .add h (.lst [x]) (.lst (V.nats wd)) = some (.lst (x :: V.nats wd)) := fun x => addLL h [x] _ (by simp [hl]; omega)
    simp [bin_mod_int _ _ (s : Int) (by omega), bin_fdiv_int _ _ (s : Int) (by omega), m1, m2, nats_cons, Int.fdiv_eq_ediv_of_nonneg, Int.fmod_eq_emod_of_nonneg]
  · intro w
    rw [List.length_range]; exact o_ret rfl

end Mine

namespace Mine
namespace L02
/- _law_pair: 0 _law_cell, 1 _law_some -/
noncomputable def L_pair : FnDef := ⟨1, 2, [
  .asg 1 (.list [.tup [.int 2, .int 3], .tup [.int 3, .int 2], .tup [.int 2, .int 4], .tup [.int 3, .int 3], .tup [.int 2, .int 2], .tup [.int 4, .int 2], .tup [.int 2, .int 5], .tup [.int 5, .int 2], .tup [.int 3, .int 1], .tup [.int 1, .int 4], .tup [.int 2, .int 1], .tup [.int 9, .int 1]]),
  .ifs (.cmp .eq (.bin .mod (.bin .fdiv (.var 0) (.int 12)) (.int 9)) (.int 1)) [
    .ret (.idx (.list [.tup [.int 2, .int 8], .tup [.int 4, .int 4], .tup [.int 3, .int 5], .tup [.int 6, .int 3], .tup [.int 1, .int 8], .tup [.int 9, .int 2], .tup [.int 5, .int 3]]) (.bin .mod (.bin .fdiv (.var 0) (.int 108)) (.int 7)))] [],
  .ret (.idx (.var 1) (.bin .mod (.var 0) (.int 12)))]⟩
structure UL_pair (P : Tab) : Prop where
  self : P "_law_pair" = some L_pair

/- _law_piece: 0 _law_cell, 1 _law_signs, 2 _law_size, 3 _law_more, 4 _law_k -/
noncomputable def L_piece : FnDef := ⟨2, 5, [
  .asg 2 (.bin .add (.int 1) (.bin .mod (.var 0) (.int 4))),
  .ifs (.cmp .eq (.bin .mod (.bin .fdiv (.var 0) (.int 4)) (.int 9)) (.int 1)) [
    .asg 2 (.bin .add (.int 1) (.bin .mod (.bin .fdiv (.var 0) (.int 36)) (.int 8)))] [],
  .asg 3 (.bin .mod (.bin .mul (.bin .fdiv (.var 0) (.int 4)) (.int 48271)) (.int 2147483647)),
  .ret (.comp (.bin .mod (.bin .fdiv (.var 3) (.idx (.list [.int 1, .int 7, .int 49, .int 343, .int 2401, .int 16807, .int 117649, .int 823543]) (.var 4))) (.var 1)) 4 (.range1 (.var 2)) .none)]⟩
structure UL_piece (P : Tab) : Prop where
  self : P "_law_piece" = some L_piece

/- _law_has: 0 _law_word_here, 1 _law_piece_here, 2 _law_place, 3 _law_k -/
noncomputable def L_has : FnDef := ⟨2, 4, [
  .for1 2 (.range1 (.bf .len (.var 0))) [
    .ifs (.cmp .le (.bin .add (.var 2) (.bf .len (.var 1))) (.bf .len (.var 0))) [
      .ifs (.cmp .eq (.comp (.var 3) 3 (.range1 (.bf .len (.var 1))) (some (.cmp .ne (.idx (.var 0) (.bin .add (.var 2) (.var 3))) (.idx (.var 1) (.var 3))))) (.list [])) [
        .ret (.bool true)] []] []],
  .ret (.bool false)]⟩
structure UL_has (P : Tab) : Prop where
  self : P "_law_has" = some L_has

/- _law_asked: 0 _law_signs, 1 _law_size, 2 _law_some, 3 _law_e -/
noncomputable def L_asked : FnDef := ⟨3, 4, [
  .try [
    .ret (.call true "free_of" [.var 0, .var 1, .var 2])] "RingError" 3 [
    .ret (.callX "_law_classes" 3)]]⟩
structure UL_asked (P : Tab) : Prop where
  self : P "_law_asked" = some L_asked
  free_of : U_free_of P
  l_classes : UL_classes P

/- _law_right: 0 _law_found, 1 _law_due, 2 _law_word_here, 3 _law_sign -/
noncomputable def L_right : FnDef := ⟨2, 4, [
  .ifs (.or [.not (.isinst (.var 0) [.list]), .cmp .ne (.var 0) (.var 1)]) [
    .ret (.bool false)] [],
  .for1 2 (.seq (.var 0)) [
    .ifs (.or [.not (.isinst (.var 2) [.list]), .cmp .ne (.comp (.var 3) 3 (.seq (.var 2)) (some (.isinst (.var 3) [.bool]))) (.list [])]) [
      .ret (.bool false)] []],
  .ret (.bool true)]⟩
structure UL_right (P : Tab) : Prop where
  self : P "_law_right" = some L_right

/- _law_odd: 0 _law_some, 1 _law_signs, 2 _law_cell, 3 _law_odd_here, 4 _law_at -/
noncomputable def L_odd : FnDef := ⟨3, 5, [
  .asg 3 (.idx (.list [.list [], .list [.var 1], .bin .mul (.list [.int 0]) (.int 9), .list [.bool true], .list [.neg 1], .tup [.int 0], .none, .str "0", .int 0, .list [.str "0"]]) (.bin .mod (.var 2) (.int 10))),
  .asg 4 (.bin .mod (.bin .fdiv (.var 2) (.int 10)) (.bin .add (.bf .len (.var 0)) (.int 1))),
  .ifs (.cmp .eq (.bin .mod (.bin .fdiv (.var 2) (.int 50)) (.int 4)) (.int 1)) [
    .ret (.idx (.list [.bf .tuple (.var 0), .none, .str "0"]) (.bin .mod (.bin .fdiv (.var 2) (.int 200)) (.int 3)))] [],
  .ret (.bin .add (.bin .add (.slice (.var 0) .none (some (.var 4))) (.list [.var 3])) (.slice (.var 0) (some (.var 4)) .none))]⟩
structure UL_odd (P : Tab) : Prop where
  self : P "_law_odd" = some L_odd

/- law: 0 _law_script, 1 _law_signs, 2 _law_size, 3 _law_cell, 4 _law_some, 5 _law_far, 6 _law_words, 7 _law_due, 8 _law_handed, 9 _law_first, 10 _law_piece_here, 11 _law_again, 12 _law_k, 13 _law_number, 14 _law_word_here, 15 _law_piece_here -/
noncomputable def L_law : FnDef := ⟨1, 16, [
  .asgT [1, 2] (.call false "_law_pair" [.call false "_law_cell_at" [.var 0, .int 0]]),
  .asg 3 (.call false "_law_cell_at" [.var 0, .int 1]),
  .asg 4 (.own (.comp (.call false "_law_piece" [.call false "_law_cell_at" [.var 0, .bin .add (.int 3) (.var 12)], .var 1]) 12 (.range1 (.bin .mod (.var 3) (.int 5))) .none)),
  .ifs (.and [.cmp .eq (.bin .mod (.bin .fdiv (.var 3) (.int 5)) (.int 4)) (.int 1), .cmp .ne (.var 4) (.list [])]) [
    .expr (.append (.var 4) (.slice (.idx (.var 4) (.int 0)) .none (some (.bin .add (.int 1) (.bin .mod (.bin .fdiv (.var 3) (.int 20)) (.bf .len (.idx (.var 4) (.int 0))))))))] [],
  .ifs (.cmp .eq (.bin .mod (.call false "_law_cell_at" [.var 0, .int 2]) (.int 8)) (.int 3)) [
    .asg 5 (.list [.tup [.int 0, .int 1], .tup [.int 10, .int 1], .tup [.int 1, .int 9], .tup [.int 2, .int 0], .tup [.int 2, .int 9], .tup [.int 7, .int 3], .tup [.bool true, .int 2], .tup [.int 2, .bool true], .tup [.str "2", .int 2], .tup [.int 2, .none], .tup [.int 17, .int 2]]),
    .asg 5 (.bin .add (.var 5) (.list [.tup [.int 4, .int 5], .tup [.int 3, .int 6], .tup [.neg 2, .int 2], .tup [.int 2, .neg 1], .tup [.int 16, .int 2]])),
    .asgT [1, 2] (.idx (.var 5) (.bin .mod (.bin .fdiv (.call false "_law_cell_at" [.var 0, .int 2]) (.int 8)) (.int 16))),
    .ret (.cmp .eq (.call false "_law_asked" [.var 1, .var 2, .idx (.list [.var 4, .list [.list [.int 9]], .none]) (.bin .mod (.bin .fdiv (.var 3) (.int 5)) (.int 3))]) (.tup [.int 0]))] [],
  .ifs (.cmp .eq (.bin .mod (.bin .fdiv (.var 3) (.int 5)) (.int 5)) (.int 2)) [
    .ret (.cmp .eq (.call false "_law_asked" [.var 1, .var 2, .call false "_law_odd" [.var 4, .var 1, .call false "_law_cell_at" [.var 0, .int 2]]]) (.tup [.int 1]))] [],
  .asg 6 (.comp (.call false "_law_word" [.var 1, .var 2, .var 13]) 13 (.range1 (.call false "_law_power" [.var 1, .var 2])) .none),
  .asg 7 (.comp (.var 14) 14 (.seq (.var 6)) (some (.cmp .eq (.comp (.var 15) 15 (.seq (.var 4)) (some (.call false "_law_has" [.var 14, .var 15]))) (.list [])))),
  .asg 8 (.own (.comp (.own (.bf .list (.var 15))) 15 (.seq (.var 4)) .none)),
  .asg 9 (.call true "_law_asked" [.var 1, .var 2, .var 8]),
  .ifs (.or [.not (.call false "_law_right" [.var 9, .var 7]), .cmp .ne (.var 8) (.var 4)]) [
    .ret (.bool false)] [],
  .expr (.append (.var 9) (.list [])),
  .for1 10 (.seq (.var 8)) [
    .expr (.clear (.var 10))],
  .expr (.clear (.var 8)),
  .asg 11 (.call false "_law_asked" [.var 1, .var 2, .comp (.own (.bf .list (.var 15))) 15 (.seq (.var 4)) .none]),
  .ret (.and [.call false "_law_right" [.var 11, .var 7], .cmp .eq (.bf .len (.var 9)) (.bin .add (.bf .len (.var 7)) (.int 1))])]⟩
structure UL_law (P : Tab) : Prop where
  self : P "law" = some L_law
  l_pair : UL_pair P
  l_cell_at : UL_cell_at P
  l_piece : UL_piece P
  l_asked : UL_asked P
  l_odd : UL_odd P
  l_power : UL_power P
  l_word : UL_word P
  l_has : UL_has P
  l_right : UL_right P

noncomputable def tl : List (String × FnDef × List String) := [
  ("is_among", D_is_among, ["thing", "low", "high"]),
  ("how_many", D_how_many, ["signs", "size", "found", "turn"]),
  ("need_signs", D_need_signs, ["signs"]),
  ("need_size", D_need_size, ["size"]),
  ("need_both", D_need_both, ["signs", "size"]),
  ("is_word", D_is_word, ["signs", "word"]),
  ("need_word", D_need_word, ["signs", "word"]),
  ("numbered", D_numbered, ["signs", "size", "number", "found", "left", "turn"]),
  ("all_words", D_all_words, ["signs", "size"]),
  ("stands_in", D_stands_in, ["piece", "word", "place"]),
  ("free_of", D_free_of, ["signs", "size", "pieces", "piece", "found", "word"]),
  ("_law_cell_at", L_cell_at, ["_law_script", "_law_k"]),
  ("_law_classes", L_classes, ["_law_e", "_law_found"]),
  ("_law_power", L_power, ["_law_signs", "_law_size", "_law_found", "_law_step"]),
  ("_law_pair", L_pair, ["_law_cell", "_law_some"]),
  ("_law_piece", L_piece, ["_law_cell", "_law_signs", "_law_size", "_law_more"]),
  ("_law_has", L_has, ["_law_word_here", "_law_piece_here", "_law_place"]),
  ("_law_asked", L_asked, ["_law_signs", "_law_size", "_law_some", "_law_e"]),
  ("_law_word", L_word, ["_law_signs", "_law_size", "_law_number", "_law_found", "_law_step"]),
  ("_law_right", L_right, ["_law_found", "_law_due", "_law_word_here"]),
  ("_law_odd", L_odd, ["_law_some", "_law_signs", "_law_cell", "_law_odd_here", "_law_at"]),
  ("law", L_law, ["_law_script", "_law_signs", "_law_size", "_law_cell", "_law_some", "_law_far", "_law_words", "_law_due", "_law_handed", "_law_first", "_law_piece_here", "_law_again"])]
noncomputable def fns : List String := ["is_among", "how_many", "need_signs", "need_size", "need_both", "is_word", "need_word", "numbered", "all_words", "stands_in", "free_of", "_law_cell_at", "_law_classes", "_law_power", "_law_pair", "_law_piece", "_law_has", "_law_asked", "_law_word", "_law_right", "_law_odd", "law"]
noncomputable def nums : List (String × Int) := [("MOST_SIGNS", 9), ("MOST_SIZE", 8), ("MOST_WORDS", 256)]
theorem u_D_is_among : U_is_among (tabOf tl) := ⟨rfl⟩
theorem u_D_how_many : U_how_many (tabOf tl) := ⟨rfl⟩
theorem u_D_need_signs : U_need_signs (tabOf tl) := ⟨rfl, u_D_is_among⟩
theorem u_D_need_size : U_need_size (tabOf tl) := ⟨rfl, u_D_is_among⟩
theorem u_D_need_both : U_need_both (tabOf tl) := ⟨rfl, u_D_need_signs, u_D_need_size, u_D_how_many⟩
theorem u_D_is_word : U_is_word (tabOf tl) := ⟨rfl, u_D_is_among⟩
theorem u_D_need_word : U_need_word (tabOf tl) := ⟨rfl, u_D_is_word⟩
theorem u_D_numbered : U_numbered (tabOf tl) := ⟨rfl⟩
theorem u_D_all_words : U_all_words (tabOf tl) := ⟨rfl, u_D_need_both, u_D_how_many, u_D_numbered⟩
theorem u_D_stands_in : U_stands_in (tabOf tl) := ⟨rfl⟩
theorem u_D_free_of : U_free_of (tabOf tl) := ⟨rfl, u_D_need_both, u_D_need_word, u_D_all_words, u_D_stands_in⟩
theorem u_L_cell_at : UL_cell_at (tabOf tl) := ⟨rfl⟩
theorem u_L_classes : UL_classes (tabOf tl) := ⟨rfl⟩
theorem u_L_power : UL_power (tabOf tl) := ⟨rfl⟩
theorem u_L_pair : UL_pair (tabOf tl) := ⟨rfl⟩
theorem u_L_piece : UL_piece (tabOf tl) := ⟨rfl⟩
theorem u_L_has : UL_has (tabOf tl) := ⟨rfl⟩
theorem u_L_asked : UL_asked (tabOf tl) := ⟨rfl, u_D_free_of, u_L_classes⟩
theorem u_L_word : UL_word (tabOf tl) := ⟨rfl⟩
theorem u_L_right : UL_right (tabOf tl) := ⟨rfl⟩
theorem u_L_odd : UL_odd (tabOf tl) := ⟨rfl⟩
theorem u_L_law : UL_law (tabOf tl) := ⟨rfl, u_L_pair, u_L_cell_at, u_L_piece, u_L_asked, u_L_odd, u_L_power, u_L_word, u_L_has, u_L_right⟩
end L02
end Mine

namespace Mine

/-- a piece stands in a word -/
noncomputable def stands (p w : List Nat) : Bool := (List.range (w.length + 1 - p.length)).any fun i => decide ((w.take (i + p.length)).drop i = p)

theorem any_false {α : Type} {l : List α} {b : α → Bool} (h : ∀ a ∈ l, b a = false) : l.any b = false := by
  rw [List.any_eq_false]; intro a ha; rw [h a ha]; exact Bool.false_ne_true
theorem any_here {α : Type} {p q : List α} {a : α} {b : α → Bool} (h : b a = true) : (p ++ a :: q).any b = true :=
  List.any_eq_true.2 ⟨a, List.mem_append_right _ (List.mem_cons_self ..), h⟩
theorem IsL.len {h : H} {v : V} {l : List Nat} (e : IsL h v l) : Mine.bf .len h v = some (.int l.length) := by
  rw [len_of e, nats_length]

theorem stands_in_eq {P : Tab} (u : U_stands_in P) (n : Nat) (h : H) (vp vw : V) (p w : List Nat) (hp : IsL h vp p) (hw : IsL h vw w) (lp : p.length ≤ 1000) (lw : w.length ≤ 1000) :
    run P (n + 1) true "stands_in" [vp, vw] h = .ok (.bool (stands p w)) h := by
  refine start u.self rfl (ρ := [vp, vw, .undef]) rfl ?_
  have v1 := varR_val h hp.val
  have v2 := varR_val h hw.val
  refine o_each (h' := h) (w₀ := .undef) (fun i => !decide ((w.take (i + p.length)).drop i = p)) (it_int (m := w.length - p.length + 1) (n := w.length + 1 - p.length) ?_ (by omega) (by omega) (by omega)) rfl rfl ?_ ?_ ?_
  · simp [v1, v2, hp.len, hw.len]
  · intro i _ hi
    have hs := slice_mid hw i (i + p.length)
    have he := pyEq_L (IsL.lst h ((w.take (i + p.length)).drop i)) hp
    rw [nats_take, nats_drop, Int.natCast_add] at hs
    simp only [Bool.not_eq_true', decide_eq_false_iff_not] at hi
    simp [v1, v2, hp.len, hs, he, hi]
  · intro hn w'
    rw [stands, any_false (fun a ha => by simpa using hn a ha)]
    exact o_ret rfl
  · intro pre i post e _ hi k
    have hs := slice_mid hw i (i + p.length)
    have he := pyEq_L (IsL.lst h ((w.take (i + p.length)).drop i)) hp
    rw [nats_take, nats_drop, Int.natCast_add] at hs
    simp only [Bool.not_eq_false', decide_eq_true_eq] at hi
    rw [stands, e, any_here (by simpa using hi)]
    rw [hi] at hs he
    simp [v1, v2, hp.len, hs, he]

theorem litems_app {h : H} {v : V} {vs : List V} (e : litems h v = some vs) (k : H) : litems (h ++ k) v = some vs := by
  rcases litems_cases e with rfl | ⟨i, rfl, hc⟩
  · rfl
  · refine litems_ref ?_
    rw [List.getElem?_append_left (List.getElem?_eq_some_iff.1 hc).1]; exact hc
theorem IsL.app {h : H} {v : V} {l : List Nat} (e : IsL h v l) (k : H) : IsL (h ++ k) v l := litems_app e k
/-- pieces: each a list of numbers, by value or in a cell -/
structure Ps (h : H) (v : V) (l : List (V × List Nat)) : Prop where
  it : litems h v = some (l.map Prod.fst)
  each : ∀ a ∈ l, IsL h a.1 a.2
theorem Ps.app {h : H} {v : V} {l : List (V × List Nat)} (e : Ps h v l) (k : H) : Ps (h ++ k) v l := ⟨litems_app e.it k, fun a ha => (e.each a ha).app k⟩
theorem wordB_L {h : H} {v : V} {l : List Nat} (e : IsL h v l) {s : Nat} (h1 : 1 ≤ l.length) (h2 : l.length ≤ 8) (hd : ∀ d ∈ l, d < s) : wordB h s v = true := by
  unfold wordB
  rw [show litems h v = some (V.nats l) from e]
  simp only [wordy, nats_length, h1, h2, decide_true, Bool.true_and, List.all_eq_true]
  intro x hx
  obtain ⟨d, hm, rfl⟩ := nats_val hx
  have := hd d hm
  simp only [among, Bool.and_eq_true, decide_eq_true_eq]; omega
/-- a word of the signs, of any size -/
def good (s : Nat) (p : List Nat) : Prop := 1 ≤ p.length ∧ p.length ≤ 8 ∧ ∀ d ∈ p, d < s

theorem free_of_size {P : Tab} (u : U_free_of P) (n : Nat) (v w x : V) (h : H) (hv : okV h v) (hw : okV h w) (e : fits v w = false) :
    run P (n + 4) true "free_of" [v, w, x] h = .err "BadSize" h := by
  refine start u.self rfl (ρ := [v, w, x, .undef, .undef, .undef, .undef]) rfl ?_
  exact o_exprE (by simp [varR_val h hv.val, varR_val h hw.val, need_both_eq u.need_both n v w h hv hw, e])
theorem free_of_no {P : Tab} (u : U_free_of P) (n : Nat) (s z : Nat) (x : V) (h : H) (e : fits (.int s) (.int z) = true) (hx : okV h x) (hl : litems h x = Option.none) :
    run P (n + 4) true "free_of" [.int s, .int z, x] h = .err "BadWord" h := by
  refine start u.self rfl (ρ := [.int s, .int z, x, .undef, .undef, .undef, .undef]) rfl ?_
  refine o_expr (h' := h) (by simp [need_both_eq u.need_both n (.int s) (.int z) h trivial trivial, e]) (o_ifT (h' := h) (by simp [varR_val h hx.val, notList_of hx hl]) ?_)
  rfl
theorem free_of_odd {P : Tab} (u : U_free_of P) (n : Nat) (s z : Nat) (x : V) (h : H) (e : fits (.int s) (.int z) = true) {vs : List V} (hl : litems h x = some vs)
    (hv : ∀ v ∈ vs, okV h v ∧ ∀ us, litems h v = some us → ∀ y ∈ us, okV h y) (hb : ∃ v ∈ vs, wordB h s v = false) :
    run P (n + 4) true "free_of" [.int s, .int z, x] h = .err "BadWord" h := by
  refine start u.self rfl (ρ := [.int s, .int z, x, .undef, .undef, .undef, .undef]) rfl ?_
  have v1 := varR_val h (okV_of hl).val
  refine o_expr (h' := h) (by simp [need_both_eq u.need_both n (.int s) (.int z) h trivial trivial, e]) (o_ifF (h' := h) (by simp [v1, isList_of hl]) ?_)
  obtain ⟨t, ht, hto⟩ := it_of (q := true) (F := run P (n + 3)) (ρ := [.int s, .int z, x, .undef, .undef, .undef, .undef]) (a := .var 2) (h := h) (h' := h) v1 hl
  rw [← List.map_id' vs] at ht
  refine o_each (w₀ := .undef) (fun v => wordB h s v) ht hto rfl ?_ ?_ ?_
  · intro v hm hw
    have hw := need_word_eq u.need_word n s v h (hv v hm).1 (hv v hm).2 |>.trans (if_pos hw)
    simp [varR_val h (hv v hm).1.val, hw]
  · intro ha
    obtain ⟨v, hm, hw⟩ := hb
    rw [ha v hm] at hw; cases hw
  · intro p v q ep _ hw k
    have hm : v ∈ vs := by rw [ep]; exact List.mem_append_right _ (List.mem_cons_self ..)
    have hw := need_word_eq u.need_word n s v h (hv v hm).1 (hv v hm).2 |>.trans (if_neg (by rw [hw]; exact Bool.false_ne_true))
    simp [varR_val h (hv v hm).1.val, hw]

/-- the words in which none of the pieces stands -/
noncomputable def freeOf (s z : Nat) (ps : List (List Nat)) : List (List Nat) := (words s z).filter fun w => !ps.any fun p => stands p w
theorem words_mem {s z : Nat} (hs : 0 < s) {w : List Nat} (hw : w ∈ words s z) : w.length = z ∧ ∀ d ∈ w, d < s := by
  simp only [words, List.mem_map] at hw
  obtain ⟨k, _, rfl⟩ := hw
  exact ⟨word_length s z k, word_lt hs z k⟩

theorem free_of_eq {P : Tab} (u : U_free_of P) (n : Nat) (s z : Nat) (x : V) (h : H) (e : fits (.int s) (.int z) = true) {l : List (V × List Nat)} (hl : Ps h x l) (hg : ∀ a ∈ l, good s a.2) (hn : l.length ≤ 1000) :
    run P (n + 5) true "free_of" [.int s, .int z, x] h = .ok (.ref h.length) (h ++ [.list (V.lists (freeOf s z (l.map Prod.snd)))]) := by
  obtain ⟨s', z', e1, e2, h1, h2, h3, h4, h5⟩ := fits_nat e
  simp only [V.int.injEq] at e1 e2
  have e1 : s = s' := by omega
  have e2 : z = z' := by omega
  subst e1 e2
  refine start u.self rfl (ρ := [.int s, .int z, x, .undef, .undef, .undef, .undef]) rfl ?_
  have hx := (okV_of hl.it).val
  refine o_expr (h' := h) (by simp [need_both_eq u.need_both (n + 1) (.int s) (.int z) h trivial trivial, e]) (o_ifF (h' := h) (by simp [varR_val h hx, isList_of hl.it]) ?_)
  obtain ⟨t, ht, hto⟩ := it_of (q := true) (F := run P (n + 4)) (ρ := [.int s, .int z, x, .undef, .undef, .undef, .undef]) (a := .var 2) (h := h) (h' := h) (varR_val h hx) hl.it
  refine o_each (w₀ := .undef) (fun _ => true) ht hto rfl ?_ ?_ (fun _ _ _ _ _ q => nomatch q)
  · intro a ha _
    have hL := hl.each a ha
    have hw := need_word_eq u.need_word (n + 1) s a.1 h hL.okV hL.items |>.trans (if_pos (wordB_L hL (hg a ha).1 (hg a ha).2.1 (hg a ha).2.2))
    simp [varR_val h hL.val, hw]
  intro _ w₁
  refine o_asg (v := .ref h.length) (h' := h ++ [.list []]) (by simp [mkL]) rfl ?_
  have aw : ∀ g : H, pcall g (run P (n + 4) true "all_words" [.int s, .int z] g) = .ok (.lst (V.lists (words s z))) g := fun g => by
    rw [all_words_eq u.all_words n s z g e, pcall_ok (lists_plain _)]
  refine o_for (l := words s z) (c := fun w => .lst (V.nats w)) (t := Option.none) (h' := h ++ [.list []]) (fun _ w => [.int s, .int z, x, w₁, .ref h.length, w, .undef]) (fun p => h ++ [.list (V.lists (p.filter fun w => !(l.map Prod.snd).any fun p => stands p w))]) .undef ?_ (fun _ => rfl) rfl rfl ?_ ?_
  · exact it_lst (by simp [aw]; rfl)
  · intro p a q w ep
    have hm : a ∈ words s z := by rw [ep]; exact List.mem_append_right _ (List.mem_cons_self ..)
    have hlen : p.length ≤ 256 := by
      have := congrArg List.length ep
      simp [words] at this; omega
    have ⟨la, _⟩ := words_mem (by omega) hm
    rw [List.filter_append]
    have hfl := Nat.le_trans (List.length_filter_le (fun w => !(l.map Prod.snd).any fun p => stands p w) p) hlen
    generalize p.filter _ = pf at *
    have hP := hl.app [.list (V.lists pf)]
    have hc : (h ++ [Cell.list (V.lists pf)])[h.length]? = some (.list (V.lists pf)) := by simp
    obtain ⟨t, ht, hto⟩ := it_of (q := true) (F := run P (n + 4)) (ρ := [.int s, .int z, x, w₁, .ref h.length, .lst (V.nats a), .undef]) (a := .var 2) (h := h ++ [.list (V.lists pf)]) (varR_val _ hx) hP.it
    have ec : evE true (run P (n + 4)) [.int s, .int z, x, w₁, .ref h.length, .lst (V.nats a), .undef] (.comp (.call false "stands_in" [.var 6, .var 5]) 6 (.seq (.var 2)) .none) (h ++ [.list (V.lists pf)]) = .ok (.lst (l.map fun b => .bool (stands b.2 a))) (h ++ [.list (V.lists pf)]) := by
      refine ev_comp ht hto (fun b => .bool (stands b.2 a)) ?_ (mkL_eq (by simp; omega))
      intro b hb
      have hL := hP.each b hb
      have := hg b hb
      simp [varR_val _ hL.val, stands_in_eq u.stands_in (n + 3) _ b.1 (.lst (V.nats a)) b.2 a hL (IsL.lst _ a) (by have := this.2.1; omega) (by omega)]
    have ef : ([a].filter fun w => !(l.map Prod.snd).any fun p => stands p w) = if (l.any fun b => stands b.2 a) then [] else [a] := by
      simp only [List.filter_cons, List.filter_nil, List.any_map, Function.comp_def]
      cases l.any fun b => stands b.2 a <;> rfl
    rw [ef]
    have eb : Mine.bf .any (h ++ [.list (V.lists pf)]) (.lst (l.map fun b => .bool (stands b.2 a))) = some (.bool (l.any fun b => stands b.2 a)) := by
      rw [bf_any, asBools_map]; simp [List.any_map, Function.comp_def]
    have ec' : evE true (run P (n + 4)) ([V.int s, .int z, x, w₁, .ref h.length, w, .undef].set 5 (.lst (V.nats a))) (.not (.bf .any (.comp (.call false "stands_in" [.var 6, .var 5]) 6 (.seq (.var 2)) .none))) (h ++ [.list (V.lists pf)]) = .ok (.bool !(l.any fun b => stands b.2 a)) (h ++ [.list (V.lists pf)]) := by
      rw [e_not, e_bf, if_neg (by simp)]
      rw [show [V.int s, .int z, x, w₁, .ref h.length, w, .undef].set 5 (.lst (V.nats a)) = [V.int s, .int z, x, w₁, .ref h.length, .lst (V.nats a), .undef] from rfl, ec, R.bind_ok, eb]; rfl
    rw [ss_cons', s_ifs, ec']
    cases l.any fun b => stands b.2 a with
    | true => simp
    | false =>
      simp [lcell_ref hc]
      rw [onList_ref hc _ _ _ rfl (by simp [V.lists]; omega)]
      simp [V.lists]
  · intro w
    exact o_ret rfl

end Mine

namespace Mine
namespace L02

noncomputable def errs : List String := ["BadSize", "BadWord", "BadBook", "BadRing", "NoWord", "NoRing", "NoJoin"]
theorem asked_ok {P : Tab} (u : UL_asked P) (n : Nat) (v w x : V) (h : H) (hv : okV h v) (hw : okV h w) (hx : okV h x) {r : V} {h' : H} (e : run P (n + 1) true "free_of" [v, w, x] h = .ok r h') :
    run P (n + 2) true "_law_asked" [v, w, x] h = .ok r h' := by
  refine start u.self rfl (ρ := [v, w, x, .undef]) rfl ?_
  simp [L_asked, varR_val h hv.val, varR_val h hw.val, varR_val h hx.val, e]
theorem asked_err {P : Tab} (u : UL_asked P) (n : Nat) (v w x : V) (h : H) (hv : okV h v) (hw : okV h w) (hx : okV h x) {c : String} (hc : c ∈ errs) (e : run P (n + 1) true "free_of" [v, w, x] h = .err c h) :
    run P (n + 2) true "_law_asked" [v, w, x] h = .ok (.tup [.int (codeOf c)]) h := by
  refine start u.self rfl (ρ := [v, w, x, .undef]) rfl ?_
  simp [L_asked, varR_val h hv.val, varR_val h hw.val, varR_val h hx.val, e, catchS_err _ _ c (List.mem_cons_of_mem _ hc), classes_eq u.l_classes n false c hc h]
  rw [pcall_ok rfl]; simp

theorem all_nil {α : Type} {P : α → Prop} : ∀ x ∈ ([] : List α), P x := fun _ h => nomatch h
theorem all_cons {α : Type} {P : α → Prop} {a : α} {l : List α} (h : P a) (t : ∀ x ∈ l, P x) : ∀ x ∈ a :: l, P x := fun x hx => (List.mem_cons.1 hx).elim (fun e => e ▸ h) (t x)
theorem idx_lit {h : H} {vs : List V} {i : Int} {m : Nat} (hm : 0 < m) (hl : vs.length = m) : ∃ j : Nat, j < m ∧ i.fmod m = j ∧ ∃ x, vs[j]? = some x ∧ pyIdx h (.lst vs) (.int (i.fmod m)) = some x := by
  obtain ⟨j, hj, e⟩ := fmod_small i m hm
  have hx : vs[j]? = some vs[j] := List.getElem?_eq_getElem (by omega)
  exact ⟨j, hj, e, _, hx, by rw [e]; exact idx_of rfl hx⟩

theorem pair_eq {P : Tab} (u : UL_pair P) (n : Nat) (c : Int) (h : H) :
    ∃ s z : Nat, fits (.int s) (.int z) = true ∧ run P (n + 1) true "_law_pair" [.int c] h = .ok (.tup [.int s, .int z]) h := by
  have e1 : evE true (run P n) [.int c, .undef] (.list [.tup [.int 2, .int 3], .tup [.int 3, .int 2], .tup [.int 2, .int 4], .tup [.int 3, .int 3], .tup [.int 2, .int 2], .tup [.int 4, .int 2], .tup [.int 2, .int 5], .tup [.int 5, .int 2], .tup [.int 3, .int 1], .tup [.int 1, .int 4], .tup [.int 2, .int 1], .tup [.int 9, .int 1]]) h = .ok (.lst [.tup [.int 2, .int 3], .tup [.int 3, .int 2], .tup [.int 2, .int 4], .tup [.int 3, .int 3], .tup [.int 2, .int 2], .tup [.int 4, .int 2], .tup [.int 2, .int 5], .tup [.int 5, .int 2], .tup [.int 3, .int 1], .tup [.int 1, .int 4], .tup [.int 2, .int 1], .tup [.int 9, .int 1]]) h := rfl
  by_cases hc : (c.fdiv 12).fmod 9 = 1
  · obtain ⟨j, hj, ej, x, hx, ex⟩ := idx_lit (h := h) (i := c.fdiv 108) (m := 7) (by omega) (vs := [.tup [.int 2, .int 8], .tup [.int 4, .int 4], .tup [.int 3, .int 5], .tup [.int 6, .int 3], .tup [.int 1, .int 8], .tup [.int 9, .int 2], .tup [.int 5, .int 3]]) rfl
    have : ∃ s z : Nat, fits (.int s) (.int z) = true ∧ x = .tup [.int s, .int z] := by
      refine (?_ : ∀ x ∈ [V.tup [.int 2, .int 8], .tup [.int 4, .int 4], .tup [.int 3, .int 5], .tup [.int 6, .int 3], .tup [.int 1, .int 8], .tup [.int 9, .int 2], .tup [.int 5, .int 3]], ∃ s z : Nat, fits (.int s) (.int z) = true ∧ x = .tup [.int s, .int z]) x (List.mem_of_getElem? hx)
      exact all_cons ⟨2, 8, rfl, rfl⟩ (all_cons ⟨4, 4, rfl, rfl⟩ (all_cons ⟨3, 5, rfl, rfl⟩ (all_cons ⟨6, 3, rfl, rfl⟩ (all_cons ⟨1, 8, rfl, rfl⟩ (all_cons ⟨9, 2, rfl, rfl⟩ (all_cons ⟨5, 3, rfl, rfl⟩ all_nil))))))
    obtain ⟨s, z, hf, rfl⟩ := this
    refine ⟨s, z, hf, start u.self rfl (ρ := [.int c, .undef]) rfl (o_asg e1 rfl (o_ifT (h' := h) ?_ (o_ret ?_)))⟩
    · simp [bin_fdiv_int, bin_mod_int, hc]
    · have ex : pyIdx h (.lst [.tup [.int 2, .int 8], .tup [.int 4, .int 4], .tup [.int 3, .int 5], .tup [.int 6, .int 3], .tup [.int 1, .int 8], .tup [.int 9, .int 2], .tup [.int 5, .int 3]]) (.int ((c.fdiv 108).fmod 7)) = _ := ex
      simp [bin_fdiv_int, bin_mod_int, mkT_eq, mkL_eq, ex]
  · obtain ⟨j, hj, ej, x, hx, ex⟩ := idx_lit (h := h) (i := c) (m := 12) (by omega) (vs := [.tup [.int 2, .int 3], .tup [.int 3, .int 2], .tup [.int 2, .int 4], .tup [.int 3, .int 3], .tup [.int 2, .int 2], .tup [.int 4, .int 2], .tup [.int 2, .int 5], .tup [.int 5, .int 2], .tup [.int 3, .int 1], .tup [.int 1, .int 4], .tup [.int 2, .int 1], .tup [.int 9, .int 1]]) rfl
    have : ∃ s z : Nat, fits (.int s) (.int z) = true ∧ x = .tup [.int s, .int z] := by
      refine (?_ : ∀ x ∈ [V.tup [.int 2, .int 3], .tup [.int 3, .int 2], .tup [.int 2, .int 4], .tup [.int 3, .int 3], .tup [.int 2, .int 2], .tup [.int 4, .int 2], .tup [.int 2, .int 5], .tup [.int 5, .int 2], .tup [.int 3, .int 1], .tup [.int 1, .int 4], .tup [.int 2, .int 1], .tup [.int 9, .int 1]], ∃ s z : Nat, fits (.int s) (.int z) = true ∧ x = .tup [.int s, .int z]) x (List.mem_of_getElem? hx)
      exact all_cons ⟨2, 3, rfl, rfl⟩ (all_cons ⟨3, 2, rfl, rfl⟩ (all_cons ⟨2, 4, rfl, rfl⟩ (all_cons ⟨3, 3, rfl, rfl⟩ (all_cons ⟨2, 2, rfl, rfl⟩ (all_cons ⟨4, 2, rfl, rfl⟩ (all_cons ⟨2, 5, rfl, rfl⟩ (all_cons ⟨5, 2, rfl, rfl⟩ (all_cons ⟨3, 1, rfl, rfl⟩ (all_cons ⟨1, 4, rfl, rfl⟩ (all_cons ⟨2, 1, rfl, rfl⟩ (all_cons ⟨9, 1, rfl, rfl⟩ all_nil)))))))))))
    obtain ⟨s, z, hf, rfl⟩ := this
    refine ⟨s, z, hf, start u.self rfl (ρ := [.int c, .undef]) rfl (o_asg e1 rfl (o_ifF (h' := h) ?_ (o_ret ?_)))⟩
    · simp [bin_fdiv_int, bin_mod_int, hc]
    · have ex : pyIdx h (.lst [.tup [.int 2, .int 3], .tup [.int 3, .int 2], .tup [.int 2, .int 4], .tup [.int 3, .int 3], .tup [.int 2, .int 2], .tup [.int 4, .int 2], .tup [.int 2, .int 5], .tup [.int 5, .int 2], .tup [.int 3, .int 1], .tup [.int 1, .int 4], .tup [.int 2, .int 1], .tup [.int 9, .int 1]]) (.int (c.fmod 12)) = _ := ex
      simp [bin_mod_int, ex]

theorem piece_eq {P : Tab} (u : UL_piece P) (n : Nat) (c : Int) (s : Nat) (hs : 0 < s) (h : H) :
    ∃ p : List Nat, good s p ∧ run P (n + 1) true "_law_piece" [.int c, .int s] h = .ok (.lst (V.nats p)) h := by
  obtain ⟨k, hk, hk8⟩ : ∃ k : Nat, k < 8 ∧ (if (c.fdiv 4).fmod 9 = 1 then 1 + (c.fdiv 36).fmod 8 else 1 + c.fmod 4) = ((k + 1 : Nat) : Int) := by
    obtain ⟨a, ha, ea⟩ := fmod_small c 4 (by omega)
    obtain ⟨b, hb, eb⟩ := fmod_small (c.fdiv 36) 8 (by omega)
    have ea : c.fmod 4 = a := ea
    have eb : (c.fdiv 36).fmod 8 = b := eb
    split
    · exact ⟨b, hb, by omega⟩
    · exact ⟨a, by omega, by omega⟩
  obtain ⟨m, _, em⟩ := fmod_small (c.fdiv 4 * 48271) 2147483647 (by omega)
  have em : (c.fdiv 4 * 48271).fmod 2147483647 = m := em
  refine ⟨(List.range (k + 1)).map fun i => m / 7 ^ i % s, ⟨by simp, by simp; omega, ?_⟩, ?_⟩
  · intro d hd
    simp only [List.mem_map] at hd
    obtain ⟨i, _, rfl⟩ := hd; exact Nat.mod_lt _ hs
  refine start u.self rfl (ρ := [.int c, .int s, .undef, .undef, .undef]) rfl ?_
  have key : (exSs true (run P n) (L_piece.body.drop 2) [.int c, .int s, .int ((k + 1 : Nat) : Int), .undef, .undef] h).out = .ok (.lst (V.nats ((List.range (k + 1)).map fun i => m / 7 ^ i % s))) h := by
    refine o_asg (v := .int m) (h' := h) (by simp [bin_fdiv_int, bin_mod_int, bin_mul_int, em]) rfl (o_ret ?_)
    refine ev_comp (it_rng (n := k + 1) rfl (by omega)) rfl (fun i => .int ((m / 7 ^ i % s : Nat) : Int)) ?_ ?_
    · intro i hi
      have hi : i < 8 := by have := List.mem_range.1 hi; omega
      have ei : pyIdx h (.lst [.int 1, .int 7, .int 49, .int 343, .int 2401, .int 16807, .int 117649, .int 823543]) (.int i) = some (.int ((7 ^ i : Nat) : Int)) := by
        refine idx_of rfl ?_
        have : i = 0 ∨ i = 1 ∨ i = 2 ∨ i = 3 ∨ i = 4 ∨ i = 5 ∨ i = 6 ∨ i = 7 := by omega
        rcases this with rfl | rfl | rfl | rfl | rfl | rfl | rfl | rfl <;> rfl
      have hp : ((7 ^ i : Nat) : Int) ≠ 0 := by have : 0 < 7 ^ i := Nat.pow_pos (by omega); omega
      generalize 7 ^ i = q at ei hp
      simp [mkL_eq, ei, bin_fdiv_int _ _ _ hp, bin_mod_int _ _ (s : Int) (by omega)]
      rw [Int.fdiv_eq_ediv_of_nonneg _ (by omega), Int.fmod_eq_emod_of_nonneg _ (by omega)]
    · rw [mkL_eq (by simp; omega), V.nats, List.map_map]; rfl
  by_cases h1 : (c.fdiv 4).fmod 9 = 1
  · rw [if_pos h1] at hk8
    refine o_asg (v := .int (1 + c.fmod 4)) (h' := h) (by simp [bin_mod_int]) rfl (o_ifT (h' := h) (by simp [bin_fdiv_int, bin_mod_int, h1]) (o_asg (v := .int ((k + 1 : Nat) : Int)) (h' := h) (by simp only [e_bin, e_int, e_var, R.bind_ok, List.set_cons_zero, List.set_cons_succ, List.getElem?_cons_zero, varR_int, bin_fdiv_int _ _ 36 (by decide), bin_mod_int _ _ 8 (by decide), R.opt_some, bin_add_int, hk8]) rfl key))
  · rw [if_neg h1] at hk8
    exact o_asg (v := .int ((k + 1 : Nat) : Int)) (h' := h) (by simp only [e_bin, e_int, e_var, R.bind_ok, List.getElem?_cons_zero, varR_int, bin_mod_int _ _ 4 (by decide), R.opt_some, bin_add_int, hk8]) rfl (o_ifF (h' := h) (by simp [bin_fdiv_int, bin_mod_int, h1]) key)

theorem slice_iff (w p : List Nat) (a : Nat) (ha : a + p.length ≤ w.length) : ((List.range p.length).filter (fun k => decide (w.getD (a + k) 0 ≠ p.getD k 0)) = []) ↔ (w.take (a + p.length)).drop a = p := by
  rw [List.filter_eq_nil_iff]
  constructor
  · intro h
    refine List.ext_getElem (by simp; omega) ?_
    intro i h1 h2
    have := h i (List.mem_range.2 h2)
    simp only [ne_eq, decide_not, Bool.not_eq_true', Bool.not_eq_false, decide_eq_true_eq] at this
    rw [List.getD_eq_getElem?_getD, List.getD_eq_getElem?_getD, List.getElem?_eq_getElem (by omega), List.getElem?_eq_getElem h2] at this
    simpa using this
  · intro h i hi
    have hi := List.mem_range.1 hi
    have e : ((w.take (a + p.length)).drop a)[i]? = p[i]? := by rw [h]
    rw [List.getElem?_drop, List.getElem?_take_of_lt (by omega)] at e
    simp [List.getD_eq_getElem?_getD, e]
theorem stands_has (p w : List Nat) (hp : 1 ≤ p.length) : stands p w = (List.range w.length).any fun i => decide (i + p.length ≤ w.length ∧ (w.take (i + p.length)).drop i = p) := by
  rw [Bool.eq_iff_iff]
  simp only [stands, List.any_eq_true, List.mem_range, decide_eq_true_eq]
  constructor
  · rintro ⟨i, h1, h2⟩; exact ⟨i, by omega, by omega, h2⟩
  · rintro ⟨i, h1, h2, h3⟩; exact ⟨i, by omega, h3⟩

theorem has_eq {P : Tab} (u : UL_has P) (n : Nat) (p w : List Nat) (h : H) (hp : 1 ≤ p.length) (lp : p.length ≤ 1000) (lw : w.length ≤ 1000) :
    run P (n + 1) true "_law_has" [.lst (V.nats w), .lst (V.nats p)] h = .ok (.bool (stands p w)) h := by
  rw [stands_has p w hp]
  have l1 : ∀ l : List Nat, Mine.bf .len h (.lst (V.nats l)) = some (.int l.length) := fun l => (IsL.lst h l).len
  have step : ∀ i : Nat, i < w.length → exSs true (run P n) [.ifs (.cmp .le (.bin .add (.var 2) (.bf .len (.var 1))) (.bf .len (.var 0))) [
      .ifs (.cmp .eq (.comp (.var 3) 3 (.range1 (.bf .len (.var 1))) (some (.cmp .ne (.idx (.var 0) (.bin .add (.var 2) (.var 3))) (.idx (.var 1) (.var 3))))) (.list [])) [
        .ret (.bool true)] []] []] [.lst (V.nats w), .lst (V.nats p), .int i, .undef] h = .ok (if i + p.length ≤ w.length ∧ (w.take (i + p.length)).drop i = p then .ret (.bool true) else .next) [.lst (V.nats w), .lst (V.nats p), .int i, .undef] h := by
    intro i _
    by_cases h1 : i + p.length ≤ w.length
    · have h1' : (i : Int) + (p.length : Int) ≤ (w.length : Int) := by omega
      have ec : evE true (run P n) [.lst (V.nats w), .lst (V.nats p), .int i, .undef] (.comp (.var 3) 3 (.range1 (.bf .len (.var 1))) (some (.cmp .ne (.idx (.var 0) (.bin .add (.var 2) (.var 3))) (.idx (.var 1) (.var 3))))) h = .ok (.lst (V.nats ((List.range p.length).filter (fun k => decide (w.getD (i + k) 0 ≠ p.getD k 0))))) h := by
        refine ev_compF (h' := h) (it_rng (n := p.length) (by simp [l1]) (by omega)) rfl (fun k => .int k) (fun k => decide (w.getD (i + k) 0 ≠ p.getD k 0)) ?_ (fun _ _ _ => rfl) (mkL_eq ?_)
        · intro k hk
          have hk := List.mem_range.1 hk
          have e1 : w[i + k]? = some (w.getD (i + k) 0) := by rw [List.getD_eq_getElem?_getD, List.getElem?_eq_getElem (by omega)]; rfl
          have e2 : p[k]? = some (p.getD k 0) := by rw [List.getD_eq_getElem?_getD, List.getElem?_eq_getElem hk]; rfl
          have i1 := (IsL.lst h w).idx e1
          have i2 := (IsL.lst h p).idx e2
          rw [Int.natCast_add] at i1
          simp [i1, i2]; omega
        · have := List.length_filter_le (fun k => decide (w.getD (i + k) 0 ≠ p.getD k 0)) (List.range p.length)
          simp at this ⊢; omega
      have eq : pyEq h (.lst (V.nats ((List.range p.length).filter (fun k => decide (w.getD (i + k) 0 ≠ p.getD k 0))))) (.lst (V.nats [])) = some (decide ((w.take (i + p.length)).drop i = p)) :=
        (pyEq_L (IsL.lst h _) (IsL.lst h [])).trans (congrArg some (decide_eq_decide.2 (slice_iff w p i h1)))
      have ei : evE true (run P n) [.lst (V.nats w), .lst (V.nats p), .int i, .undef] (.cmp .eq (.comp (.var 3) 3 (.range1 (.bf .len (.var 1))) (some (.cmp .ne (.idx (.var 0) (.bin .add (.var 2) (.var 3))) (.idx (.var 1) (.var 3))))) (.list [])) h = .ok (.bool (decide ((w.take (i + p.length)).drop i = p))) h := by
        rw [e_cmp, ec, R.bind_ok]
        show R.opt ((pyEq h _ (.lst (V.nats []))).map V.bool) h = _
        rw [eq]; rfl
      rw [ss_cons', s_ifs, show evE true (run P n) [.lst (V.nats w), .lst (V.nats p), .int i, .undef] (.cmp .le (.bin .add (.var 2) (.bf .len (.var 1))) (.bf .len (.var 0))) h = .ok (.bool true) h by simp [l1, h1'], R.st_ok, truthy_bool, forkS_t, ss_cons', s_ifs, ei]
      by_cases h2 : (w.take (i + p.length)).drop i = p
      · rw [if_pos ⟨h1, h2⟩, decide_eq_true h2]; rfl
      · rw [if_neg (fun q => h2 q.2), decide_eq_false h2]; rfl
    · have h1' : ¬ (i : Int) + (p.length : Int) ≤ (w.length : Int) := by omega
      rw [if_neg (fun q => h1 q.1)]
      simp [l1, h1']
  refine start u.self rfl (ρ := [.lst (V.nats w), .lst (V.nats p), .undef, .undef]) rfl ?_
  refine o_each (h' := h) (w₀ := .undef) (fun i => !decide (i + p.length ≤ w.length ∧ (w.take (i + p.length)).drop i = p)) (it_rng (n := w.length) (by simp [l1]) (by omega)) rfl rfl ?_ ?_ ?_
  · intro i hi hb
    simp only [Bool.not_eq_true', decide_eq_false_iff_not] at hb
    exact (step i (List.mem_range.1 hi)).trans (by rw [if_neg hb]; rfl)
  · intro hn w'
    rw [any_false (fun a ha => by simpa only [Bool.not_eq_true'] using hn a ha)]
    exact o_ret rfl
  · intro pre i post e _ hi k
    simp only [Bool.not_eq_false', decide_eq_true_eq] at hi
    have hm : i ∈ List.range w.length := by rw [e]; exact List.mem_append_right _ (List.mem_cons_self ..)
    rw [show exSs true (run P n) _ ([V.lst (V.nats w), .lst (V.nats p), .undef, .undef].set 2 (.int i)) h = _ from step i (List.mem_range.1 hm), if_pos hi, e, any_here (by simpa using hi)]
    rfl

end L02
end Mine

namespace Mine
theorem frz_items {h : H} {v : V} {vs : List V} (e : litems h v = some vs) (hp : V.plains vs = true) : frz 0 h v = some (.lst vs) := by
  rcases litems_cases e with rfl | ⟨i, rfl, hc⟩
  · exact frz_plain 0 h _ hp
  · show frzAt 4 0 h i = _
    rw [frzAt, if_neg (Nat.not_lt_zero i), hc]
    show Option.map _ (V.mapRefs _ vs) = _
    rw [mapRefs_plain _ _ hp]; rfl
theorem peqs_lists (a b : List (List Nat)) : peqs (V.lists a) (V.lists b) = decide (a = b) := by
  induction a generalizing b with
  | nil => cases b <;> rfl
  | cons x a ih => cases b with
    | nil => rfl
    | cons y b =>
      show (peq (.lst (V.nats x)) (.lst (V.nats y)) && peqs (V.lists a) (V.lists b)) = _
      rw [peq_lst, peqs_nats, ih]
      by_cases e1 : x = y <;> by_cases e2 : a = b <;> simp [e1, e2]
theorem ok_lists (l : List (List Nat)) (n : Nat) : V.ok (n + 3) (.lst (V.lists l)) = true := by
  show (V.lists l).all (V.ok (n + 2)) = true
  rw [List.all_eq_true]; intro v hv
  simp only [V.lists, List.mem_map] at hv
  obtain ⟨x, _, rfl⟩ := hv; exact ok_lnats x n
theorem pyEq_LL {h : H} {a b : V} {x y : List (List Nat)} (ha : frz 0 h a = some (.lst (V.lists x))) (hb : frz 0 h b = some (.lst (V.lists y))) : pyEq h a b = some (decide (x = y)) := by
  rw [pyEq_frz ha hb (ok_lists x 5) (ok_lists y 5), peq_lst, peqs_lists]

/-- a value without cells, whose kind and whose items' kinds are known -/
noncomputable def clean (v : V) : Prop := v.plain = true ∧ v.val ∧ ∀ vs, v = .lst vs → ∀ x ∈ vs, x.val
theorem plain_okV {v : V} (hp : v.plain = true) (hv : v.val) (h : H) : okV h v := by
  cases v <;> first | trivial | exact hv.elim | cases hp
theorem plains_mem {vs : List V} (hp : V.plains vs = true) {v : V} (hv : v ∈ vs) : v.plain = true := by
  induction vs with
  | nil => cases hv
  | cons a l ih =>
    simp only [V.plains, Bool.and_eq_true] at hp
    rcases List.mem_cons.1 hv with rfl | hm
    · exact hp.1
    · exact ih hp.2 hm
theorem clean.okV {v : V} (hc : clean v) (h : H) : okV h v := plain_okV hc.1 hc.2.1 h
theorem clean.items {v : V} (hc : clean v) (h : H) : ∀ vs, litems h v = some vs → ∀ x ∈ vs, Mine.okV h x := by
  intro vs hl x hx
  rcases litems_cases hl with rfl | ⟨i, rfl, _⟩
  · exact plain_okV (plains_mem hc.1 hx) (hc.2.2 _ rfl x hx) h
  · cases hc.1
theorem clean_nats (l : List Nat) : clean (.lst (V.nats l)) := ⟨nats_plain l, trivial, fun vs e x hx => by cases e; obtain ⟨d, _, rfl⟩ := nats_val hx; trivial⟩
theorem plains_of {vs : List V} (h : ∀ v ∈ vs, v.plain = true) : V.plains vs = true := by
  induction vs with
  | nil => rfl
  | cons a l ih => rw [V.plains, h a (List.mem_cons_self ..), ih fun v hv => h v (List.mem_cons_of_mem _ hv)]; rfl
theorem plain_litems {v : V} (hp : v.plain = true) (hn : ∀ us, v ≠ .lst us) (h : H) : litems h v = Option.none := by
  cases v <;> first | rfl | exact absurd rfl (hn _) | cases hp
namespace L02

/-- a thing in which a word is bad -/
def oddB (s : Int) (b : V) : Prop := b.plain = true ∧ b.val ∧ ((∀ us, b ≠ .lst us) ∨ ∃ vs, b = .lst vs ∧ (∀ v ∈ vs, clean v) ∧ ∃ v ∈ vs, ∀ h, wordB h s v = false)

theorem free_of_bad {P : Tab} (u : U_free_of P) (n : Nat) (s z : Nat) (b : V) (h : H) (e : fits (.int s) (.int z) = true) (hb : oddB s b) :
    run P (n + 4) true "free_of" [.int s, .int z, b] h = .err "BadWord" h := by
  obtain ⟨h1, h2, h3 | ⟨vs, rfl, h3, v, hv, h4⟩⟩ := hb
  · exact free_of_no u n s z b h e (plain_okV h1 h2 h) (plain_litems h1 h3 h)
  · exact free_of_odd u n s z _ h e rfl (fun v hv => ⟨(h3 v hv).okV h, (h3 v hv).items h⟩) ⟨v, hv, h4 h⟩

theorem right_eq {P : Tab} (u : UL_right P) (n : Nat) (v : V) (ls : List (List Nat)) (h : H) (e : litems h v = some (V.lists ls)) :
    run P (n + 1) true "_law_right" [v, .lst (V.lists ls)] h = .ok (.bool true) h := by
  refine start u.self rfl (ρ := [v, .lst (V.lists ls), .undef, .undef]) rfl ?_
  have hv := varR_val h (okV_of e).val
  have q1 : pyEq h v (.lst (V.lists ls)) = some true := by
    rw [pyEq_LL (frz_items e (lists_plain ls)) (frz_plain 0 h _ (lists_plain ls)), decide_eq_true rfl]
  refine o_ifF (h' := h) (by simp [hv, isList_of e, q1]) ?_
  obtain ⟨t, ht, hto⟩ := it_of (q := true) (F := run P n) (ρ := [v, .lst (V.lists ls), .undef, .undef]) (a := .var 0) (h := h) hv e
  refine o_each (w₀ := .undef) (fun _ => true) ht hto rfl ?_ (fun _ _ => o_ret rfl) (fun _ _ _ _ _ q => nomatch q)
  intro l hl _
  have ec : evE true (run P n) [v, .lst (V.lists ls), .lst (V.nats l), .undef] (.comp (.var 3) 3 (.seq (.var 2)) (some (.isinst (.var 3) [.bool]))) h = .ok (.lst []) h := by
    refine ev_compF (it_lst rfl) rfl (fun _ => .none) (fun _ => false) (fun _ _ => rfl) (fun _ _ q => nomatch q) ?_
    rw [List.filter_eq_nil_iff.2 (fun _ _ => Bool.false_ne_true)]; rfl
  have e1 : evE true (run P n) [v, .lst (V.lists ls), .lst (V.nats l), .undef] (.or [.not (.isinst (.var 2) [.list]), .cmp .ne (.comp (.var 3) 3 (.seq (.var 2)) (some (.isinst (.var 3) [.bool]))) (.list [])]) h = .ok (.bool false) h := by
    have q2 : pyEq h (.lst []) (.lst []) = some true := pyEq_L (IsL.lst h []) (IsL.lst h [])
    have m0 : mkL [] = some (.lst []) := rfl
    simp only [e_or, e_or1, e_or2, e_not, e_isinst, e_cmp, ec, e_var, List.getElem?_cons_zero, List.getElem?_cons_succ, R.bind_ok, varR_lst, isTys_one, isTy_lst_list, Option.map_some, R.opt_some, truthy_bool, Bool.not_true, forkR_f, e_list, es_nil, m0, cmp_ne, q2]
  show exSs true (run P n) _ [v, .lst (V.lists ls), .lst (V.nats l), .undef] h = _
  rw [ss_cons', s_ifs, e1]; rfl

theorem lits (s : Nat) (j : Nat) (x : V) (hx : [V.lst [], .lst [.int s], .lst [.int 0, .int 0, .int 0, .int 0, .int 0, .int 0, .int 0, .int 0, .int 0], .lst [.bool true], .lst [.int (-1)], .tup [.int 0], .none, .str "0", .int 0, .lst [.str "0"]][j]? = some x) : clean x ∧ ∀ h, wordB h s x = false := by
  have ci : ∀ y : V, y.plain = true → y.val → (∀ us, y ≠ .lst us) → clean y ∧ ∀ h, wordB h s y = false := fun y h1 h2 h3 => ⟨⟨h1, h2, fun vs e => absurd e (h3 vs)⟩, fun h => by unfold wordB; rw [plain_litems h1 h3 h]⟩
  have cl : ∀ us : List V, (∀ y ∈ us, y.plain = true ∧ y.val) → wordy s us = false → clean (.lst us) ∧ ∀ h, wordB h s (.lst us) = false := fun us h1 h2 => ⟨⟨plains_of fun v hv => (h1 v hv).1, trivial, fun vs e y hy => by cases e; exact (h1 y hy).2⟩, fun h => h2⟩
  have p1 : ∀ u : V, u.plain = true ∧ u.val → ∀ y ∈ [u], y.plain = true ∧ y.val := fun u h => all_cons h all_nil
  have i0 : (V.int 0).plain = true ∧ (V.int 0).val := ⟨rfl, trivial⟩
  refine (?_ : ∀ x ∈ [V.lst [], .lst [.int s], .lst [.int 0, .int 0, .int 0, .int 0, .int 0, .int 0, .int 0, .int 0, .int 0], .lst [.bool true], .lst [.int (-1)], .tup [.int 0], .none, .str "0", .int 0, .lst [.str "0"]], clean x ∧ ∀ h, wordB h s x = false) x (List.mem_of_getElem? hx)
  refine all_cons (cl _ all_nil rfl) (all_cons (cl _ (p1 _ ⟨rfl, trivial⟩) ?_) (all_cons (cl _ (all_cons i0 (all_cons i0 (all_cons i0 (all_cons i0 (all_cons i0 (all_cons i0 (all_cons i0 (all_cons i0 (p1 _ i0))))))))) rfl) (all_cons (cl _ (p1 _ ⟨rfl, trivial⟩) rfl) (all_cons (cl _ (p1 _ ⟨rfl, trivial⟩) rfl) (all_cons (ci _ rfl trivial (fun _ q => nomatch q)) (all_cons (ci _ rfl trivial (fun _ q => nomatch q)) (all_cons (ci _ rfl trivial (fun _ q => nomatch q)) (all_cons (ci _ rfl trivial (fun _ q => nomatch q)) (all_cons (cl _ (p1 _ ⟨rfl, trivial⟩) rfl) all_nil)))))))))
  simp [wordy, among]; omega

theorem odd_eq {P : Tab} (u : UL_odd P) (n : Nat) (v : V) (ps : List (List Nat)) (s : Nat) (c : Int) (h : H) (e : litems h v = some (V.lists ps)) (hl : ps.length ≤ 1000) :
    ∃ b, oddB s b ∧ run P (n + 1) true "_law_odd" [v, .int s, .int c] h = .ok b h := by
  have hv := varR_val h (okV_of e).val
  have hlen : (V.lists ps).length = ps.length := by simp [V.lists]
  have len : Mine.bf .len h v = some (.int ps.length) := by rw [len_of e, hlen]
  obtain ⟨k, hk, ek⟩ := fmod_small (c.fdiv 10) (ps.length + 1) (by omega)
  rw [Int.natCast_add] at ek
  obtain ⟨j, hj, ej, x, hx, ex⟩ := idx_lit (h := h) (i := c) (m := 10) (by omega) (vs := [V.lst [], .lst [.int s], .lst [.int 0, .int 0, .int 0, .int 0, .int 0, .int 0, .int 0, .int 0, .int 0], .lst [.bool true], .lst [.int (-1)], .tup [.int 0], .none, .str "0", .int 0, .lst [.str "0"]]) rfl
  obtain ⟨cx, wx⟩ := lits s j x hx
  have ex : pyIdx h _ (.int (c.fmod 10)) = some x := ex
  have m9 : pyBin .mul h (.lst [.int 0]) (.int 9) = some (.lst [.int 0, .int 0, .int 0, .int 0, .int 0, .int 0, .int 0, .int 0, .int 0]) := mul_of (vs := [.int 0]) rfl 9 (by decide) (by decide)
  have go : ∀ (b : V), (exSs true (run P n) (L_odd.body.drop 2) [v, .int s, .int c, x, .int k] h).out = .ok b h → run P (n + 1) true "_law_odd" [v, .int s, .int c] h = .ok b h := by
    intro b hb
    refine start u.self rfl (ρ := [v, .int s, .int c, .undef, .undef]) rfl (o_asg (v := x) (h' := h) ?_ rfl (o_asg (v := .int k) (h' := h) ?_ rfl hb))
    · simp [mkL_eq, mkT_eq, m9, bin_mod_int, ex]
    · have hz : (ps.length : Int) + 1 ≠ 0 := by omega
      simp [hv, len, bin_fdiv_int, bin_mod_int _ _ _ hz]; exact ek
  have cls : ∀ y ∈ V.lists ps, clean y := fun y hy => by
    simp only [V.lists, List.mem_map] at hy; obtain ⟨l, _, rfl⟩ := hy; exact clean_nats l
  by_cases h1 : (c.fdiv 50).fmod 4 = 1
  · obtain ⟨i, hi, ei, y, hy, ey⟩ := idx_lit (h := h) (i := c.fdiv 200) (m := 3) (by omega) (vs := [V.tup (V.lists ps), .none, .str "0"]) rfl
    have ey : pyIdx h _ (.int ((c.fdiv 200).fmod 3)) = some y := ey
    have tt : Mine.bf .tuple h v = some (.tup (V.lists ps)) := by
      rcases litems_cases e with rfl | ⟨r, rfl, hc⟩
      · rfl
      · simp [Mine.bf, Mine.items, hc]
    refine ⟨y, ?_, go y (o_ifT (h' := h) (by simp [bin_fdiv_int, bin_mod_int, h1]) (o_ret (by simp [hv, tt, mkL_eq, bin_fdiv_int, bin_mod_int, ey])))⟩
    have : i = 0 ∨ i = 1 ∨ i = 2 := by omega
    rcases this with rfl | rfl | rfl <;> cases hy
    · exact ⟨lists_plain ps, trivial, .inl fun _ q => nomatch q⟩
    · exact ⟨rfl, trivial, .inl fun _ q => nomatch q⟩
    · exact ⟨rfl, trivial, .inl fun _ q => nomatch q⟩
  · have s1 := slice_to e k
    have s2 := slice_from e k
    have x1 : varR (some x) h = .ok x h := varR_val h cx.2.1
    have a1 : pyBin .add h (.lst ((V.lists ps).take k)) (.lst [x]) = some (.lst ((V.lists ps).take k ++ [x])) := addLL _ _ _ (by simp; omega)
    have a2 : pyBin .add h (.lst ((V.lists ps).take k ++ [x])) (.lst ((V.lists ps).drop k)) = some (.lst ((V.lists ps).take k ++ [x] ++ (V.lists ps).drop k)) := addLL _ _ _ (by simp; omega)
    have call : ∀ y ∈ (V.lists ps).take k ++ [x] ++ (V.lists ps).drop k, clean y := by
      intro y hy
      rcases List.mem_append.1 hy with hy | hy
      · rcases List.mem_append.1 hy with hy | hy
        · exact cls y (List.mem_of_mem_take hy)
        · rw [List.mem_singleton] at hy; rw [hy]; exact cx
      · exact cls y (List.mem_of_mem_drop hy)
    refine ⟨.lst ((V.lists ps).take k ++ [x] ++ (V.lists ps).drop k), ⟨plains_of fun y hy => (call y hy).1, trivial, .inr ⟨_, rfl, call, x, by simp, wx⟩⟩, go _ (o_ifF (h' := h) (by simp [bin_fdiv_int, bin_mod_int, h1]) (o_ret ?_))⟩
    simp only [e_bin, e_slice, o_none, o_some, e_var, List.getElem?_cons_zero, List.getElem?_cons_succ, hv, R.bind_ok, varR_int, s1, s2, R.opt_some, e_list, es_cons, es_nil, x1, a1, a2, show mkL [x] = some (.lst [x]) from rfl]

end L02
end Mine

namespace Mine
theorem Watch.app {t : Watch} {h : H} (e : t.ok h = true) (k : H) : t.ok (h ++ k) = true := by
  cases t with
  | none => rfl
  | some p =>
    have : h[p.1]? = some p.2 := of_decide_eq_true e
    show decide ((h ++ k)[p.1]? = some p.2) = true
    rw [List.getElem?_append_left (List.getElem?_eq_some_iff.1 this).1, this]; exact decide_eq_true rfl
/-- a comprehension each of whose items is a cell of its own -/
theorem compL_own {α : Type} {elt cond : V → H → R V} (c : α → V) (k : α → List V) (t : Watch) (l : List α)
    (hc : ∀ v h, cond v h = .ok (.bool true) h) (h : H) (ht : t.ok h = true) (he : ∀ (a : α) (g : H), a ∈ l → elt (c a) (h ++ g) = .ok (.ref (h ++ g).length) (h ++ g ++ [.list (k a)])) :
    compL t elt cond (l.map c) h = .ok ((List.range l.length).map fun i => .ref (h.length + i)) (h ++ l.map fun a => .list (k a)) := by
  have key : ∀ (q : List α) (g : H), (∀ a ∈ q, a ∈ l) → compL t elt cond (q.map c) (h ++ g) = .ok ((List.range q.length).map fun i => .ref ((h ++ g).length + i)) (h ++ g ++ q.map fun a => .list (k a)) := by
    intro q
    induction q with
    | nil => intro g _; rw [List.map_nil, compL, if_pos (Watch.app ht g)]; simp
    | cons a q ih =>
      intro g hq
      rw [List.map_cons, compL, if_pos (Watch.app ht g), hc, R.bind_ok, truthy_bool]
      show (elt (c a) (h ++ g)).bind _ = _
      have ih := ih (g ++ [.list (k a)]) (fun b hb => hq b (List.mem_cons_of_mem _ hb))
      rw [← List.append_assoc] at ih
      rw [he a g (hq a (List.mem_cons_self ..)), R.bind_ok, ih, R.bind_ok]
      congr 1
      · rw [List.length_cons, List.range_succ_eq_map, List.map_cons, List.map_map]
        congr 1
        refine List.map_congr_left fun i _ => ?_
        simp only [Function.comp, List.length_append, List.length_singleton, V.ref.injEq]; omega
      · simp
  have := key l [] (fun _ h => h)
  simpa using this
theorem ev_compOwn {α : Type} {F : Fn} {ρ : List V} {h h' : H} {elt : PE} {x : Nat} {it : PIt} {l : List α} {c : α → V} {t : Watch} (hi : evIt true F ρ it h = .ok (l.map c, t) h') (ht : t.ok h' = true) (k : α → List V)
    (he : ∀ (a : α) (g : H), a ∈ l → evE true F (ρ.set x (c a)) elt (h' ++ g) = .ok (.ref (h' ++ g).length) (h' ++ g ++ [.list (k a)])) (hn : l.length ≤ 1000000) :
    evE true F ρ (.comp elt x it Option.none) h = .ok (.lst ((List.range l.length).map fun i => .ref (h'.length + i))) (h' ++ l.map fun a => .list (k a)) := by
  rw [e_comp, if_neg (by decide), hi, R.bind_ok, compL_own (cond := fun v h => evC true F (ρ.set x v) Option.none h) c k t l (fun _ _ => rfl) h' ht he, lstR_ok, mkL_eq (by simpa using hn)]; rfl
namespace L02

/-- the law's names, the first ones set -/
noncomputable abbrev En (l : List Int) (a b c d : V) : List V := [V.ints l, a, b, c, d, .undef, .undef, .undef, .undef, .undef, .undef, .undef, .undef, .undef, .undef, .undef]

theorem law_head {P : Tab} (u : UL_law P) (n : Nat) (l : List Int) (h : H) :
    ∃ (s z : Nat) (ps : List (List Nat)), fits (.int s) (.int z) = true ∧ (∀ p ∈ ps, good s p) ∧ ps.length ≤ 5 ∧
      ∀ r, (exSs true (run P (n + 1)) (L_law.body.drop 4) (En l (.int s) (.int z) (.int (cellAt l 1)) (.ref h.length)) (h ++ [.list (V.lists ps)])).out = r →
        (exSs true (run P (n + 1)) L_law.body (En l .undef .undef .undef .undef) h).out = r := by
  have ca : ∀ (k : Nat) h, run P (n + 1) true "_law_cell_at" [V.ints l, .int k] h = .ok (.int (cellAt l k)) h := fun k h => cell_at_eq u.l_cell_at n true l k h
  have vi : ∀ h, varR (some (V.ints l)) h = .ok (V.ints l) h := fun h => rfl
  obtain ⟨s, z, hf, ep⟩ := pair_eq u.l_pair n (cellAt l 0) h
  obtain ⟨s', z', e1, e2, h1, h2, h3, h4, h5⟩ := fits_nat hf
  simp only [V.int.injEq] at e1 e2
  have e1 : s = s' := by omega
  have e2 : z = z' := by omega
  subst e1 e2
  obtain ⟨f, hf'⟩ := Classical.axiomOfChoice fun k : Nat => piece_eq u.l_piece n (cellAt l (3 + k)) s (by omega) h
  obtain ⟨m, hm, em⟩ := fmod_small (cellAt l 1) 5 (by omega)
  have em : (cellAt l 1).fmod 5 = m := em
  have pt : pcall h (.ok (.tup [.int s, .int z]) h) = .ok (.tup [.int s, .int z]) h := pcall_ok rfl h
  have go : ∀ r, (exSs true (run P (n + 1)) (L_law.body.drop 3) (En l (.int s) (.int z) (.int (cellAt l 1)) (.ref h.length)) (h ++ [.list (V.lists ((List.range m).map f))])).out = r →
        (exSs true (run P (n + 1)) L_law.body (En l .undef .undef .undef .undef) h).out = r := by
    intro r hr
    refine o_asgT (h' := h) (vs := [.int s, .int z]) (ρ' := En l (.int s) (.int z) .undef .undef) ?_ rfl ?_
    · have := ca 0 h
      simp only [e_callF, es_cons, es_nil, e_var, e_int, List.getElem?_cons_zero, vi, R.bind_ok, show ((0 : Int)) = ((0 : Nat) : Int) from rfl, this, pcall_int, ep, pt]
    refine o_asg (v := .int (cellAt l 1)) (h' := h) (ρ' := En l (.int s) (.int z) (.int (cellAt l 1)) .undef) ?_ rfl ?_
    · have := ca 1 h
      simp only [e_callF, es_cons, es_nil, e_var, e_int, List.set_cons_succ, List.set_cons_zero, List.getElem?_cons_zero, vi, R.bind_ok, show ((1 : Int)) = ((1 : Nat) : Int) from rfl, this, pcall_int]
    refine o_asg (v := .ref h.length) (h' := h ++ [.list (V.lists ((List.range m).map f))]) (ρ' := En l (.int s) (.int z) (.int (cellAt l 1)) (.ref h.length)) ?_ rfl ?_
    rotate_left
    · exact hr
    · rw [e_own]
      rw [ev_comp (h' := h) (r := .lst (V.lists ((List.range m).map f))) (it_rng (n := m) ?_ (by omega)) rfl (fun k => .lst (V.nats (f k))) ?_ ?_]
      · rfl
      · simp [bin_mod_int, em]
      · intro k _
        have := ca (3 + k) h
        rw [Int.natCast_add, Int.cast_ofNat_Int] at this
        have e3 := (hf' k).2
        have e4 : pcall h (.ok (.lst (V.nats (f k))) h) = .ok (.lst (V.nats (f k))) h := pcall_ok (nats_plain _) h
        simp [vi, this, e3, e4]
      · rw [mkL_eq (by simp; omega), V.lists, List.map_map]; rfl
  have g0 : ∀ p ∈ (List.range m).map f, good s p := by
    intro p hp
    simp only [List.mem_map] at hp
    obtain ⟨k, _, rfl⟩ := hp; exact (hf' k).1
  have len0 : ((List.range m).map f).length = m := by simp
  generalize (List.range m).map f = ps at *
  have lc : (h ++ [Cell.list (V.lists ps)])[h.length]? = some (.list (V.lists ps)) := by simp
  have qn : pyEq (h ++ [.list (V.lists ps)]) (.ref h.length) (.lst []) = some (decide (ps = [])) := pyEq_LL (frz_items (litems_ref lc) (lists_plain ps)) (frz_plain 0 _ _ rfl)
  by_cases hc : ((cellAt l 1).fdiv 5).fmod 4 = 1
  · cases ps with
    | nil =>
      refine ⟨s, z, [], hf, g0, by simp, fun r hr => go r ?_⟩
      refine o_ifF (h' := h ++ [.list (V.lists [])]) ?_ ?_
      · simp [bin_fdiv_int, bin_mod_int, hc, mkL_eq, qn]
      · exact hr
    | cons p ps =>
      have gp := g0 p (List.mem_cons_self ..)
      obtain ⟨j, hj, ej⟩ := fmod_small ((cellAt l 1).fdiv 20) p.length gp.1
      refine ⟨s, z, p :: ps ++ [p.take (1 + j)], hf, ?_, by simp at len0 ⊢; omega, fun r hr => go r ?_⟩
      · intro x hx
        rcases List.mem_append.1 hx with hx | hx
        · exact g0 x hx
        · rw [List.mem_singleton] at hx; subst hx
          exact ⟨by rw [List.length_take]; have := gp.1; omega, by rw [List.length_take]; have := gp.2.1; omega, fun d hd => gp.2.2 d (List.mem_of_mem_take hd)⟩
      refine o_ifT (h' := h ++ [.list (V.lists (p :: ps))]) ?_ ?_
      · simp [bin_fdiv_int, bin_mod_int, hc, mkL_eq, qn]
      refine o_expr (h' := h ++ [.list (V.lists (p :: ps ++ [p.take (1 + j)]))]) ?_ ?_
      · have i0 : pyIdx (h ++ [.list (V.lists (p :: ps))]) (.ref h.length) (.int ((0 : Nat) : Int)) = some (.lst (V.nats p)) := idx_of (litems_ref lc) rfl
        have i0 : pyIdx (h ++ [.list (V.lists (p :: ps))]) (.ref h.length) (.int 0) = some (.lst (V.nats p)) := i0
        have ll := (IsL.lst (h ++ [.list (V.lists (p :: ps))]) p).len
        have sl := slice_to (IsL.lst (h ++ [.list (V.lists (p :: ps))]) p) (1 + j)
        rw [Int.natCast_add, nats_take, Int.cast_ofNat_Int] at sl
        have hz : (p.length : Int) ≠ 0 := by have := gp.1; omega
        simp only [e_append, e_var, List.getElem?_cons_zero, List.getElem?_cons_succ, R.bind_ok, varR_ref, lcell_ref lc, if_true, e_slice, e_idx, e_int, i0, R.opt_some, o_none, o_some, e_bin, varR_int, bin_fdiv_int _ _ 20 (by decide), e_bf, walks_len, ready_len, Bool.and_false, Bool.or_false, Bool.not_true, Bool.false_eq_true, if_false, ll, bin_mod_int _ _ _ hz, ej, bin_add_int]
        rw [sl, R.opt_some, R.bind_ok, onList_ref lc _ _ _ rfl (by simp [V.lists] at len0 ⊢; omega)]
        simp [V.lists]
      · exact hr
  · refine ⟨s, z, ps, hf, g0, by omega, fun r hr => go r ?_⟩
    refine o_ifF (h' := h ++ [.list (V.lists ps)]) ?_ ?_
    · simp [bin_fdiv_int, bin_mod_int, hc]
    · exact hr

end L02
end Mine

namespace Mine
namespace L02

theorem far_bad (j : Nat) (x : V) (hx : [V.tup [.int 0, .int 1], .tup [.int 10, .int 1], .tup [.int 1, .int 9], .tup [.int 2, .int 0], .tup [.int 2, .int 9], .tup [.int 7, .int 3], .tup [.bool true, .int 2], .tup [.int 2, .bool true], .tup [.str "2", .int 2], .tup [.int 2, .none], .tup [.int 17, .int 2], .tup [.int 4, .int 5], .tup [.int 3, .int 6], .tup [.int (-2), .int 2], .tup [.int 2, .int (-1)], .tup [.int 16, .int 2]][j]? = some x) :
    ∃ v w, x = .tup [v, w] ∧ (∀ h, okV h v) ∧ (∀ h, okV h w) ∧ fits v w = false := by
  have mk : ∀ v w : V, (∀ h, okV h v) → (∀ h, okV h w) → fits v w = false → ∃ v' w', V.tup [v, w] = .tup [v', w'] ∧ (∀ h, okV h v') ∧ (∀ h, okV h w') ∧ fits v' w' = false := fun v w h1 h2 h3 => ⟨v, w, rfl, h1, h2, h3⟩
  refine (?_ : ∀ x ∈ [V.tup [.int 0, .int 1], .tup [.int 10, .int 1], .tup [.int 1, .int 9], .tup [.int 2, .int 0], .tup [.int 2, .int 9], .tup [.int 7, .int 3], .tup [.bool true, .int 2], .tup [.int 2, .bool true], .tup [.str "2", .int 2], .tup [.int 2, .none], .tup [.int 17, .int 2], .tup [.int 4, .int 5], .tup [.int 3, .int 6], .tup [.int (-2), .int 2], .tup [.int 2, .int (-1)], .tup [.int 16, .int 2]], ∃ v w, x = .tup [v, w] ∧ (∀ h, okV h v) ∧ (∀ h, okV h w) ∧ fits v w = false) x (List.mem_of_getElem? hx)
  exact all_cons (mk _ _ (fun _ => trivial) (fun _ => trivial) rfl) (all_cons (mk _ _ (fun _ => trivial) (fun _ => trivial) rfl) (all_cons (mk _ _ (fun _ => trivial) (fun _ => trivial) rfl) (all_cons (mk _ _ (fun _ => trivial) (fun _ => trivial) rfl) (all_cons (mk _ _ (fun _ => trivial) (fun _ => trivial) rfl) (all_cons (mk _ _ (fun _ => trivial) (fun _ => trivial) rfl) (all_cons (mk _ _ (fun _ => trivial) (fun _ => trivial) rfl) (all_cons (mk _ _ (fun _ => trivial) (fun _ => trivial) rfl) (all_cons (mk _ _ (fun _ => trivial) (fun _ => trivial) rfl) (all_cons (mk _ _ (fun _ => trivial) (fun _ => trivial) rfl) (all_cons (mk _ _ (fun _ => trivial) (fun _ => trivial) rfl) (all_cons (mk _ _ (fun _ => trivial) (fun _ => trivial) rfl) (all_cons (mk _ _ (fun _ => trivial) (fun _ => trivial) rfl) (all_cons (mk _ _ (fun _ => trivial) (fun _ => trivial) rfl) (all_cons (mk _ _ (fun _ => trivial) (fun _ => trivial) rfl) (all_cons (mk _ _ (fun _ => trivial) (fun _ => trivial) rfl) all_nil)))))))))))))))

theorem law_far {P : Tab} (u : UL_law P) (n : Nat) (l : List Int) (s z : Nat) (ps : List (List Nat)) (h : H) (h2 : (cellAt l 2).fmod 8 = 3) :
    (exSs true (run P (n + 8)) (L_law.body.drop 4) (En l (.int s) (.int z) (.int (cellAt l 1)) (.ref h.length)) (h ++ [.list (V.lists ps)])).out = .ok (.bool true) (h ++ [.list (V.lists ps)]) := by
  have lc : (h ++ [Cell.list (V.lists ps)])[h.length]? = some (.list (V.lists ps)) := by simp
  generalize h ++ [Cell.list (V.lists ps)] = g at *
  have ca : run P (n + 8) true "_law_cell_at" [V.ints l, .int 2] g = .ok (.int (cellAt l 2)) g := cell_at_eq u.l_cell_at (n + 7) true l 2 g
  have vi : ∀ h, varR (some (V.ints l)) h = .ok (V.ints l) h := fun h => rfl
  obtain ⟨j, hj, ej, x, hx, ex⟩ := idx_lit (h := g) (i := (cellAt l 2).fdiv 8) (m := 16) (by omega) (vs := [V.tup [.int 0, .int 1], .tup [.int 10, .int 1], .tup [.int 1, .int 9], .tup [.int 2, .int 0], .tup [.int 2, .int 9], .tup [.int 7, .int 3], .tup [.bool true, .int 2], .tup [.int 2, .bool true], .tup [.str "2", .int 2], .tup [.int 2, .none], .tup [.int 17, .int 2], .tup [.int 4, .int 5], .tup [.int 3, .int 6], .tup [.int (-2), .int 2], .tup [.int 2, .int (-1)], .tup [.int 16, .int 2]]) rfl
  obtain ⟨v, w, rfl, hv, hw, hf⟩ := far_bad j x hx
  have ex : pyIdx g _ (.int (((cellAt l 2).fdiv 8).fmod 16)) = _ := ex
  obtain ⟨i, hi, ei, y, hy, ey⟩ := idx_lit (h := g) (i := (cellAt l 1).fdiv 5) (m := 3) (by omega) (vs := [.ref h.length, .lst [.lst [.int 9]], .none]) rfl
  have ey : pyIdx g _ (.int (((cellAt l 1).fdiv 5).fmod 3)) = _ := ey
  have oy : okV g y := by
    have : i = 0 ∨ i = 1 ∨ i = 2 := by omega
    rcases this with rfl | rfl | rfl <;> cases hy
    · exact okV_of (litems_ref lc)
    · trivial
    · trivial
  have ak := asked_err u.l_asked (n + 6) v w y g (hv g) (hw g) oy (c := "BadSize") (by simp [errs]) (free_of_size u.l_asked.free_of (n + 3) v w y g (hv g) (hw g) hf)
  refine o_ifT (h' := g) ?_ ?_
  · simp [vi, ca, bin_mod_int, h2]
  refine o_asg (v := .lst [V.tup [.int 0, .int 1], .tup [.int 10, .int 1], .tup [.int 1, .int 9], .tup [.int 2, .int 0], .tup [.int 2, .int 9], .tup [.int 7, .int 3], .tup [.bool true, .int 2], .tup [.int 2, .bool true], .tup [.str "2", .int 2], .tup [.int 2, .none], .tup [.int 17, .int 2]]) (h' := g) rfl rfl ?_
  refine o_asg (v := .lst [V.tup [.int 0, .int 1], .tup [.int 10, .int 1], .tup [.int 1, .int 9], .tup [.int 2, .int 0], .tup [.int 2, .int 9], .tup [.int 7, .int 3], .tup [.bool true, .int 2], .tup [.int 2, .bool true], .tup [.str "2", .int 2], .tup [.int 2, .none], .tup [.int 17, .int 2], .tup [.int 4, .int 5], .tup [.int 3, .int 6], .tup [.int (-2), .int 2], .tup [.int 2, .int (-1)], .tup [.int 16, .int 2]]) (h' := g) rfl rfl ?_
  refine o_asgT (vs := [v, w]) (h' := g) (ρ' := [V.ints l, v, w, .int (cellAt l 1), .ref h.length, .lst [V.tup [.int 0, .int 1], .tup [.int 10, .int 1], .tup [.int 1, .int 9], .tup [.int 2, .int 0], .tup [.int 2, .int 9], .tup [.int 7, .int 3], .tup [.bool true, .int 2], .tup [.int 2, .bool true], .tup [.str "2", .int 2], .tup [.int 2, .none], .tup [.int 17, .int 2], .tup [.int 4, .int 5], .tup [.int 3, .int 6], .tup [.int (-2), .int 2], .tup [.int 2, .int (-1)], .tup [.int 16, .int 2]], .undef, .undef, .undef, .undef, .undef, .undef, .undef, .undef, .undef, .undef]) ?_ rfl ?_
  · simp only [e_idx, e_bin, e_callF, es_cons, es_nil, e_var, e_int, En, List.set_cons_succ, List.set_cons_zero, List.getElem?_cons_zero, List.getElem?_cons_succ, vi, R.bind_ok, ca, pcall_int, varR_lst, bin_fdiv_int _ _ 8 (by decide), bin_mod_int _ _ 16 (by decide), R.opt_some, ex]
  refine o_ret ?_
  have pk : pcall g (.ok (.tup [.int (codeOf "BadSize")]) g) = .ok (.tup [.int (codeOf "BadSize")]) g := pcall_ok rfl g
  have q0 : pyEq g (.tup [.int (codeOf "BadSize")]) (.tup [.int 0]) = some true := pyEq_plain g rfl rfl rfl rfl
  simp [varR_val g (hv g).val, varR_val g (hw g).val, mkL_eq, mkT_eq, bin_fdiv_int, bin_mod_int, ey, ak, pk, q0]

theorem law_odd {P : Tab} (u : UL_law P) (n : Nat) (l : List Int) (s z : Nat) (hf : fits (.int s) (.int z) = true) (ps : List (List Nat)) (hl : ps.length ≤ 5) (h : H) (h2 : ¬ (cellAt l 2).fmod 8 = 3) (h3 : ((cellAt l 1).fdiv 5).fmod 5 = 2) :
    (exSs true (run P (n + 8)) (L_law.body.drop 4) (En l (.int s) (.int z) (.int (cellAt l 1)) (.ref h.length)) (h ++ [.list (V.lists ps)])).out = .ok (.bool true) (h ++ [.list (V.lists ps)]) := by
  have lc : (h ++ [Cell.list (V.lists ps)])[h.length]? = some (.list (V.lists ps)) := by simp
  generalize h ++ [Cell.list (V.lists ps)] = g at *
  have ca : run P (n + 8) true "_law_cell_at" [V.ints l, .int 2] g = .ok (.int (cellAt l 2)) g := cell_at_eq u.l_cell_at (n + 7) true l 2 g
  have vi : ∀ h, varR (some (V.ints l)) h = .ok (V.ints l) h := fun h => rfl
  obtain ⟨b, hb, eb⟩ := odd_eq u.l_odd (n + 7) (.ref h.length) ps s (cellAt l 2) g (litems_ref lc) (by omega)
  have ob : okV g b := plain_okV hb.1 hb.2.1 g
  have ak := asked_err u.l_asked (n + 6) (.int s) (.int z) b g trivial trivial ob (c := "BadWord") (by simp [errs]) (free_of_bad u.l_asked.free_of (n + 3) s z b g hf hb)
  refine o_ifF (h' := g) ?_ ?_
  · simp [vi, ca, bin_mod_int, h2]
  refine o_ifT (h' := g) ?_ (o_ret ?_)
  · simp [bin_fdiv_int, bin_mod_int, h3]
  have pb : pcall g (.ok b g) = .ok b g := pcall_ok hb.1 g
  have pk : pcall g (.ok (.tup [.int (codeOf "BadWord")]) g) = .ok (.tup [.int (codeOf "BadWord")]) g := pcall_ok rfl g
  have q0 : pyEq g (.tup [.int (codeOf "BadWord")]) (.tup [.int 1]) = some true := pyEq_plain g rfl rfl rfl rfl
  simp [vi, ca, eb, pb, ak, pk, mkT_eq, q0]

/-- copies of the pieces, each a cell -/
noncomputable def cells (ps : List (List Nat)) : H := ps.map fun p => .list (V.nats p)
noncomputable def refs (b m : Nat) : List V := (List.range m).map fun i => .ref (b + i)
noncomputable def pairs (b : Nat) (ps : List (List Nat)) : List (V × List Nat) := (List.range ps.length).map fun i => (.ref (b + i), ps.getD i [])
theorem pairs_fst (b : Nat) (ps : List (List Nat)) : (pairs b ps).map Prod.fst = refs b ps.length := by simp [pairs, refs]
theorem pairs_snd (b : Nat) (ps : List (List Nat)) : (pairs b ps).map Prod.snd = ps := by
  refine List.ext_getElem (by simp [pairs]) fun i h1 h2 => ?_
  simp [pairs, h2]
theorem copies {P : Tab} {n : Nat} {ρ : List V} {g : H} {i : Nat} {ps : List (List Nat)} (hρ : ρ[4]? = some (.ref i)) (hc : g[i]? = some (.list (V.lists ps))) (hl : ps.length ≤ 5) (h15 : 15 < ρ.length) :
    evE true (run P n) ρ (.comp (.own (.bf .list (.var 15))) 15 (.seq (.var 4)) .none) g = .ok (.lst (refs g.length ps.length)) (g ++ cells ps) := by
  have ev : evE true (run P n) ρ (.var 4) g = .ok (.ref i) g := by rw [e_var, hρ]; rfl
  obtain ⟨t, ht, hto⟩ := it_of (F := run P n) ev (litems_ref hc)
  refine ev_compOwn (c := fun p => .lst (V.nats p)) (l := ps) ht hto V.nats ?_ (by omega)
  intro p k _
  have : (ρ.set 15 (.lst (V.nats p)))[15]? = some (.lst (V.nats p)) := by simp [h15]
  simp [this, Mine.bf, Mine.items]
theorem pairs_Ps {g k : H} {v : V} {ps : List (List Nat)} (hv : litems (g ++ cells ps ++ k) v = some (refs g.length ps.length)) : Ps (g ++ cells ps ++ k) v (pairs g.length ps) := by
  refine ⟨by rw [pairs_fst]; exact hv, fun a ha => ?_⟩
  simp only [pairs, List.mem_map, List.mem_range] at ha
  obtain ⟨i, hi, rfl⟩ := ha
  refine IsL.ref ?_
  rw [List.append_assoc, List.getElem?_append_right (by omega), List.getElem?_append_left (by simp [cells]; omega)]
  simp [cells, hi]
theorem pairs_good {b s : Nat} {ps : List (List Nat)} (hg : ∀ p ∈ ps, good s p) : ∀ a ∈ pairs b ps, good s a.2 := by
  intro a ha
  simp only [pairs, List.mem_map, List.mem_range] at ha
  obtain ⟨i, hi, rfl⟩ := ha
  refine hg _ ?_
  simp [hi]

theorem due_eq {P : Tab} (u : UL_law P) (n : Nat) (ρ : List V) (g : H) (i : Nat) (s z : Nat) (hz : z ≤ 8) (hs : 0 < s) (hN : s ^ z ≤ 256) (ps : List (List Nat)) (hg : ∀ p ∈ ps, good s p) (hl : ps.length ≤ 5) (h6 : ρ[6]? = some (.lst (V.lists (words s z)))) (h4 : ρ[4]? = some (.ref i)) (hc : g[i]? = some (.list (V.lists ps))) (h15 : 15 < ρ.length) :
    evE true (run P (n + 1)) ρ (.comp (.var 14) 14 (.seq (.var 6)) (some (.cmp .eq (.comp (.var 15) 15 (.seq (.var 4)) (some (.call false "_law_has" [.var 14, .var 15]))) (.list [])))) g = .ok (.lst (V.lists (freeOf s z ps))) g := by
  refine ev_compF (h' := g) (it_lst (vs := V.lists (words s z)) (by rw [e_var, h6]; rfl)) rfl (fun w => .lst (V.nats w)) (fun w => !ps.any fun p => stands p w) ?_ ?_ ?_
  · intro w hw
    have lw := (words_mem hs hw).1
    have w14 : (ρ.set 14 (.lst (V.nats w)))[14]? = some (.lst (V.nats w)) := List.getElem?_set_self (by omega)
    have w4 : (ρ.set 14 (.lst (V.nats w)))[4]? = some (.ref i) := by rw [List.getElem?_set_ne (by omega)]; exact h4
    obtain ⟨t, ht, hto⟩ := it_of (q := true) (F := run P (n + 1)) (ρ := ρ.set 14 (.lst (V.nats w))) (a := .var 4) (h := g) (h' := g) (v := .ref i) (by rw [e_var, w4]; rfl) (litems_ref hc)
    have ec : evE true (run P (n + 1)) (ρ.set 14 (.lst (V.nats w))) (.comp (.var 15) 15 (.seq (.var 4)) (some (.call false "_law_has" [.var 14, .var 15]))) g = .ok (.lst (V.lists (ps.filter fun p => stands p w))) g := by
      refine ev_compF ht hto (fun p => .lst (V.nats p)) (fun p => stands p w) ?_ ?_ (mkL_eq ?_)
      · intro p hp
        have a14 : ((ρ.set 14 (.lst (V.nats w))).set 15 (.lst (V.nats p)))[14]? = some (.lst (V.nats w)) := by rw [List.getElem?_set_ne (by omega)]; exact w14
        have a15 : ((ρ.set 14 (.lst (V.nats w))).set 15 (.lst (V.nats p)))[15]? = some (.lst (V.nats p)) := by simp [h15]
        have gp := hg p hp
        simp only [e_callF, es_cons, es_nil, e_var, a14, a15, varR_lst, R.bind_ok, pcall_bool, has_eq u.l_has n p w g gp.1 (by have := gp.2.1; omega) (by omega)]
      · intro p _ _
        have a15 : ((ρ.set 14 (.lst (V.nats w))).set 15 (.lst (V.nats p)))[15]? = some (.lst (V.nats p)) := by simp [h15]
        rw [e_var, a15]; rfl
      · have := List.length_filter_le (fun p => stands p w) ps
        simp at this ⊢; omega
    have q : pyEq g (.lst (V.lists (ps.filter fun p => stands p w))) (.lst (V.lists [])) = some (!ps.any fun p => stands p w) := by
      rw [pyEq_LL (frz_plain 0 g _ (lists_plain _)) (frz_plain 0 g _ (lists_plain _))]
      congr 1
      rw [Bool.eq_iff_iff]; simp
    rw [e_cmp, ec, R.bind_ok]
    show R.opt ((pyEq g (.lst (V.lists (ps.filter fun p => stands p w))) (.lst (V.lists []))).map V.bool) g = _
    rw [q]; rfl
  · intro w _ _
    have w14 : (ρ.set 14 (.lst (V.nats w)))[14]? = some (.lst (V.nats w)) := List.getElem?_set_self (by omega)
    rw [e_var, w14]; rfl
  · have := List.length_filter_le (fun w => !ps.any fun p => stands p w) (words s z)
    have h1 : (words s z).length = s ^ z := by simp [words]
    exact mkL_eq (by simp; omega)

end L02
end Mine

namespace Mine
namespace L02

theorem mapRefs_refs (f : Nat → Option V) (b : Nat) (ps : List (List Nat)) (hf : ∀ i (hi : i < ps.length), f (b + i) = some (.lst (V.nats ps[i]))) : V.mapRefs f (refs b ps.length) = some (V.lists ps) := by
  have key : ∀ (q : List (List Nat)) (b : Nat), (∀ i (hi : i < q.length), f (b + i) = some (.lst (V.nats q[i]))) → V.mapRefs f (refs b q.length) = some (V.lists q) := by
    intro q
    induction q with
    | nil => intro _ _; rfl
    | cons p q ih =>
      intro b hb
      have e : refs b (p :: q).length = .ref b :: refs (b + 1) q.length := by
        rw [refs, refs, List.length_cons, List.range_succ_eq_map, List.map_cons, List.map_map]
        congr 1
        refine List.map_congr_left fun i _ => ?_
        simp only [Function.comp, V.ref.injEq]; omega
      rw [e, V.mapRefs, V.mapRef, show f b = some (.lst (V.nats p)) from hb 0 (by simp), Option.bind_some, ih (b + 1) (fun i hi => by
        have := hb (i + 1) (by simpa using hi)
        rw [show b + (i + 1) = b + 1 + i by omega] at this
        simpa using this)]
      rfl
  exact key ps b hf
/-- the handed pieces, k of them cleared -/
noncomputable def hp (g : H) (ps : List (List Nat)) (tl : H) (k : Nat) : H := g ++ (List.replicate k (.list []) ++ cells (ps.drop k)) ++ tl
theorem hp_mid (ps : List (List Nat)) (k : Nat) (hk : k ≤ ps.length) : (List.replicate k (Cell.list []) ++ cells (ps.drop k)).length = ps.length := by simp [cells]; omega
theorem hp_low (g : H) (ps : List (List Nat)) (tl : H) (k i : Nat) (hi : i < g.length) : (hp g ps tl k)[i]? = g[i]? := by
  rw [hp, List.append_assoc, List.getElem?_append_left hi]
theorem hp_high (g : H) (ps : List (List Nat)) (tl : H) (k i : Nat) (hk : k ≤ ps.length) : (hp g ps tl k)[g.length + ps.length + i]? = tl[i]? := by
  rw [hp, List.getElem?_append_right (by rw [List.length_append, hp_mid ps k hk]; omega), List.length_append, hp_mid ps k hk]
  congr 1; omega
theorem hp_step (g : H) (ps : List (List Nat)) (tl : H) (k : Nat) (hk : k < ps.length) : (hp g ps tl k)[g.length + k]? = some (.list (V.nats ps[k])) ∧ (hp g ps tl k).set (g.length + k) (.list []) = hp g ps tl (k + 1) := by
  have e : ps.drop k = ps[k] :: ps.drop (k + 1) := List.drop_eq_getElem_cons hk
  constructor
  · rw [hp, List.append_assoc, List.getElem?_append_right (by omega), List.append_assoc, List.getElem?_append_right (by simp)]
    rw [List.length_replicate, Nat.add_sub_cancel_left, Nat.sub_self, e]; rfl
  · rw [hp, hp, e]
    simp only [List.append_assoc, cells, List.map_cons]
    rw [List.set_append_right _ _ (by omega), Nat.add_sub_cancel_left, List.set_append_right _ _ (by simp)]
    rw [List.length_replicate, Nat.sub_self, List.cons_append, List.set_cons_zero, List.replicate_succ', List.append_assoc]; rfl

theorem law_good {P : Tab} (u : UL_law P) (n : Nat) (l : List Int) (s z : Nat) (hf : fits (.int s) (.int z) = true) (ps : List (List Nat)) (hg : ∀ p ∈ ps, good s p) (hl : ps.length ≤ 5) (h : H) (h2 : ¬ (cellAt l 2).fmod 8 = 3) (h3 : ¬ ((cellAt l 1).fdiv 5).fmod 5 = 2) :
    ∃ h', (exSs true (run P (n + 8)) (L_law.body.drop 4) (En l (.int s) (.int z) (.int (cellAt l 1)) (.ref h.length)) (h ++ [.list (V.lists ps)])).out = .ok (.bool true) h' := by
  have lc : (h ++ [Cell.list (V.lists ps)])[h.length]? = some (.list (V.lists ps)) := by simp
  have hlt : h.length < (h ++ [Cell.list (V.lists ps)]).length := by simp
  generalize h ++ [Cell.list (V.lists ps)] = g at *
  generalize h.length = r at *
  obtain ⟨s', z', e1, e2, f1, f2, f3, f4, f5⟩ := fits_nat hf
  simp only [V.int.injEq] at e1 e2
  have e1 : s = s' := by omega
  have e2 : z = z' := by omega
  subst e1 e2
  have ca : run P (n + 8) true "_law_cell_at" [V.ints l, .int 2] g = .ok (.int (cellAt l 2)) g := cell_at_eq u.l_cell_at (n + 7) true l 2 g
  have vi : ∀ h, varR (some (V.ints l)) h = .ok (V.ints l) h := fun h => rfl
  have lX : (freeOf s z ps).length ≤ 256 := by
    have := List.length_filter_le (fun w => !ps.any fun p => stands p w) (words s z)
    have h1 : (words s z).length = s ^ z := by simp [words]
    rw [freeOf]; omega
  let X := freeOf s z ps
  have hX : freeOf s z ps = X := rfl
  have lX' : X.length ≤ 256 := lX
  let g1 : H := g ++ cells ps ++ [.list (refs g.length ps.length)]
  have c8 : g1[g.length + ps.length]? = some (.list (refs g.length ps.length)) := by
    show (g ++ cells ps ++ [Cell.list (refs g.length ps.length)])[g.length + ps.length]? = _
    rw [List.getElem?_append_right (by simp [cells])]; simp [cells]
  have l1 : g1.length = g.length + ps.length + 1 := by simp [g1, cells]; omega
  have P1 : Ps g1 (.ref (g.length + ps.length)) (pairs g.length ps) := pairs_Ps (k := [.list (refs g.length ps.length)]) (litems_ref c8)
  have fr := free_of_eq u.l_asked.free_of (n + 2) s z _ g1 hf P1 (pairs_good hg) (by simp [pairs]; omega)
  rw [pairs_snd, hX] at fr
  have a9 := asked_ok u.l_asked (n + 6) (.int s) (.int z) (.ref (g.length + ps.length)) g1 trivial trivial (okV_of P1.it) fr
  let tl : H := [.list (refs g.length ps.length), .list (V.lists X ++ [.lst []])]
  refine ⟨(hp g ps tl ps.length).set (g.length + ps.length) (.list []) ++ cells ps, ?_⟩
  refine o_ifF (h' := g) ?_ (o_ifF (h' := g) ?_ ?_)
  · simp [vi, ca, bin_mod_int, h2]
  · simp [bin_fdiv_int, bin_mod_int, h3]
  refine o_asg (v := .lst (V.lists (words s z))) (h' := g) ?_ rfl ?_
  · refine ev_comp (it_rng (n := s ^ z) ?_ (by omega)) rfl (fun k => .lst (V.nats (word s z k))) ?_ ?_
    · simp [power_eq u.l_power (n + 7) s (by omega) z (by omega)]
    · intro k _
      have pk : pcall g (.ok (.lst (V.nats (word s z k))) g) = .ok (.lst (V.nats (word s z k))) g := pcall_ok (nats_plain _) g
      simp [lword_eq u.l_word (n + 7) s z k (by omega) (by omega), pk]
    · rw [mkL_eq (by simp; omega), V.lists, words, List.map_map]; rfl
  refine o_asg (v := .lst (V.lists X)) (h' := g) (due_eq u (n + 7) _ g r s z f4 (by omega) f5 ps hg hl rfl rfl lc (by simp)) rfl ?_
  refine o_asg (v := .ref (g.length + ps.length)) (h' := g1) ?_ rfl ?_
  · rw [e_own, copies (i := r) rfl lc hl (by simp), R.bind_ok, ownR_lst]
    simp [cells, g1]
  refine o_asg (v := .ref g1.length) (h' := g1 ++ [.list (V.lists X)]) ?_ rfl ?_
  · simp [a9]
  have c9 : (g1 ++ [Cell.list (V.lists X)])[g1.length]? = some (.list (V.lists X)) := by simp
  have q1 : pyEq (g1 ++ [.list (V.lists X)]) (.ref (g.length + ps.length)) (.ref r) = some true := by
    have lo : ∀ (i : Nat) (c : Cell), g[i]? = some c → (g1 ++ [Cell.list (V.lists X)])[i]? = some c := by
      intro i c hi
      have := (List.getElem?_eq_some_iff.1 hi).1
      rw [List.getElem?_append_left (by omega)]
      show (g ++ cells ps ++ [Cell.list (refs g.length ps.length)])[i]? = _
      rw [List.append_assoc, List.getElem?_append_left this]; exact hi
    have fb : frz 0 (g1 ++ [.list (V.lists X)]) (.ref r) = some (.lst (V.lists ps)) := frz_items (litems_ref (lo r _ lc)) (lists_plain ps)
    have fa : frz 0 (g1 ++ [.list (V.lists X)]) (.ref (g.length + ps.length)) = some (.lst (V.lists ps)) := by
      show frzAt 4 0 _ _ = _
      rw [frzAt, if_neg (Nat.not_lt_zero _), List.getElem?_append_left (by omega), c8]
      show Option.map _ (V.mapRefs (frzAt 3 0 _) (refs g.length ps.length)) = _
      rw [mapRefs_refs _ _ _ (fun i hi => frzAt_nats (Nat.zero_le _) ?_)]
      · rfl
      · rw [List.getElem?_append_left (by omega)]
        show (g ++ cells ps ++ [Cell.list (refs g.length ps.length)])[g.length + i]? = _
        rw [List.append_assoc, List.getElem?_append_right (by omega), List.getElem?_append_left (by simp [cells]; omega)]
        simp [cells, hi]
    rw [pyEq_LL fa fb, decide_eq_true rfl]
  refine o_ifF (h' := g1 ++ [.list (V.lists X)]) ?_ ?_
  · simp [right_eq u.l_right (n + 7) (.ref g1.length) X _ (litems_ref c9), q1]
  refine o_expr (h' := g1 ++ [.list (V.lists X ++ [.lst []])]) ?_ ?_
  · simp [lcell_ref c9, mkL_eq]
    rw [onList_ref c9 _ _ _ rfl (by simp [V.lists]; omega)]
    simp
  have hh : g1 ++ [.list (V.lists X ++ [.lst []])] = hp g ps tl 0 := by simp [g1, hp, tl]
  rw [hh]
  have t8 : ∀ k, k ≤ ps.length → (hp g ps tl k)[g.length + ps.length]? = some (.list (refs g.length ps.length)) := fun k hk => by
    have := hp_high g ps tl k 0 hk
    rw [Nat.add_zero] at this; rw [this]; rfl
  have t9 : ∀ k, k ≤ ps.length → (hp g ps tl k)[g1.length]? = some (.list (V.lists X ++ [.lst []])) := fun k hk => by
    have := hp_high g ps tl k 1 hk
    rw [l1, this]; rfl
  refine o_for (l := List.range ps.length) (c := fun i => .ref (g.length + i)) (t := some (g.length + ps.length, .list (refs g.length ps.length))) (h' := hp g ps tl 0)
    (fun _ w => [V.ints l, .int s, .int z, .int (cellAt l 1), .ref r, .undef, .lst (V.lists (words s z)), .lst (V.lists X), .ref (g.length + ps.length), .ref g1.length, w, .undef, .undef, .undef, .undef, .undef]) (fun p => hp g ps tl (min p.length ps.length)) .undef ?_ ?_ rfl (by simp) ?_ ?_
  · have e8 := t8 0 (Nat.zero_le _)
    simp [iterOf, e8]; rfl
  · intro p
    exact decide_eq_true (t8 _ (Nat.min_le_right ..))
  · intro p a q w ep
    have ha : a = p.length := by
      have h1 : (List.range ps.length)[p.length]? = some a := by rw [ep]; simp
      have h2 : p.length < ps.length := by have := congrArg List.length ep; simp at this; omega
      rw [List.getElem?_range h2] at h1; exact (Option.some.inj h1).symm
    have h2 : p.length < ps.length := by have := congrArg List.length ep; simp at this; omega
    subst ha
    have ⟨s1, s2⟩ := hp_step g ps tl p.length h2
    simp only [List.length_append, List.length_singleton]
    rw [Nat.min_eq_left (by omega), Nat.min_eq_left (by omega)]
    simp
    rw [onList_ref s1 _ _ _ rfl (by simp), s2]
    simp
  · intro w
    rw [List.length_range, Nat.min_self]
    have e8 := t8 _ (Nat.le_refl ps.length)
    have e9 := t9 _ (Nat.le_refl ps.length)
    have e4 : (hp g ps tl ps.length)[r]? = some (.list (V.lists ps)) := by rw [hp_low _ _ _ _ _ hlt]; exact lc
    have hL : (hp g ps tl ps.length).length = g.length + ps.length + 2 := by
      rw [hp, List.length_append, List.length_append, hp_mid _ _ (Nat.le_refl _)]; rfl
    generalize hp g ps tl ps.length = g5 at *
    refine o_expr (h' := g5.set (g.length + ps.length) (.list [])) ?_ ?_
    · simp
      rw [onList_ref e8 _ _ _ rfl (by simp)]
    have e4' : (g5.set (g.length + ps.length) (.list []))[r]? = some (.list (V.lists ps)) := by rw [List.getElem?_set_ne (by omega)]; exact e4
    have e9' : (g5.set (g.length + ps.length) (.list []))[g1.length]? = some (.list (V.lists X ++ [.lst []])) := by rw [List.getElem?_set_ne (by omega)]; exact e9
    generalize g5.set (g.length + ps.length) (.list []) = g6 at *
    have P6 : Ps (g6 ++ cells ps ++ []) (.lst (refs g6.length ps.length)) (pairs g6.length ps) := pairs_Ps rfl
    rw [List.append_nil] at P6
    have fr := free_of_eq u.l_asked.free_of (n + 2) s z _ (g6 ++ cells ps) hf P6 (pairs_good hg) (by simp [pairs]; omega)
    rw [pairs_snd, hX] at fr
    have a11 := asked_ok u.l_asked (n + 6) (.int s) (.int z) (.lst (refs g6.length ps.length)) (g6 ++ cells ps) trivial trivial (okV_of P6.it) fr
    have p11 : pcall (g6 ++ cells ps) (.ok (.ref (g6 ++ cells ps).length) (g6 ++ cells ps ++ [.list (V.lists X)])) = .ok (.lst (V.lists X)) (g6 ++ cells ps) := by
      refine pcall_new _ _ ?_
      show frzAt 4 _ _ _ = _
      rw [frzAt, if_neg (Nat.lt_irrefl _), cell_get]
      show Option.map _ (V.mapRefs _ (V.lists X)) = _
      rw [mapRefs_plain _ _ (lists_plains X)]; rfl
    refine o_asg (v := .lst (V.lists X)) (h' := g6 ++ cells ps) ?_ rfl (o_ret ?_)
    · have ec : ∀ ρ : List V, ρ[4]? = some (.ref r) → 15 < ρ.length → evE true (run P (n + 8)) ρ (.comp (.own (.bf .list (.var 15))) 15 (.seq (.var 4)) .none) g6 = .ok (.lst (refs g6.length ps.length)) (g6 ++ cells ps) := fun ρ h1 h2 => copies h1 e4' hl h2
      simp only [e_callF, es_cons, es_nil, e_var, List.set_cons_succ, List.set_cons_zero, List.getElem?_cons_zero, List.getElem?_cons_succ, R.bind_ok, varR_int]
      rw [ec _ rfl (by simp)]
      simp only [R.bind_ok, a11, p11]
    · have n9 : Mine.bf .len (g6 ++ cells ps) (.ref g1.length) = some (.int (X.length + 1)) := by
        rw [len_of (litems_app (litems_ref e9') (cells ps))]; simp [V.lists]
      have n7 : Mine.bf .len (g6 ++ cells ps) (.lst (V.lists X)) = some (.int X.length) := by
        rw [len_of (vs := V.lists X) rfl]; simp [V.lists]
      simp [right_eq u.l_right (n + 7) (.lst (V.lists X)) X (g6 ++ cells ps) rfl, n9, n7]

theorem law_eq {P : Tab} (u : UL_law P) (n : Nat) (l : List Int) (h : H) : ∃ h', run P (n + 9) true "law" [V.ints l] h = .ok (.bool true) h' := by
  obtain ⟨s, z, ps, hf, hg, hl, go⟩ := law_head u (n + 7) l h
  by_cases h2 : (cellAt l 2).fmod 8 = 3
  · exact ⟨_, start u.self rfl rfl (go _ (law_far u n l s z ps h h2))⟩
  · by_cases h3 : ((cellAt l 1).fdiv 5).fmod 5 = 2
    · exact ⟨_, start u.self rfl rfl (go _ (law_odd u n l s z hf ps hl h h2 h3))⟩
    · obtain ⟨h', e⟩ := law_good u n l s z hf ps hg hl h h2 h3
      exact ⟨h', start u.self rfl rfl (go _ e)⟩

end L02
end Mine

set_option maxRecDepth 100000
set_option maxHeartbeats 8000000
namespace Mine
open PySem PySem.W PyProof.Rows
noncomputable def view : Program := keepAt ((List.range 36).filter fun i => !([0, 9, 24].contains i)) PySem.Challenge.rw_uf010021_02.row.prog
theorem b0 : PySem.Challenge.rw_uf010021_02.wellSaid = true := by kernel_rfl
theorem b1 : LeftO PySem.Challenge.rw_uf010021_02.row.prog view [] (fun s => xlAt view [] s && recOk (RowW.records PySem.Challenge.rw_uf010021_02.row.toRowW) s) (fun s => hookB L02.nums s.heap) (fun _ => true) 4976 := fun w => by kernel_rfl
theorem b2 : (defOf view PySem.Challenge.rw_uf010021_02.row.name).isSome = true := by kernel_rfl
theorem b3 : PySem.Challenge.rw_uf010021_02.row.prog.theDef PySem.Challenge.rw_uf010021_02.row.name = (defOf view PySem.Challenge.rw_uf010021_02.row.name).map fun x => (x.1.params, x.1.body, x.1.scope) := by kernel_rfl
theorem b4 : ((defOf view PySem.Challenge.rw_uf010021_02.row.name).map fun x => kwWritten? x.1.params.kwonlyargs x.1.params.kw_defaults) = (defOf view PySem.Challenge.rw_uf010021_02.row.name).map fun x => some x.2 := by kernel_rfl
theorem b5 : (chainsOk view && opensWell PySem.Challenge.rw_uf010021_02.row.prog && (frees PySem.Challenge.rw_uf010021_02.row.toRowW && PySem.Challenge.rw_uf010021_02.row.within.isEmpty)) = true := by kernel_rfl
theorem b6 : PySem.Challenge.rw_uf010021_02.row.prog.bare := ⟨rfl, rfl, rfl, rfl, rfl, by decide +kernel⟩
theorem b7 : PySem.Challenge.rw_uf010021_02.row.toRowW.promised := by w_witness2
theorem b8 : importsNone view = true := by kernel_rfl
theorem b9 : specChk view = true := by kernel_rfl
theorem b10 : defChk view L02.fns L02.nums L02.tl = true := by kernel_rfl
theorem b11 : fnsChk view L02.fns = true := by kernel_rfl
end Mine
open PySem PySem.W PyProof.Rows
theorem PySem.Challenge.cw_uf010021_02_holds : PySem.Challenge.rw_uf010021_02.Holds := by
  refine Mine.law_head Mine.b0 (row_said Mine.b0) Mine.b1 Mine.b2 Mine.b3 Mine.b4 rfl Mine.b5 Mine.b6 Mine.b7 ?_
  intro d kwd hdef w s₀ s₁ mg mb G Y fa o pm cd doc dV kV ho hd hcd hD hmg hg args vals as hpre hlay hrd hwl hlo
  obtain ⟨K, KX, k3, k5, k8⟩ := Y
  refine Ground.open G ?_
  intro T B D TE TW
  have hmg' : mg (Str.ofString "law") = some (.ref fa) := by rw [defOf_name hdef] at hmg; exact hmg
  clear ho hd hcd hD G hmg hdef
  wrow_args hpre hlay hrd hwl hlo
  rename_i hL _ _ _ hI _ hc _
  obtain ⟨H', hrun⟩ := Mine.L02.law_eq Mine.L02.u_L_law 0 _ []
  refine Mine.law_wp T KX Mine.b8 rfl k3 Mine.b9 k5 Mine.b10 Mine.b11 k8 (by simp [Mine.L02.fns]) hmg' hL hI hc (by omega) hrun fun s' hs hk => ?_
  obtain ⟨h', tk, rfl⟩ := hs
  exact ⟨.inl ⟨.bool true, .bool true, [], rfl, fun _ => rfl, .bool true, by kernel_rfl, unshared_nil⟩, .of_keep hk, rfl, .of_eq hg⟩
