import PyProof.Rows.All
import Wide.All
import OpenK.AllK
import Wide.FinOn
import PySem.Value
import PyProof.Cells
import PyProof.CompFree
import PyProof.StationsW
import PyProof.RulesTry
import PyProof.TupleIter
import PyProof.TupleKey
import PyProof.DictKinds
import OpenK.KCall
import PyProof.NoPylong
import PyProof.Rows.IntRules
import PyProof.Rows.RuleB_sub
import PyProof.Rows.RuleB_mul
import PyProof.Rows.RuleB_mod
import PyProof.Rows.RuleB_floordiv
import PyProof.Rows.RuleB_pow
import PyProof.Rows.TupAdd
import PyProof.Rows.ListMul
import PyProof.ListMulAny
import PyProof.FitsBits
import PyProof.EqLayable
import PyProof.P3In
import PyProof.IsRules
import PyProof.PureInt
import PyProof.Rows.RuleC_int
import PyProof.DictRoadsH
import PyProof.Rows.SeqSlice
import PyProof.SliceMore
import PyProof.ListIndexNeg
import PyProof.LetGo
import PyProof.Rows.TupSub
import PyProof.WalksMore
import PyProof.RangeFor
import PyProof.ConsumeWalk
import PyProof.TupleOfSeq
import PyProof.TupleCall
import PyProof.ListCopy
import PyProof.CallStr
import PyProof.Conv_int_bool
import PyProof.ListRange
import KE.KRevIter
import KE.KIsAll
import PyProof.SeqI3
import PyProof.Rows.StrJoin2
import PyProof.SeqWrite
import KE.KSortAsk
import PyProof.MeetsSeq3
import PyProof.FactsAll.list_2
import PyProof.Rows.SortWalk
import PyProof.ExcArgsOwn
import KE.KTryMore
import PyProof.MakeMany
import PyProof.CallType
import PyProof.CallRoads
import PyProof.FactsAll.str_0
import PyProof.FactsAll.str_5
import PyProof.FactsAll.list_0
import PyProof.FactsAll.list_3
import PyProof.FactsAll.list_4
import PyProof.FactsAll.dict_3
import PyProof.ForRange
import PyProof.CompMap
import PyProof.ExcAttrAll.ValueError
import PyProof.CompUse
import PyProof.ForAny
import PyProof.EnumFor
import PyProof.EnumMake
import PyProof.ExcBaseAll.ValueError
import PyProof.NsDelKeeps
import PyProof.RulesAs
import OpenK.KWalk
import PyProof.Rows.Top
import PyProof.Rows.TupIn
import Wide.BridgeG
import Wide.Loose
import Open.Head
import PySem.Challenge.RW_uf010021_05
set_option Elab.async false
set_option bootstrap.genMatcherCode false
set_option genSizeOf false
set_option linter.unusedSimpArgs false
set_option linter.unusedVariables false

namespace Mine

theorem hold {G : Prop} (h : ∀ X : Prop, (G → X) → X) : G := h G id

/-- values: lists and tuples that nobody changes any more stand by value; a thing that may change is a cell -/
inductive V where
  | undef
  | none
  | bool (b : Bool)
  | int (i : Int)
  | str (s : String)
  | tup (vs : List V)
  | lst (vs : List V)
  | ref (i : Nat)
  | exc (c : String)
  | dct
deriving Inhabited

inductive Cell where
  | list (vs : List V)
  | dict (es : List (V × V))
deriving Inhabited

abbrev H := List Cell

noncomputable instance : DecidableEq V := fun _ _ => Classical.propDecidable _
noncomputable instance : DecidableEq Cell := fun _ _ => Classical.propDecidable _

/-- results -/
inductive R (α : Type) where
  | ok (a : α) (h : H)
  | err (c : String) (h : H)
  | bad

noncomputable def R.bind {α β : Type} (r : R α) (f : α → H → R β) : R β :=
  match r with
  | .ok a h => f a h
  | .err c h => .err c h
  | .bad => .bad

@[simp] theorem R.bind_ok {α β : Type} (a : α) (h : H) (f : α → H → R β) : (R.ok a h).bind f = f a h := rfl
@[simp] theorem R.bind_err {α β : Type} (c : String) (h : H) (f : α → H → R β) : (R.err c h).bind f = .err c h := rfl
@[simp] theorem R.bind_bad {α β : Type} (f : α → H → R β) : (R.bad).bind f = .bad := rfl

noncomputable def R.opt {α : Type} (o : Option α) (h : H) : R α :=
  match o with
  | some a => .ok a h
  | none => .bad
@[simp] theorem R.opt_some {α : Type} (a : α) (h : H) : R.opt (some a) h = .ok a h := rfl
@[simp] theorem R.opt_none {α : Type} (h : H) : R.opt (none : Option α) h = .bad := rfl

-- replace cells by what they hold
mutual
noncomputable def V.mapRef (g : Nat → Option V) : V → Option V
  | .tup vs => (V.mapRefs g vs).map .tup
  | .lst vs => (V.mapRefs g vs).map .lst
  | .ref i => g i
  | .undef => some .undef
  | .none => some .none
  | .bool b => some (.bool b)
  | .int i => some (.int i)
  | .str s => some (.str s)
  | .exc c => some (.exc c)
  | .dct => some .dct
noncomputable def V.mapRefs (g : Nat → Option V) : List V → Option (List V)
  | [] => some []
  | v :: vs => (V.mapRef g v).bind fun v' => (V.mapRefs g vs).map (v' :: ·)
end

noncomputable def frzAt : Nat → Nat → H → Nat → Option V
  | 0, n, _, i => if i < n then some (.ref i) else Option.none
  | k + 1, n, h, i =>
    if i < n then some (.ref i)
    else match h[i]? with
      | some (.list vs) => (V.mapRefs (frzAt k n h) vs).map .lst
      | _ => Option.none

/-- cells from n on are told by value -/
noncomputable def frz (n : Nat) (h : H) (v : V) : Option V := V.mapRef (frzAt 4 n h) v

-- no cells in it
mutual
noncomputable def V.plain : V → Bool
  | .tup vs => V.plains vs
  | .lst vs => V.plains vs
  | .ref _ => false
  | _ => true
noncomputable def V.plains : List V → Bool
  | [] => true
  | v :: vs => V.plain v && V.plains vs
end

mutual
theorem mapRef_plain (g : Nat → Option V) : ∀ v : V, v.plain = true → V.mapRef g v = some v
  | .tup vs, h => by simp only [V.plain] at h; simp [V.mapRef, mapRefs_plain g vs h]
  | .lst vs, h => by simp only [V.plain] at h; simp [V.mapRef, mapRefs_plain g vs h]
  | .ref _, h => by simp [V.plain] at h
  | .undef, _ => rfl
  | .none, _ => rfl
  | .bool _, _ => rfl
  | .int _, _ => rfl
  | .str _, _ => rfl
  | .exc _, _ => rfl
  | .dct, _ => rfl
theorem mapRefs_plain (g : Nat → Option V) : ∀ vs : List V, V.plains vs = true → V.mapRefs g vs = some vs
  | [], _ => rfl
  | v :: vs, h => by
    simp only [V.plains, Bool.and_eq_true] at h
    simp [V.mapRefs, mapRef_plain g v h.1, mapRefs_plain g vs h.2]
end

/-- the items of a list or a tuple -/
noncomputable def items (h : H) : V → Option (List V)
  | .lst vs => some vs
  | .tup vs => some vs
  | .ref i => match h[i]? with
    | some (.list vs) => some vs
    | _ => Option.none
  | _ => Option.none

/-- the items of a list -/
noncomputable def litems (h : H) : V → Option (List V)
  | .lst vs => some vs
  | .ref i => match h[i]? with
    | some (.list vs) => some vs
    | _ => Option.none
  | _ => Option.none

-- Python's == on things without cells
mutual
noncomputable def peq : V → V → Bool
  | .none, .none => true
  | .bool a, .bool b => a == b
  | .bool a, .int b => (if a then 1 else 0) == b
  | .int a, .bool b => a == (if b then 1 else 0)
  | .int a, .int b => a == b
  | .str a, .str b => a == b
  | .tup a, .tup b => peqs a b
  | .lst a, .lst b => peqs a b
  | _, _ => false
noncomputable def peqs : List V → List V → Bool
  | [], [] => true
  | a :: as, b :: bs => peq a b && peqs as bs
  | _, _ => false
end
theorem peq_none : peq .none .none = true := rfl
theorem peq_bool (a b : Bool) : peq (.bool a) (.bool b) = (a == b) := rfl
theorem peq_int (a b : Int) : peq (.int a) (.int b) = (a == b) := rfl
theorem peq_str (a b : String) : peq (.str a) (.str b) = (a == b) := rfl
theorem peq_tup (a b : List V) : peq (.tup a) (.tup b) = peqs a b := rfl
theorem peq_lst (a b : List V) : peq (.lst a) (.lst b) = peqs a b := rfl
theorem peqs_cons (a b : V) (as bs : List V) : peqs (a :: as) (b :: bs) = (peq a b && peqs as bs) := rfl

/-- things that == is told of here: not too deep, no cells, no dicts -/
noncomputable def V.ok : Nat → V → Bool
  | 0, _ => false
  | n + 1, v => match v with
    | .undef => false
    | .exc _ => false
    | .ref _ => false
    | .dct => false
    | .tup vs => vs.all (V.ok n)
    | .lst vs => vs.all (V.ok n)
    | _ => true

noncomputable def pyEq (h : H) (a b : V) : Option Bool :=
  match frz 0 h a, frz 0 h b with
  | some a, some b => if V.ok 8 a && V.ok 8 b then some (peq a b) else Option.none
  | _, _ => Option.none

noncomputable def asInts : List V → Option (List Int)
  | [] => some []
  | .int i :: vs => (asInts vs).map (i :: ·)
  | _ => Option.none

noncomputable def lexLt : List Int → List Int → Bool
  | [], [] => false
  | [], _ :: _ => true
  | _ :: _, [] => false
  | a :: as, b :: bs => if a = b then lexLt as bs else decide (a < b)

noncomputable def pyLt : V → V → Option Bool
  | .int a, .int b => some (decide (a < b))
  | _, _ => Option.none

inductive Cop where
  | eq | ne | lt | le | gt | ge | is | isNot | isin | notIn
deriving DecidableEq

/-- the things of a list or a tuple, none a cell -/
noncomputable def plainItems : V → Option (List V)
  | .lst vs => some vs
  | .tup vs => some vs
  | _ => Option.none

noncomputable def isIn (h : H) (a b : V) : Option Bool :=
  match frz 0 h a, frz 0 h b with
  | some a, some b => if V.ok 8 a && V.ok 8 b then (plainItems b).map fun vs => vs.any fun y => peq y a else Option.none
  | _, _ => Option.none

noncomputable def keyT : V → Option (List Int)
  | .tup vs => asInts vs
  | _ => Option.none
noncomputable def keyOk (k : V) : Bool := (keyT k).isSome

noncomputable def dfind (k : V) : List (V × V) → Option V
  | [] => Option.none
  | (k', v) :: es => if k = k' then some v else dfind k es


noncomputable def pyIn (h : H) (a b : V) : Option Bool :=
  match b with
  | .ref i => match h[i]? with
    | some (.dict es) => if keyOk a then some (dfind a es).isSome else Option.none
    | _ => isIn h a b
  | _ => isIn h a b

/-- identity with None or a bool alone -/
noncomputable def pyIs (a b : V) : Option Bool :=
  match b with
  | .none => match a with
    | .none => some true
    | .undef => Option.none
    | _ => some false
  | .bool y => match a with
    | .bool x => some (x == y)
    | _ => Option.none
  | _ => Option.none

noncomputable def pyCmp (op : Cop) (h : H) (a b : V) : Option Bool :=
  match op with
  | .eq => pyEq h a b
  | .ne => (pyEq h a b).map (!·)
  | .lt => pyLt a b
  | .gt => pyLt b a
  | .le => (pyLt b a).map (!·)
  | .ge => (pyLt a b).map (!·)
  | .is => pyIs a b
  | .isNot => (pyIs a b).map (!·)
  | .isin => pyIn h a b
  | .notIn => (pyIn h a b).map (!·)

inductive Bop where
  | add | sub | mul | fdiv | mod | pow
deriving DecidableEq

noncomputable def rep {α : Type} (vs : List α) (n : Int) : List α := (List.replicate n.toNat vs).flatten

/-- a list, a tuple of no more items than are spoken of -/
noncomputable def mkL (vs : List V) : Option V := if vs.length ≤ 1000000 then some (.lst vs) else Option.none
noncomputable def mkT (vs : List V) : Option V := if vs.length ≤ 1000000 then some (.tup vs) else Option.none

noncomputable def int2 (f : Int → Int → Option V) (a b : V) : Option V :=
  match a with
  | .int x => match b with
    | .int y => f x y
    | _ => Option.none
  | _ => Option.none
noncomputable def pyAdd (h : H) (a b : V) : Option V :=
  match a with
  | .int x => match b with
    | .int y => some (.int (x + y))
    | _ => Option.none
  | .tup x => match b with
    | .tup y => mkT (x ++ y)
    | _ => Option.none
  | a => (litems h a).bind fun x => (litems h b).bind fun y => mkL (x ++ y)
noncomputable def pyMul (h : H) (a b : V) : Option V :=
  match b with
  | .int n => match a with
    | .int x => if x.natAbs < 9223372036854775808 ∨ n.natAbs < 9223372036854775808 then some (.int (x * n)) else Option.none
    | a => if -1000000 < n ∧ n < 1000000 then (litems h a).bind fun vs => mkL (rep vs n) else Option.none
  | _ => Option.none
noncomputable def pyBin (op : Bop) (h : H) (a b : V) : Option V :=
  match op with
  | .add => pyAdd h a b
  | .sub => int2 (fun x y => some (.int (x - y))) a b
  | .mul => pyMul h a b
  | .fdiv => int2 (fun x y => if y = 0 then Option.none else some (.int (x.fdiv y))) a b
  | .mod => int2 (fun x y => if y = 0 then Option.none else some (.int (x.fmod y))) a b
  | .pow => int2 (fun x y => if x = 10 ∧ y = 20 then some (.int 100000000000000000000) else Option.none) a b
theorem int2_cases (f : Int → Int → Option V) (a b : V) : int2 f a b = Option.none ∨ ∃ x y, a = .int x ∧ b = .int y := by
  cases a with
  | int x => cases b with
    | int y => exact .inr ⟨x, y, rfl, rfl⟩
    | _ => exact .inl rfl
  | _ => exact .inl rfl
theorem pyAdd_cases (h : H) (a b : V) : pyAdd h a b = Option.none ∨ (∃ x y, a = .int x ∧ b = .int y) ∨ (∃ x y, a = .tup x ∧ b = .tup y) ∨ ∃ x y, litems h a = some x ∧ litems h b = some y ∧ pyAdd h a b = mkL (x ++ y) := by
  have go : pyAdd h a b = ((litems h a).bind fun x => (litems h b).bind fun y => mkL (x ++ y)) → pyAdd h a b = Option.none ∨ ∃ x y, litems h a = some x ∧ litems h b = some y ∧ pyAdd h a b = mkL (x ++ y) := fun e => by
    rw [e]
    cases litems h a with
    | none => exact .inl rfl
    | some x => cases litems h b with
      | none => exact .inl rfl
      | some y => exact .inr ⟨x, y, rfl, rfl, rfl⟩
  cases a with
  | int x => cases b with
    | int y => exact .inr (.inl ⟨x, y, rfl, rfl⟩)
    | _ => exact .inl rfl
  | tup x => cases b with
    | tup y => exact .inr (.inr (.inl ⟨x, y, rfl, rfl⟩))
    | _ => exact .inl rfl
  | _ => exact (go rfl).imp id fun h => .inr (.inr h)
theorem pyMul_cases (h : H) (a b : V) : pyMul h a b = Option.none ∨ (∃ x y, a = .int x ∧ b = .int y) ∨ ∃ n, b = .int n ∧ pyMul h a b = if -1000000 < n ∧ n < 1000000 then (litems h a).bind fun vs => mkL (rep vs n) else Option.none := by
  cases b with
  | int n => cases a with
    | int x => exact .inr (.inl ⟨x, n, rfl, rfl⟩)
    | _ => exact .inr (.inr ⟨n, rfl, rfl⟩)
  | _ => exact .inl rfl

/-- an index as Python reads it -/
noncomputable def place (n : Nat) (i : Int) : Option Nat :=
  if 0 ≤ i then (if i < n then some i.toNat else Option.none)
  else if 0 ≤ i + n then some (i + n).toNat else Option.none

noncomputable def pyIdx (h : H) (a i : V) : Option V :=
  match a with
  | .ref r => match h[r]? with
    | some (.dict es) => if keyOk i then dfind i es else Option.none
    | some (.list vs) => match i with
      | .int k => (place vs.length k).bind fun j => vs[j]?
      | _ => Option.none
    | none => Option.none
  | .lst vs => match i with
    | .int k => (place vs.length k).bind fun j => vs[j]?
    | _ => Option.none
  | .tup vs => match i with
    | .int k => (place vs.length k).bind fun j => vs[j]?
    | _ => Option.none
  | _ => Option.none

/-- a bound of a slice, as Python cuts it -/
noncomputable def cut (n : Nat) (i : Int) : Nat :=
  if i < 0 then (i + n).toNat else min i.toNat n

noncomputable def slc {α : Type} (vs : List α) (lo hi : Option Int) : List α :=
  let a := match lo with | some i => cut vs.length i | none => 0
  let b := match hi with | some i => cut vs.length i | none => vs.length
  (vs.take b).drop a

noncomputable def asInt? : V → Option Int
  | .int i => some i
  | _ => Option.none

noncomputable def pySlice (h : H) (a : V) (lo hi : Option V) : Option V :=
  match lo.mapM asInt?, hi.mapM asInt? with
  | some lo, some hi => (litems h a).map fun vs => .lst (slc vs lo hi)
  | _, _ => Option.none

inductive Ty where
  | int | bool | list | tuple | valueError
  | own (c : String)
deriving DecidableEq

/-- the text's own exceptions; the first is the base of the others -/
noncomputable def excNames : List String := ["RingError", "BadSize", "BadWord", "BadBook", "BadRing", "NoWord", "NoRing", "NoJoin"]

noncomputable def isExc (c : String) (t : Ty) : Option Bool :=
  if excNames.contains c then
    match t with
    | .own d => if excNames.contains d then some (c == d || d == "RingError") else Option.none
    | .valueError => some true
    | _ => Option.none
  else Option.none

noncomputable def isTy (h : H) (v : V) (t : Ty) : Option Bool :=
  match v with
  | .undef => Option.none
  | .exc _ => Option.none
  | .ref i => match h[i]? with
    | some (.list _) => some (t == .list)
    | some (.dict _) => some false
    | none => Option.none
  | .lst _ => some (t == .list)
  | .tup _ => some (t == .tuple)
  | .bool _ => some (t == .bool || t == .int)
  | .int _ => some (t == .int)
  | _ => some false

noncomputable def isTys (h : H) (v : V) : List Ty → Option Bool
  | [] => some false
  | t :: ts => match isTy h v t with
    | some true => some true
    | some false => isTys h v ts
    | none => Option.none

noncomputable def truthy : V → Option Bool
  | .bool b => some b
  | _ => Option.none

inductive Bf where
  | len | list | tuple | sorted | min | sum | any | all | int | str | listRev | listRange
deriving DecidableEq

/-- those that go through their argument (list and tuple of a list are shown under a handler too) -/
noncomputable def Bf.walks : Bf → Bool
  | .sorted | .min | .sum | .any | .all | .listRev | .listRange => true
  | _ => false
/-- those that are shown so far -/
noncomputable def Bf.ready : Bf → Bool
  | .len | .list | .tuple | .int | .all | .any | .str | .listRev => true
  | .sorted => true
  | .sum => true
  | _ => false

/-- stable: the later of two equal ones goes behind -/
noncomputable def isort {α : Type} (lt : α → α → Bool) : List α → List α
  | [] => []
  | x :: xs => insertBy' lt x (isort lt xs)
where
  insertBy' (lt : α → α → Bool) (x : α) : List α → List α
    | [] => [x]
    | y :: ys => if lt y x then y :: insertBy' lt x ys else x :: y :: ys

noncomputable def V.ints (l : List Int) : V := .lst (l.map .int)
noncomputable def V.words (l : List (List Int)) : V := .lst (l.map V.ints)

/-- each with its key -/
noncomputable def keyed {α : Type} (f : V → Option α) : List V → Option (List (α × V))
  | [] => some []
  | v :: vs => (f v).bind fun a => (keyed f vs).map ((a, v) :: ·)
noncomputable def keyL (h : H) (v : V) : Option (List Int) := (litems h v).bind asInts
noncomputable def keyI : V → Option Int
  | .int i => some i
  | _ => Option.none
/-- sorted by keys; told only where equal keys are of one thing -/
noncomputable def sortBy {α : Type} [DecidableEq α] (lt : α → α → Bool) (l : List (α × V)) : Option (List V) :=
  if l.length < 64 && l.all (fun p => l.all fun q => decide (p.1 = q.1 → p.2 = q.2)) then some ((isort (fun a b => lt a.1 b.1) l).map (·.2)) else Option.none
noncomputable def sortVs (h : H) (vs : List V) : Option (List V) :=
  match keyed keyI vs with
  | some l => sortBy (fun a b => decide (a < b)) l
  | none => match keyed (keyL h) vs with
    | some l => sortBy lexLt l
    | none => Option.none
/-- the first of the least -/
noncomputable def minFrom (a : List Int) (v : V) : List (List Int × V) → V
  | [] => v
  | p :: l => if lexLt p.1 a then minFrom p.1 p.2 l else minFrom a v l
noncomputable def minVs (h : H) (vs : List V) : Option V :=
  match keyed (keyL h) vs with
  | some (p :: l) => some (minFrom p.1 p.2 l)
  | _ => Option.none

noncomputable def asBools : List V → Option (List Bool)
  | [] => some []
  | .bool b :: r => (asBools r).map (b :: ·)
  | _ => Option.none

noncomputable def upto (n : Int) : List V := (List.range n.toNat).map fun (i : Nat) => .int (i : Int)
noncomputable def fromTo (a b : Int) : List V := (List.range (b - a).toNat).map fun (i : Nat) => .int (a + (i : Int))
/-- range(a, b, -1) -/
noncomputable def downTo (a b : Int) : List V := (List.range (a - b).toNat).map fun (i : Nat) => .int (a - (i : Int))

/-- the sum of a few small numbers -/
noncomputable def sumI (l : List Int) : Option V := if l.length ≤ 1000 ∧ ∀ i ∈ l, 0 ≤ i ∧ i ≤ 1000000 then some (.int l.sum) else Option.none
noncomputable def bf (f : Bf) (h : H) (v : V) : Option V :=
  match f with
  | .len => match v with
    | .ref i => match h[i]? with
      | some (.list vs) => some (.int vs.length)
      | some (.dict _) => Option.none
      | none => Option.none
    | _ => (items h v).map fun vs => .int vs.length
  | .list => (items h v).map .lst
  | .tuple => (items h v).map .tup
  | .listRev => (litems h v).map fun vs => .lst vs.reverse
  | .sorted => (litems h v).bind fun vs => (sortVs h vs).map .lst
  | .min => (litems h v).bind (minVs h)
  | .sum => (litems h v).bind fun vs => (asInts vs).bind sumI
  | .any => (litems h v).bind fun vs => (asBools vs).map fun bs => .bool (bs.any id)
  | .all => (litems h v).bind fun vs => (asBools vs).map fun bs => .bool (bs.all id)
  | .int => match v with
    | .bool b => some (.int (if b then 1 else 0))
    | _ => Option.none
  | .str => match v with
    | .int i => if 0 ≤ i ∧ i < 100 then some (.str (toString i)) else Option.none
    | _ => Option.none
  | .listRange => match v with
    | .int n => mkL (upto n)
    | _ => Option.none

/-- a cell that a loop goes through: it is not to change meanwhile -/
abbrev Watch := Option (Nat × Cell)
noncomputable def Watch.ok (w : Watch) (h : H) : Bool :=
  match w with
  | none => true
  | some (i, c) => decide (h[i]? = some c)
@[simp] theorem Watch.ok_none (h : H) : Watch.ok none h = true := rfl

/-- what a loop goes through -/
noncomputable def iterOf (h : H) : V → Option (List V × Watch)
  | .lst vs => some (vs, Option.none)
  | .tup vs => some (vs, Option.none)
  | .ref i => match h[i]? with
    | some (.list vs) => some (vs, some (i, .list vs))
    | some (.dict _) => Option.none
    | none => Option.none
  | _ => Option.none

noncomputable def joinStrs : List V → Option String
  | [] => some ""
  | .str s :: r => if s.toList.length ≤ 10 then (joinStrs r).map (s ++ ·) else Option.none
  | _ => Option.none

set_option genInjectivity false in
mutual
inductive PE where
  | none | bool (b : Bool) | int (i : Int) | str (s : String)
  | var (i : Nat)
  | glob (g : String) (i : Int)
  | bin (op : Bop) (a b : PE)
  | neg (i : Int)
  | not (a : PE)
  | and (es : List PE) | or (es : List PE)
  | ite (t a b : PE)
  | cmp (op : Cop) (a b : PE)
  | cmp2 (op1 op2 : Cop) (a b c : PE)
  | list (es : List PE) | tup (es : List PE) | dict0
  | idx (a i : PE)
  | slice (a : PE) (lo hi : Option PE)
  | rev (a : PE)
  | isinst (a : PE) (ts : List Ty)
  | isexc (x : Nat) (t : Ty)        -- isinstance of the caught exception
  | callX (f : String) (x : Nat)    -- a call with the caught exception
  | bf (f : Bf) (a : PE)
  | join0 (a : PE)
  | comp (elt : PE) (x : Nat) (it : PIt) (cond : Option PE)
  | call (keep : Bool) (f : String) (args : List PE)
  | own (a : PE)                    -- a fresh list, as a cell
  | newDict (es : List (PE × PE))   -- a dict display, as a cell
  | append (o a : PE) | extend (o a : PE) | clear (o : PE) | remove (o a : PE)
  | pop (o : PE) | popAt (o i : PE)
  | get (o k d : PE) | setdef (o k d : PE)
  | setdefL (o k : PE)              -- setdefault(k, [])
inductive PIt where
  | seq (e : PE)
  | range1 (a : PE) | range2 (a b : PE) | range3 (a b c : PE)
  | enum (e : PE)
end

set_option genInjectivity false in
inductive PS where
  | expr (e : PE)
  | asg (x : Nat) (e : PE)
  | asgT (xs : List Nat) (e : PE)
  | setIdx (o i e : PE)
  | setIdx2 (o1 i1 o2 i2 e1 e2 : PE)
  | ret (e : PE)
  | ifs (t : PE) (a b : List PS)
  | for1 (x : Nat) (it : PIt) (body : List PS)
  | for2 (x y : Nat) (it : PIt) (body : List PS)
  | while (t : PE) (body : List PS)
  | raise (c : String)
  | try (body : List PS) (c : String) (x : Nat) (handler : List PS)
  | pass
  | frz (x : Nat)                   -- the cell of a name is told by value from here on

structure FnDef where
  arity : Nat
  slots : Nat
  body : List PS

abbrev Tab := String → Option FnDef
abbrev Fn := Bool → String → List V → H → R V

/-- a call whose own cells are dropped -/
noncomputable def pcall (h : H) (r : R V) : R V :=
  match r with
  | .ok v h' => if h'.take h.length = h then R.opt (Mine.frz h.length h' v) h else .bad
  | .err c h' => if h'.take h.length = h then .err c h else .bad
  | .bad => .bad

noncomputable def seti (h : H) (o i v : V) : Option H :=
  match o with
  | .ref r => match h[r]? with
    | some (.list vs) => match i with
      | .int k => (place vs.length k).map fun j => h.set r (.list (vs.set j v))
      | _ => Option.none
    | some (.dict _) => Option.none
    | none => Option.none
  | _ => Option.none

noncomputable def eraseEq (h : H) (a : V) : List V → Option (List V)
  | [] => Option.none
  | b :: bs => match pyEq h b a with
    | some true => some bs
    | some false => (eraseEq h a bs).map (b :: ·)
    | none => Option.none

noncomputable def onList (h : H) (o : V) (f : List V → Option (V × List V)) : R V :=
  match o with
  | .ref r => match h[r]? with
    | some (.list vs) => match f vs with
      | some (v, vs') => if vs'.length ≤ 1000000 then .ok v (h.set r (.list vs')) else .bad
      | none => .bad
    | _ => .bad
  | _ => .bad

/-- a list cell -/
noncomputable def lcell (h : H) (o : V) : Bool :=
  match o with
  | .ref r => match h[r]? with
    | some (.list _) => true
    | _ => false
  | _ => false

/-- a dict cell -/
noncomputable def dcell (h : H) (o : V) : Bool :=
  match o with
  | .ref r => match h[r]? with
    | some (.dict _) => true
    | _ => false
  | _ => false

noncomputable def onDict (h : H) (o k : V) (f : Nat → List (V × V) → R V) : R V :=
  match o with
  | .ref r => match h[r]? with
    | some (.dict es) => if keyOk k then f r es else .bad
    | _ => .bad
  | _ => .bad

/-- d.setdefault(k, v) -/
noncomputable def setDef (h : H) (x y z : V) : R V :=
  onDict h x y fun r es => match dfind y es with
    | some v => .ok v h
    | Option.none => if es.length ≤ 1000 then .ok z (h.set r (.dict (es ++ [(y, z)]))) else .bad
noncomputable def rng3 (m n k : Int) (h : H) : R (List V × Watch) :=
  if k = -1 then .ok (downTo m n, Option.none) h else .bad
noncomputable def enumFrom (n : Nat) : List V → List V
  | [] => []
  | v :: vs => .tup [.int n, v] :: enumFrom (n + 1) vs

/-- enumerate of a list cell -/
noncomputable def enumOf (h : H) : V → Option (List V × Watch)
  | .ref i => match h[i]? with
    | some (.list vs) => some (enumFrom 0 vs, some (i, .list vs))
    | _ => Option.none
  | _ => Option.none

/-- what a comprehension gathers -/
noncomputable def compL (w : Watch) (elt : V → H → R V) (cond : V → H → R V) : List V → H → R (List V)
  | [], h => if w.ok h then .ok [] h else .bad
  | x :: xs, h => if w.ok h then (cond x h).bind fun b h => match truthy b with
    | some true => (elt x h).bind fun v h => (compL w elt cond xs h).bind fun vs h => .ok (v :: vs) h
    | some false => compL w elt cond xs h
    | none => .bad
    else .bad

mutual
noncomputable def evE (q : Bool) (F : Fn) (ρ : List V) : PE → H → R V
  | .none, h => .ok .none h
  | .bool b, h => .ok (.bool b) h
  | .int i, h => .ok (.int i) h
  | .str s, h => .ok (.str s) h
  | .var i, h => match ρ[i]? with
    | some .undef => .bad
    | some (.exc _) => .bad
    | some v => .ok v h
    | Option.none => .bad
  | .glob _ i, h => .ok (.int i) h
  | .bin op a b, h => (evE q F ρ a h).bind fun x h => (evE q F ρ b h).bind fun y h => R.opt (pyBin op h x y) h
  | .neg i, h => .ok (.int (-i)) h
  | .not a, h => (evE q F ρ a h).bind fun x h => match truthy x with
    | some b => .ok (.bool (!b)) h
    | Option.none => .bad
  | .and es, h => evAnd q F ρ es h
  | .or es, h => evOr q F ρ es h
  | .ite t a b, h => (evE q F ρ t h).bind fun x h => match truthy x with
    | some true => evE q F ρ a h
    | some false => evE q F ρ b h
    | Option.none => .bad
  | .cmp op a b, h => (evE q F ρ a h).bind fun x h => (evE q F ρ b h).bind fun y h => R.opt ((pyCmp op h x y).map .bool) h
  | .cmp2 op1 op2 a b c, h => (evE q F ρ a h).bind fun x h => (evE q F ρ b h).bind fun y h => match pyCmp op1 h x y with
    | some true => (evE q F ρ c h).bind fun z h => R.opt ((pyCmp op2 h y z).map .bool) h
    | some false => .ok (.bool false) h
    | Option.none => .bad
  | .list es, h => (evEs q F ρ es h).bind fun vs h => R.opt (mkL vs) h
  | .tup es, h => (evEs q F ρ es h).bind fun vs h => R.opt (mkT vs) h
  | .dict0, h => .ok .dct h
  | .idx a i, h => (evE q F ρ a h).bind fun x h => (evE q F ρ i h).bind fun y h => R.opt (pyIdx h x y) h
  | .slice a lo hi, h => (evE q F ρ a h).bind fun x h => (evO q F ρ lo h).bind fun l h => (evO q F ρ hi h).bind fun u h => R.opt (pySlice h x l u) h
  | .rev _, _ => .bad
  | .isinst a ts, h => (evE q F ρ a h).bind fun x h => R.opt ((isTys h x ts).map .bool) h
  | .isexc x t, h => match ρ[x]? with
    | some (.exc c) => R.opt ((isExc c t).map .bool) h
    | _ => .bad
  | .callX f x, h => match ρ[x]? with
    | some (.exc c) => pcall h (F q f [.exc c] h)
    | _ => .bad
  | .bf f a, h => if (!q && f.walks) || !f.ready then .bad else (evE q F ρ a h).bind fun x h => R.opt (Mine.bf f h x) h
  | .join0 a, h => if !q then .bad else (evE q F ρ a h).bind fun x h => R.opt ((litems h x).bind fun vs => (joinStrs vs).map .str) h
  | .comp elt x it cond, h => if !q then .bad else (evIt q F ρ it h).bind fun vs h =>
      match compL vs.2 (fun v h => evE q F (ρ.set x v) elt h) (fun v h => evC q F (ρ.set x v) cond h) vs.1 h with
      | .ok r h => R.opt (mkL r) h
      | _ => .bad
  | .call k f args, h => (evEs q F ρ args h).bind fun vs h => if k then F q f vs h else pcall h (F q f vs h)
  | .own a, h => (evE q F ρ a h).bind fun x h => match x with
    | .lst vs => .ok (.ref h.length) (h ++ [.list vs])
    | _ => .bad
  | .newDict es, h => (evPs q F ρ es h).bind fun ps h => .ok (.ref h.length) (h ++ [.dict ps])
  | .append o a, h => (evE q F ρ o h).bind fun x h => if lcell h x then (evE q F ρ a h).bind fun y h => onList h x fun vs => some (.none, vs ++ [y]) else .bad
  | .extend o a, h => (evE q F ρ o h).bind fun x h => if lcell h x then (evE q F ρ a h).bind fun y h => match y with
    | .lst ws => onList h x fun vs => some (.none, vs ++ ws)
    | _ => .bad
    else .bad
  | .clear o, h => (evE q F ρ o h).bind fun x h => onList h x fun _ => some (.none, [])
  | .remove o a, h => (evE q F ρ o h).bind fun x h => if lcell h x then (evE q F ρ a h).bind fun y h => onList h x fun vs => (eraseEq h y vs).map fun r => (.none, r) else .bad
  | .pop o, h => (evE q F ρ o h).bind fun x h => onList h x fun vs => (vs.getLast?).map fun v => (v, vs.dropLast)
  | .popAt o i, h => (evE q F ρ o h).bind fun x h => if lcell h x then (evE q F ρ i h).bind fun y h => match y with
    | .int k => onList h x fun vs => (place vs.length k).bind fun j => (vs[j]?).map fun v => (v, vs.eraseIdx j)
    | _ => .bad
    else .bad
  | .get o k d, h => (evE q F ρ o h).bind fun x h => (evE q F ρ k h).bind fun y h => (evE q F ρ d h).bind fun z h =>
      onDict h x y fun _ es => .ok ((dfind y es).getD z) h
  | .setdef o k d, h => (evE q F ρ o h).bind fun x h => if dcell h x then (evE q F ρ k h).bind fun y h => (evE q F ρ d h).bind fun z h => setDef h x y z else .bad
  | .setdefL o k, h => (evE q F ρ o h).bind fun x h => (evE q F ρ k h).bind fun y h =>
      onDict h x y fun r es => match dfind y es with
        | some v => .ok v h
        | Option.none => .ok (.ref h.length) (h.set r (.dict (es ++ [(y, .ref h.length)])) ++ [.list []])
noncomputable def evEs (q : Bool) (F : Fn) (ρ : List V) : List PE → H → R (List V)
  | [], h => .ok [] h
  | e :: es, h => (evE q F ρ e h).bind fun v h => (evEs q F ρ es h).bind fun vs h => .ok (v :: vs) h
noncomputable def evPs (q : Bool) (F : Fn) (ρ : List V) : List (PE × PE) → H → R (List (V × V))
  | [], h => .ok [] h
  | (a, b) :: es, h => (evE q F ρ a h).bind fun k h => (evE q F ρ b h).bind fun v h => (evPs q F ρ es h).bind fun ps h =>
      if keyOk k && (dfind k ps).isNone then .ok ((k, v) :: ps) h else .bad
noncomputable def evO (q : Bool) (F : Fn) (ρ : List V) : Option PE → H → R (Option V)
  | Option.none, h => .ok Option.none h
  | some e, h => (evE q F ρ e h).bind fun v h => .ok (some v) h
noncomputable def evC (q : Bool) (F : Fn) (ρ : List V) : Option PE → H → R V
  | Option.none, h => .ok (.bool true) h
  | some e, h => evE q F ρ e h
noncomputable def evAnd (q : Bool) (F : Fn) (ρ : List V) : List PE → H → R V
  | [], _ => .bad
  | [e], h => evE q F ρ e h
  | e :: es, h => (evE q F ρ e h).bind fun x h => match truthy x with
    | some true => evAnd q F ρ es h
    | some false => .ok x h
    | Option.none => .bad
noncomputable def evOr (q : Bool) (F : Fn) (ρ : List V) : List PE → H → R V
  | [], _ => .bad
  | [e], h => evE q F ρ e h
  | e :: es, h => (evE q F ρ e h).bind fun x h => match truthy x with
    | some true => .ok x h
    | some false => evOr q F ρ es h
    | Option.none => .bad
noncomputable def evIt (q : Bool) (F : Fn) (ρ : List V) : PIt → H → R (List V × Watch)
  | .seq e, h => (evE q F ρ e h).bind fun x h => R.opt (iterOf h x) h
  | .range1 a, h => (evE q F ρ a h).bind fun x h => match x with
    | .int n => if -1000000 ≤ n ∧ n ≤ 1000000 then .ok (upto n, Option.none) h else .bad
    | _ => .bad
  | .range2 a b, h => (evE q F ρ a h).bind fun x h => (evE q F ρ b h).bind fun y h => match x, y with
    | .int m, .int n => if -1000000 ≤ m ∧ m ≤ 1000000 ∧ -1000000 ≤ n ∧ n ≤ 1000000 then .ok (fromTo m n, Option.none) h else .bad
    | _, _ => .bad
  | .range3 a b c, h => (evE q F ρ a h).bind fun x h => (evE q F ρ b h).bind fun y h => (evE q F ρ c h).bind fun z h => match x, y, z with
    | .int m, .int n, .int k => if -1000000 ≤ m ∧ m ≤ 1000000 ∧ -1000000 ≤ n ∧ n ≤ 1000000 then
        rng3 m n k h else .bad
    | _, _, _ => .bad
  | .enum e, h => (evE q F ρ e h).bind fun x h => R.opt (enumOf h x) h
end

/-- how a statement ends -/
inductive Fl where
  | next
  | ret (v : V)

inductive RS where
  | ok (f : Fl) (ρ : List V) (h : H)
  | err (c : String) (ρ : List V) (h : H)
  | bad

noncomputable def R.st {α : Type} (r : R α) (ρ : List V) (f : α → H → RS) : RS :=
  match r with
  | .ok a h => f a h
  | .err c h => .err c ρ h
  | .bad => .bad
@[simp] theorem R.st_ok {α : Type} (a : α) (h : H) (ρ : List V) (f : α → H → RS) : (R.ok a h).st ρ f = f a h := rfl
@[simp] theorem R.st_err {α : Type} (c : String) (h : H) (ρ : List V) (f : α → H → RS) : (R.err c h).st ρ f = .err c ρ h := rfl
@[simp] theorem R.st_bad {α : Type} (ρ : List V) (f : α → H → RS) : (R.bad).st ρ f = .bad := rfl

noncomputable def RS.then (r : RS) (f : List V → H → RS) : RS :=
  match r with
  | .ok .next ρ h => f ρ h
  | r => r
@[simp] theorem RS.then_next (ρ : List V) (h : H) (f : List V → H → RS) : (RS.ok .next ρ h).then f = f ρ h := rfl
@[simp] theorem RS.then_ret (v : V) (ρ : List V) (h : H) (f : List V → H → RS) : (RS.ok (.ret v) ρ h).then f = .ok (.ret v) ρ h := rfl
@[simp] theorem RS.then_err (c : String) (ρ : List V) (h : H) (f : List V → H → RS) : (RS.err c ρ h).then f = .err c ρ h := rfl
@[simp] theorem RS.then_bad (f : List V → H → RS) : (RS.bad).then f = .bad := rfl

noncomputable def setAll (ρ : List V) : List Nat → List V → Option (List V)
  | [], [] => some ρ
  | x :: xs, v :: vs => setAll (ρ.set x v) xs vs
  | _, _ => Option.none

noncomputable def bind1 (x : Nat) (ρ : List V) (v : V) : Option (List V) := some (ρ.set x v)
noncomputable def bind2 (x y : Nat) (ρ : List V) (v : V) : Option (List V) :=
  match v with
  | .tup [a, b] => some ((ρ.set x a).set y b)
  | _ => Option.none

noncomputable def forL (w : Watch) (bindv : List V → V → Option (List V)) (body : List V → H → RS) : List V → List V → H → RS
  | [], ρ, h => if w.ok h then .ok .next ρ h else .bad
  | v :: vs, ρ, h => if w.ok h then (match bindv ρ v with
      | some ρ' => (body ρ' h).then fun ρ h => forL w bindv body vs ρ h
      | none => .bad) else .bad

noncomputable def whileL (test : List V → H → R V) (body : List V → H → RS) : Nat → List V → H → RS
  | 0, _, _ => .bad
  | n + 1, ρ, h => (test ρ h).st ρ fun b h => match truthy b with
    | some true => (body ρ h).then fun ρ h => whileL test body n ρ h
    | some false => .ok .next ρ h
    | none => .bad

/-- so often a while loop is gone round at most -/
noncomputable def turns : Nat := 1000000

-- does a cell stand in it
mutual
noncomputable def V.has (r : Nat) : V → Bool
  | .tup vs => V.hasAny r vs
  | .lst vs => V.hasAny r vs
  | .ref i => i == r
  | _ => false
noncomputable def V.hasAny (r : Nat) : List V → Bool
  | [] => false
  | v :: vs => V.has r v || V.hasAny r vs
end
noncomputable def Cell.has (r : Nat) : Cell → Bool
  | .list vs => V.hasAny r vs
  | .dict es => es.any fun e => V.has r e.1 || V.has r e.2

/-- the cell of a name, the last one and named nowhere else, is told by value -/
noncomputable def freeze (x : Nat) (ρ : List V) (h : H) : RS :=
  match ρ[x]? with
  | some (.ref i) => match h[i]? with
    | some (.list vs) =>
      if i + 1 = h.length && !(V.hasAny i (ρ.set x .undef)) && !(h.any (Cell.has i)) then .ok .next (ρ.set x (.lst vs)) h.dropLast else .bad
    | _ => .bad
  | _ => .bad

/-- the value of an expression that stands alone -/
noncomputable def noneS (v : V) (ρ : List V) (h : H) : RS :=
  match v with
  | .none => .ok .next ρ h
  | .int _ => .ok .next ρ h
  | _ => .bad
mutual
noncomputable def exS (q : Bool) (F : Fn) : PS → List V → H → RS
  | .expr e, ρ, h => (evE q F ρ e h).st ρ fun v h => noneS v ρ h
  | .asg x e, ρ, h => (evE q F ρ e h).st ρ fun v h => .ok .next (ρ.set x v) h
  | .asgT xs e, ρ, h => if !q then .bad else (evE q F ρ e h).st ρ fun v h => match v with
    | .tup vs => (match setAll ρ xs vs with
      | some ρ => .ok .next ρ h
      | Option.none => .bad)
    | _ => .bad
  | .setIdx o i e, ρ, h => (evE q F ρ e h).st ρ fun v h => (evE q F ρ o h).st ρ fun x h => (evE q F ρ i h).st ρ fun y h => match seti h x y v with
    | some h => .ok .next ρ h
    | Option.none => .bad
  | .setIdx2 o1 i1 o2 i2 e1 e2, ρ, h => (evE q F ρ e1 h).st ρ fun v h => (evE q F ρ e2 h).st ρ fun w h =>
      (evE q F ρ o1 h).st ρ fun x h => (evE q F ρ i1 h).st ρ fun y h => match seti h x y v with
        | some h => (evE q F ρ o2 h).st ρ fun x h => (evE q F ρ i2 h).st ρ fun y h => (match seti h x y w with
          | some h => .ok .next ρ h
          | Option.none => .bad)
        | Option.none => .bad
  | .ret e, ρ, h => (evE q F ρ e h).st ρ fun v h => .ok (.ret v) ρ h
  | .ifs t a b, ρ, h => (evE q F ρ t h).st ρ fun x h => match truthy x with
    | some true => exSs q F a ρ h
    | some false => exSs q F b ρ h
    | Option.none => .bad
  | .for1 x it body, ρ, h => if !q then .bad else (evIt q F ρ it h).st ρ fun vs h => forL vs.2 (bind1 x) (fun ρ h => exSs q F body ρ h) vs.1 ρ h
  | .for2 x y it body, ρ, h => if !q then .bad else (evIt q F ρ it h).st ρ fun vs h => forL vs.2 (bind2 x y) (fun ρ h => exSs q F body ρ h) vs.1 ρ h
  | .while t body, ρ, h => if !q then .bad else whileL (fun ρ h => evE q F ρ t h) (fun ρ h => exSs q F body ρ h) turns ρ h
  | .raise c, ρ, h => if !q then .bad else .err c ρ h
  | .try body c x handler, ρ, h => if !q then .bad else match exSs q F body ρ h with
    | .err d ρ h => if excNames.contains d && c == "RingError" then (match exSs false F handler (ρ.set x (.exc d)) h with
        | .ok f ρ h => .ok f (ρ.set x .undef) h
        | .err _ _ _ => .bad
        | .bad => .bad) else .bad
    | r => r
  | .pass, ρ, h => .ok .next ρ h
  | .frz x, ρ, h => freeze x ρ h
noncomputable def exSs (q : Bool) (F : Fn) : List PS → List V → H → RS
  | [], ρ, h => .ok .next ρ h
  | s :: ss, ρ, h => (exS q F s ρ h).then fun ρ h => exSs q F ss ρ h
end

noncomputable def RS.out (r : RS) : R V :=
  match r with
  | .ok (.ret v) _ h => .ok v h
  | .ok .next _ h => .ok .none h
  | .err c _ h => .err c h
  | .bad => .bad
@[simp] theorem RS.out_ret (v : V) (ρ : List V) (h : H) : (RS.ok (.ret v) ρ h).out = .ok v h := rfl
@[simp] theorem RS.out_next (ρ : List V) (h : H) : (RS.ok .next ρ h).out = .ok .none h := rfl
@[simp] theorem RS.out_err (c : String) (ρ : List V) (h : H) : (RS.err c ρ h).out = .err c h := rfl
@[simp] theorem RS.out_bad : (RS.bad).out = .bad := rfl

noncomputable def runD (q : Bool) (F : Fn) (d : FnDef) (vs : List V) (h : H) : R V :=
  if vs.length = d.arity then (exSs q F d.body (vs ++ List.replicate (d.slots - d.arity) .undef) h).out else .bad

/-- a def of the table, called; n: how deep calls may go -/
noncomputable def run (P : Tab) : Nat → Fn
  | 0 => fun _ _ _ _ => .bad
  | n + 1 => fun q f vs h => match P f with
    | some d => runD q (run P n) d vs h
    | Option.none => .bad

theorem run_succ {P : Tab} {f : String} {d : FnDef} (hf : P f = some d) (n : Nat) (q : Bool) (vs : List V) (h : H) :
    run P (n + 1) q f vs h = runD q (run P n) d vs h := by
  show (match P f with | some d => runD q (run P n) d vs h | Option.none => .bad) = _
  rw [hf]

end Mine

namespace Mine

theorem qE_1 (q : Bool) (F : Fn) (ρ : List V)  (h) : evE q F ρ .none h = .ok .none h := rfl
theorem qE_2 (q : Bool) (F : Fn) (ρ : List V) (b) (h) : evE q F ρ (.bool b) h = .ok (.bool b) h := rfl
theorem qE_3 (q : Bool) (F : Fn) (ρ : List V) (i) (h) : evE q F ρ (.int i) h = .ok (.int i) h := rfl
theorem qE_4 (q : Bool) (F : Fn) (ρ : List V) (s) (h) : evE q F ρ (.str s) h = .ok (.str s) h := rfl
theorem qE_5 (q : Bool) (F : Fn) (ρ : List V) (i) (h) : evE q F ρ (.var i) h = match ρ[i]? with
    | some .undef => .bad
    | some (.exc _) => .bad
    | some v => .ok v h
    | Option.none => .bad := rfl
theorem qE_6 (q : Bool) (F : Fn) (ρ : List V) (i) (u1) (h) : evE q F ρ (.glob u1 i) h = .ok (.int i) h := rfl
theorem qE_7 (q : Bool) (F : Fn) (ρ : List V) (op) (a) (b) (h) : evE q F ρ (.bin op a b) h = (evE q F ρ a h).bind fun x h => (evE q F ρ b h).bind fun y h => R.opt (pyBin op h x y) h := rfl
theorem qE_8 (q : Bool) (F : Fn) (ρ : List V) (i) (h) : evE q F ρ (.neg i) h = .ok (.int (-i)) h := rfl
theorem qE_9 (q : Bool) (F : Fn) (ρ : List V) (a) (h) : evE q F ρ (.not a) h = (evE q F ρ a h).bind fun x h => match truthy x with
    | some b => .ok (.bool (!b)) h
    | Option.none => .bad := rfl
theorem qE_10 (q : Bool) (F : Fn) (ρ : List V) (es) (h) : evE q F ρ (.and es) h = evAnd q F ρ es h := rfl
theorem qE_11 (q : Bool) (F : Fn) (ρ : List V) (es) (h) : evE q F ρ (.or es) h = evOr q F ρ es h := rfl
theorem qE_12 (q : Bool) (F : Fn) (ρ : List V) (t) (a) (b) (h) : evE q F ρ (.ite t a b) h = (evE q F ρ t h).bind fun x h => match truthy x with
    | some true => evE q F ρ a h
    | some false => evE q F ρ b h
    | Option.none => .bad := rfl
theorem qE_13 (q : Bool) (F : Fn) (ρ : List V) (op) (a) (b) (h) : evE q F ρ (.cmp op a b) h = (evE q F ρ a h).bind fun x h => (evE q F ρ b h).bind fun y h => R.opt ((pyCmp op h x y).map .bool) h := rfl
theorem qE_14 (q : Bool) (F : Fn) (ρ : List V) (op1) (op2) (a) (b) (c) (h) : evE q F ρ (.cmp2 op1 op2 a b c) h = (evE q F ρ a h).bind fun x h => (evE q F ρ b h).bind fun y h => match pyCmp op1 h x y with
    | some true => (evE q F ρ c h).bind fun z h => R.opt ((pyCmp op2 h y z).map .bool) h
    | some false => .ok (.bool false) h
    | Option.none => .bad := rfl
theorem qE_15 (q : Bool) (F : Fn) (ρ : List V) (es) (h) : evE q F ρ (.list es) h = (evEs q F ρ es h).bind fun vs h => R.opt (mkL vs) h := rfl
theorem qE_16 (q : Bool) (F : Fn) (ρ : List V) (es) (h) : evE q F ρ (.tup es) h = (evEs q F ρ es h).bind fun vs h => R.opt (mkT vs) h := rfl
theorem qE_17 (q : Bool) (F : Fn) (ρ : List V)  (h) : evE q F ρ .dict0 h = .ok .dct h := rfl
theorem qE_18 (q : Bool) (F : Fn) (ρ : List V) (a) (i) (h) : evE q F ρ (.idx a i) h = (evE q F ρ a h).bind fun x h => (evE q F ρ i h).bind fun y h => R.opt (pyIdx h x y) h := rfl
theorem qE_19 (q : Bool) (F : Fn) (ρ : List V) (a) (lo) (hi) (h) : evE q F ρ (.slice a lo hi) h = (evE q F ρ a h).bind fun x h => (evO q F ρ lo h).bind fun l h => (evO q F ρ hi h).bind fun u h => R.opt (pySlice h x l u) h := rfl
theorem qE_20 (q : Bool) (F : Fn) (ρ : List V) (u1) (u2) : evE q F ρ (.rev u1) u2 = .bad := rfl
theorem qE_21 (q : Bool) (F : Fn) (ρ : List V) (a) (ts) (h) : evE q F ρ (.isinst a ts) h = (evE q F ρ a h).bind fun x h => R.opt ((isTys h x ts).map .bool) h := rfl
theorem qE_22 (q : Bool) (F : Fn) (ρ : List V) (x) (t) (h) : evE q F ρ (.isexc x t) h = match ρ[x]? with
    | some (.exc c) => R.opt ((isExc c t).map .bool) h
    | _ => .bad := rfl
theorem qE_23 (q : Bool) (F : Fn) (ρ : List V) (f) (x) (h) : evE q F ρ (.callX f x) h = match ρ[x]? with
    | some (.exc c) => pcall h (F q f [.exc c] h)
    | _ => .bad := rfl
theorem qE_24 (q : Bool) (F : Fn) (ρ : List V) (f) (a) (h) : evE q F ρ (.bf f a) h = if (!q && f.walks) || !f.ready then .bad else (evE q F ρ a h).bind fun x h => R.opt (Mine.bf f h x) h := rfl
theorem qE_25 (q : Bool) (F : Fn) (ρ : List V) (a) (h) : evE q F ρ (.join0 a) h = if !q then .bad else (evE q F ρ a h).bind fun x h => R.opt ((litems h x).bind fun vs => (joinStrs vs).map .str) h := rfl
theorem qE_26 (q : Bool) (F : Fn) (ρ : List V) (elt) (x) (it) (cond) (h) : evE q F ρ (.comp elt x it cond) h = if !q then .bad else (evIt q F ρ it h).bind fun vs h =>
      match compL vs.2 (fun v h => evE q F (ρ.set x v) elt h) (fun v h => evC q F (ρ.set x v) cond h) vs.1 h with
      | .ok r h => R.opt (mkL r) h
      | _ => .bad := rfl
theorem qE_27 (q : Bool) (F : Fn) (ρ : List V) (k) (f) (args) (h) : evE q F ρ (.call k f args) h = (evEs q F ρ args h).bind fun vs h => if k then F q f vs h else pcall h (F q f vs h) := rfl
theorem qE_28 (q : Bool) (F : Fn) (ρ : List V) (a) (h) : evE q F ρ (.own a) h = (evE q F ρ a h).bind fun x h => match x with
    | .lst vs => .ok (.ref h.length) (h ++ [.list vs])
    | _ => .bad := rfl
theorem qE_29 (q : Bool) (F : Fn) (ρ : List V) (es) (h) : evE q F ρ (.newDict es) h = (evPs q F ρ es h).bind fun ps h => .ok (.ref h.length) (h ++ [.dict ps]) := rfl
theorem qE_30 (q : Bool) (F : Fn) (ρ : List V) (o) (a) (h) : evE q F ρ (.append o a) h = (evE q F ρ o h).bind fun x h => if lcell h x then (evE q F ρ a h).bind fun y h => onList h x fun vs => some (.none, vs ++ [y]) else .bad := rfl
theorem qE_31 (q : Bool) (F : Fn) (ρ : List V) (o) (a) (h) : evE q F ρ (.extend o a) h = (evE q F ρ o h).bind fun x h => if lcell h x then (evE q F ρ a h).bind fun y h => match y with
    | .lst ws => onList h x fun vs => some (.none, vs ++ ws)
    | _ => .bad
    else .bad := rfl
theorem qE_32 (q : Bool) (F : Fn) (ρ : List V) (o) (h) : evE q F ρ (.clear o) h = (evE q F ρ o h).bind fun x h => onList h x fun _ => some (.none, []) := rfl
theorem qE_33 (q : Bool) (F : Fn) (ρ : List V) (o) (a) (h) : evE q F ρ (.remove o a) h = (evE q F ρ o h).bind fun x h => if lcell h x then (evE q F ρ a h).bind fun y h => onList h x fun vs => (eraseEq h y vs).map fun r => (.none, r) else .bad := rfl
theorem qE_34 (q : Bool) (F : Fn) (ρ : List V) (o) (h) : evE q F ρ (.pop o) h = (evE q F ρ o h).bind fun x h => onList h x fun vs => (vs.getLast?).map fun v => (v, vs.dropLast) := rfl
theorem qE_35 (q : Bool) (F : Fn) (ρ : List V) (o) (i) (h) : evE q F ρ (.popAt o i) h = (evE q F ρ o h).bind fun x h => if lcell h x then (evE q F ρ i h).bind fun y h => match y with
    | .int k => onList h x fun vs => (place vs.length k).bind fun j => (vs[j]?).map fun v => (v, vs.eraseIdx j)
    | _ => .bad
    else .bad := rfl
theorem qE_36 (q : Bool) (F : Fn) (ρ : List V) (o) (k) (d) (h) : evE q F ρ (.get o k d) h = (evE q F ρ o h).bind fun x h => (evE q F ρ k h).bind fun y h => (evE q F ρ d h).bind fun z h =>
      onDict h x y fun _ es => .ok ((dfind y es).getD z) h := rfl
theorem qE_37 (q : Bool) (F : Fn) (ρ : List V) (o) (k) (d) (h) : evE q F ρ (.setdef o k d) h = (evE q F ρ o h).bind fun x h => if dcell h x then (evE q F ρ k h).bind fun y h => (evE q F ρ d h).bind fun z h => setDef h x y z else .bad := rfl
theorem qE_38 (q : Bool) (F : Fn) (ρ : List V) (o) (k) (h) : evE q F ρ (.setdefL o k) h = (evE q F ρ o h).bind fun x h => (evE q F ρ k h).bind fun y h =>
      onDict h x y fun r es => match dfind y es with
        | some v => .ok v h
        | Option.none => .ok (.ref h.length) (h.set r (.dict (es ++ [(y, .ref h.length)])) ++ [.list []]) := rfl
theorem qEs_1 (q : Bool) (F : Fn) (ρ : List V)  (h) : evEs q F ρ [] h = .ok [] h := rfl
theorem qEs_2 (q : Bool) (F : Fn) (ρ : List V) (e) (es) (h) : evEs q F ρ (e :: es) h = (evE q F ρ e h).bind fun v h => (evEs q F ρ es h).bind fun vs h => .ok (v :: vs) h := rfl
theorem qO_1 (q : Bool) (F : Fn) (ρ : List V)  (h) : evO q F ρ Option.none h = .ok Option.none h := rfl
theorem qO_2 (q : Bool) (F : Fn) (ρ : List V) (e) (h) : evO q F ρ (some e) h = (evE q F ρ e h).bind fun v h => .ok (some v) h := rfl
theorem qC_1 (q : Bool) (F : Fn) (ρ : List V)  (h) : evC q F ρ Option.none h = .ok (.bool true) h := rfl
theorem qC_2 (q : Bool) (F : Fn) (ρ : List V) (e) (h) : evC q F ρ (some e) h = evE q F ρ e h := rfl
theorem qI_1 (q : Bool) (F : Fn) (ρ : List V) (e) (h) : evIt q F ρ (.seq e) h = (evE q F ρ e h).bind fun x h => R.opt (iterOf h x) h := rfl
theorem qI_2 (q : Bool) (F : Fn) (ρ : List V) (a) (h) : evIt q F ρ (.range1 a) h = (evE q F ρ a h).bind fun x h => match x with
    | .int n => if -1000000 ≤ n ∧ n ≤ 1000000 then .ok (upto n, Option.none) h else .bad
    | _ => .bad := rfl
theorem qI_3 (q : Bool) (F : Fn) (ρ : List V) (a) (b) (h) : evIt q F ρ (.range2 a b) h = (evE q F ρ a h).bind fun x h => (evE q F ρ b h).bind fun y h => match x, y with
    | .int m, .int n => if -1000000 ≤ m ∧ m ≤ 1000000 ∧ -1000000 ≤ n ∧ n ≤ 1000000 then .ok (fromTo m n, Option.none) h else .bad
    | _, _ => .bad := rfl
theorem qI_4 (q : Bool) (F : Fn) (ρ : List V) (a) (b) (c) (h) : evIt q F ρ (.range3 a b c) h = (evE q F ρ a h).bind fun x h => (evE q F ρ b h).bind fun y h => (evE q F ρ c h).bind fun z h => match x, y, z with
    | .int m, .int n, .int k => if -1000000 ≤ m ∧ m ≤ 1000000 ∧ -1000000 ≤ n ∧ n ≤ 1000000 then
        rng3 m n k h else .bad
    | _, _, _ => .bad := rfl
theorem qI_5 (q : Bool) (F : Fn) (ρ : List V) (e) (h) : evIt q F ρ (.enum e) h = (evE q F ρ e h).bind fun x h => R.opt (enumOf h x) h := rfl
theorem qS_1 (q : Bool) (F : Fn) (e) (ρ) (h) : exS q F (.expr e) ρ h = (evE q F ρ e h).st ρ fun v h => noneS v ρ h := rfl
theorem qS_2 (q : Bool) (F : Fn) (x) (e) (ρ) (h) : exS q F (.asg x e) ρ h = (evE q F ρ e h).st ρ fun v h => .ok .next (ρ.set x v) h := rfl
theorem qS_3 (q : Bool) (F : Fn) (xs) (e) (ρ) (h) : exS q F (.asgT xs e) ρ h = if !q then .bad else (evE q F ρ e h).st ρ fun v h => match v with
    | .tup vs => (match setAll ρ xs vs with
      | some ρ => .ok .next ρ h
      | Option.none => .bad)
    | _ => .bad := rfl
theorem qS_4 (q : Bool) (F : Fn) (o) (i) (e) (ρ) (h) : exS q F (.setIdx o i e) ρ h = (evE q F ρ e h).st ρ fun v h => (evE q F ρ o h).st ρ fun x h => (evE q F ρ i h).st ρ fun y h => match seti h x y v with
    | some h => .ok .next ρ h
    | Option.none => .bad := rfl
theorem qS_5 (q : Bool) (F : Fn) (o1) (i1) (o2) (i2) (e1) (e2) (ρ) (h) : exS q F (.setIdx2 o1 i1 o2 i2 e1 e2) ρ h = (evE q F ρ e1 h).st ρ fun v h => (evE q F ρ e2 h).st ρ fun w h =>
      (evE q F ρ o1 h).st ρ fun x h => (evE q F ρ i1 h).st ρ fun y h => match seti h x y v with
        | some h => (evE q F ρ o2 h).st ρ fun x h => (evE q F ρ i2 h).st ρ fun y h => (match seti h x y w with
          | some h => .ok .next ρ h
          | Option.none => .bad)
        | Option.none => .bad := rfl
theorem qS_6 (q : Bool) (F : Fn) (e) (ρ) (h) : exS q F (.ret e) ρ h = (evE q F ρ e h).st ρ fun v h => .ok (.ret v) ρ h := rfl
theorem qS_7 (q : Bool) (F : Fn) (t) (a) (b) (ρ) (h) : exS q F (.ifs t a b) ρ h = (evE q F ρ t h).st ρ fun x h => match truthy x with
    | some true => exSs q F a ρ h
    | some false => exSs q F b ρ h
    | Option.none => .bad := rfl
theorem qS_8 (q : Bool) (F : Fn) (x) (it) (body) (ρ) (h) : exS q F (.for1 x it body) ρ h = if !q then .bad else (evIt q F ρ it h).st ρ fun vs h => forL vs.2 (bind1 x) (fun ρ h => exSs q F body ρ h) vs.1 ρ h := rfl
theorem qS_9 (q : Bool) (F : Fn) (x) (y) (it) (body) (ρ) (h) : exS q F (.for2 x y it body) ρ h = if !q then .bad else (evIt q F ρ it h).st ρ fun vs h => forL vs.2 (bind2 x y) (fun ρ h => exSs q F body ρ h) vs.1 ρ h := rfl
theorem qS_10 (q : Bool) (F : Fn) (t) (body) (ρ) (h) : exS q F (.while t body) ρ h = if !q then .bad else whileL (fun ρ h => evE q F ρ t h) (fun ρ h => exSs q F body ρ h) turns ρ h := rfl
theorem qS_11 (q : Bool) (F : Fn) (c) (ρ) (h) : exS q F (.raise c) ρ h = if !q then .bad else .err c ρ h := rfl
theorem qS_12 (q : Bool) (F : Fn) (body) (c) (x) (handler) (ρ) (h) : exS q F (.try body c x handler) ρ h = if !q then .bad else match exSs q F body ρ h with
    | .err d ρ h => if excNames.contains d && c == "RingError" then (match exSs false F handler (ρ.set x (.exc d)) h with
        | .ok f ρ h => .ok f (ρ.set x .undef) h
        | .err _ _ _ => .bad
        | .bad => .bad) else .bad
    | r => r := rfl
theorem qS_13 (q : Bool) (F : Fn)  (ρ) (h) : exS q F .pass ρ h = .ok .next ρ h := rfl
theorem qS_14 (q : Bool) (F : Fn) (x) (ρ) (h) : exS q F (.frz x) ρ h = freeze x ρ h := rfl
theorem qSs_1 (q : Bool) (F : Fn)  (ρ) (h) : exSs q F [] ρ h = .ok .next ρ h := rfl
theorem qSs_2 (q : Bool) (F : Fn) (s) (ss) (ρ) (h) : exSs q F (s :: ss) ρ h = (exS q F s ρ h).then fun ρ h => exSs q F ss ρ h := rfl
theorem qA_1 (q : Bool) (F : Fn) (ρ : List V) (h : H) : evAnd q F ρ [] h = .bad := rfl
theorem qA_2 (q : Bool) (F : Fn) (ρ : List V) (e : PE) (h : H) : evAnd q F ρ [e] h = evE q F ρ e h := rfl
theorem qA_3 (q : Bool) (F : Fn) (ρ : List V) (e d : PE) (es : List PE) (h : H) : evAnd q F ρ (e :: d :: es) h = (evE q F ρ e h).bind fun x h => match truthy x with
    | some true => evAnd q F ρ (d :: es) h
    | some false => .ok x h
    | Option.none => .bad := rfl
theorem qR_1 (q : Bool) (F : Fn) (ρ : List V) (h : H) : evOr q F ρ [] h = .bad := rfl
theorem qR_2 (q : Bool) (F : Fn) (ρ : List V) (e : PE) (h : H) : evOr q F ρ [e] h = evE q F ρ e h := rfl
theorem qR_3 (q : Bool) (F : Fn) (ρ : List V) (e d : PE) (es : List PE) (h : H) : evOr q F ρ (e :: d :: es) h = (evE q F ρ e h).bind fun x h => match truthy x with
    | some true => .ok x h
    | some false => evOr q F ρ (d :: es) h
    | Option.none => .bad := rfl
end Mine

namespace Mine
open PySem

/-- what the look at a text knows: the slots of the names, the kinds of the names, the exceptions' names -/
structure Ck where
  ctx : List (Str × Nat)
  names : List (Str × NameKind)
  fns : List String
  nums : List (String × Int)

noncomputable def visible (k : Option NameKind) : Bool := k == some .local || k == some .cell || k == some .free
noncomputable def Ck.var (c : Ck) (x : Str) (i : Nat) : Bool := c.ctx.lookup x == some i && visible (c.names.lookup x) && !(x == ("__debug__" : Str)) && !(x == ("__classdict__" : Str))
noncomputable def Ck.glob (c : Ck) (x : Str) : Bool := c.names.lookup x == some .globalImplicit && !(x == ("__debug__" : Str))

noncomputable def bopM : Bop → Operator
  | .add => .Add | .sub => .Sub | .mul => .Mult | .fdiv => .FloorDiv | .mod => .Mod | .pow => .Pow
noncomputable def copM : Cop → CmpOp
  | .eq => .Eq | .ne => .NotEq | .lt => .Lt | .le => .LtE | .gt => .Gt | .ge => .GtE | .is => .Is | .isNot => .IsNot | .isin => .In | .notIn => .NotIn

noncomputable def bopIs (op : Bop) (o : Operator) : Bool := decide (bopM op = o)
noncomputable def copIs (op : Cop) (o : CmpOp) : Bool := decide (copM op = o)

noncomputable def tyName : Ty → Str
  | .int => "int" | .bool => "bool" | .list => "list" | .tuple => "tuple" | .valueError => "ValueError"
  | .own c => Str.ofString c

noncomputable def isStar (e : Expr) : Bool := @Expr.casesOn (fun _ => Bool) e (fun _ _ _ => false) (fun _ _ _ => false) (fun _ _ _ _ => false) (fun _ _ _ => false) (fun _ _ _ _ => false) (fun _ _ _ _ => false) (fun _ _ _ => false) (fun _ _ _ => false) (fun _ _ _ _ => false) (fun _ _ _ _ => false) (fun _ _ _ _ _ => false) (fun _ _ _ _ => false) (fun _ _ => false) (fun _ _ => false) (fun _ _ => false) (fun _ _ _ _ => false) (fun _ _ _ _ => false) (fun _ _ _ _ => false) (fun _ _ => false) (fun _ _ _ => false) (fun _ _ _ => false) (fun _ _ _ => false) (fun _ _ => true) (fun _ _ => false) (fun _ _ => false) (fun _ _ _ => false) (fun _ _ _ _ => false)
noncomputable def freshOp (o : Bop) : Bool := false
  || decide (o = .add)
/-- forms that make a new list -/
noncomputable def freshE (e : PE) : Bool := @PE.casesOn (fun _ => Bool) e false (fun _ => false) (fun _ => false) (fun _ => false) (fun _ => false) (fun _ _ => false) (fun o _ _ => freshOp o) (fun _ => false) (fun _ => false) (fun _ => false) (fun _ => false) (fun _ _ _ => false) (fun _ _ _ => false) (fun _ _ _ _ _ => false) (fun _ => true) (fun _ => false) false (fun _ _ => false) (fun _ _ _ => true) (fun _ => false) (fun _ _ => false) (fun _ _ => false) (fun _ _ => false) (fun f _ => (decide (f = .list) || decide (f = .listRev))) (fun _ => false) (fun _ _ _ _ => true) (fun _ _ _ => false) (fun _ => false) (fun _ => false) (fun _ _ => false) (fun _ _ => false) (fun _ => false) (fun _ _ => false) (fun _ => false) (fun _ _ => false) (fun _ _ _ => false) (fun _ _ _ => false) (fun _ _ => false)
noncomputable def okBase (e : Expr) : Bool := @Expr.casesOn (fun _ => Bool) e (fun _ _ _ => true) (fun _ _ _ => true) (fun _ _ _ _ => true) (fun _ _ _ => true) (fun _ _ _ _ => true) (fun _ _ _ _ => true) (fun _ _ _ => true) (fun _ _ _ => true) (fun _ _ _ _ => true) (fun _ _ _ _ => true) (fun _ _ _ _ _ => true) (fun _ _ _ _ => true) (fun _ _ => true) (fun _ _ => true) (fun _ _ => true) (fun _ _ _ _ => true) (fun _ _ _ _ => false) (fun _ _ _ _ => true) (fun _ _ => true) (fun _ _ _ => true) (fun _ _ _ => true) (fun _ _ _ => true) (fun _ _ => true) (fun _ _ => true) (fun _ _ => true) (fun _ _ _ => true) (fun _ _ _ _ => true)
noncomputable def isSet (e : Expr) : Bool := @Expr.casesOn (fun _ => Bool) e (fun _ _ _ => false) (fun _ _ _ => false) (fun _ _ _ _ => false) (fun _ _ _ => false) (fun _ _ _ _ => false) (fun _ _ _ _ => false) (fun _ _ _ => false) (fun _ _ _ => true) (fun _ _ _ _ => false) (fun _ _ _ _ => false) (fun _ _ _ _ _ => false) (fun _ _ _ _ => false) (fun _ _ => false) (fun _ _ => false) (fun _ _ => false) (fun _ _ _ _ => false) (fun _ _ _ _ => false) (fun _ _ _ _ => false) (fun _ _ => false) (fun _ _ _ => false) (fun _ _ _ => false) (fun _ _ _ => false) (fun _ _ => false) (fun _ _ => false) (fun _ _ => false) (fun _ _ _ => false) (fun _ _ _ _ => false)

noncomputable def tyPl : Ty → Bool
  | .own _ | .valueError => false
  | _ => true

-- looks at a form, one by one
theorem no {α : Type} {P : Prop} {x : α} (h : (none : Option α) = some x) : P := nomatch h
theorem noB {P : Prop} (h : false = true) : P := nomatch h
theorem al {a b : Bool} (h : (a && b) = true) : a = true := (Bool.and_eq_true_iff.mp h).1
theorem ar {a b : Bool} (h : (a && b) = true) : b = true := (Bool.and_eq_true_iff.mp h).2
theorem nt {a : Bool} (h : (!a) = true) : a = false := by cases a; rfl; cases h
theorem dite_any {c : Prop} [Decidable c] {g : c → Bool} {G : Prop} (h : (dite c g fun _ => false) = true) (k : ∀ hc, g hc = true → G) : G :=
  if hc : c then k hc ((dif_pos hc).symm.trans h) else noB ((dif_neg hc).symm.trans h)
-- recognizers begin
noncomputable def xConst (e : Expr) (v0 : Const) (p : Bool) : Bool := dite (e.ctorIdx = 19) (fun hc => (@Expr.Constant.elim (fun _ => Bool) e hc fun v _ _ => decide (v = v0) && p)) fun _ => false
theorem const_any {e : Expr} {v0 : Const} {p : Bool} {G : Expr → Prop} (h : xConst e v0 p = true) (k : ∀ n q, p = true → G (.Constant v0 n q)) : G e :=
  dite_any h fun hc h => @Expr.Constant.elim (fun e => ∀ hc : e.ctorIdx = 19, (@Expr.Constant.elim (fun _ => Bool) e hc fun v _ _ => decide (v = v0) && p) = true → G e) e hc (fun v n q _ h => (show G (.Constant v n q) from by cases of_decide_eq_true (al h); exact k n q (ar h))) hc h
noncomputable def xName (e : Expr) (p : Str → Bool) : Bool := dite (e.ctorIdx = 23) (fun hc => (@Expr.Name.elim (fun _ => Bool) e hc fun x _ => p x)) fun _ => false
theorem name_any {e : Expr} {p : Str → Bool} {G : Expr → Prop} (h : xName e p = true) (k : ∀ x q, p x = true → G (.Name x q)) : G e :=
  dite_any h fun hc h => @Expr.Name.elim (fun e => ∀ hc : e.ctorIdx = 23, (@Expr.Name.elim (fun _ => Bool) e hc fun x _ => p x) = true → G e) e hc (fun x q _ h => k x q h) hc h
noncomputable def xNameIs (e : Expr) (x0 : Str) (p : Bool) : Bool := dite (e.ctorIdx = 23) (fun hc => (@Expr.Name.elim (fun _ => Bool) e hc fun x _ => decide (x = x0) && p)) fun _ => false
theorem nameIs_any {e : Expr} {x0 : Str} {p : Bool} {G : Expr → Prop} (h : xNameIs e x0 p = true) (k : ∀ q, p = true → G (.Name x0 q)) : G e :=
  dite_any h fun hc h => @Expr.Name.elim (fun e => ∀ hc : e.ctorIdx = 23, (@Expr.Name.elim (fun _ => Bool) e hc fun x _ => decide (x = x0) && p) = true → G e) e hc (fun x q _ h => (show G (.Name x q) from by cases of_decide_eq_true (al h); exact k q (ar h))) hc h
noncomputable def xBin (e : Expr) (o0 : Operator) (p : Expr → Expr → Bool) : Bool := dite (e.ctorIdx = 2) (fun hc => (@Expr.BinOp.elim (fun _ => Bool) e hc fun l o r _ => decide (o = o0) && p l r)) fun _ => false
theorem bin_any {e : Expr} {o0 : Operator} {p : Expr → Expr → Bool} {G : Expr → Prop} (h : xBin e o0 p = true) (k : ∀ l r q, p l r = true → G (.BinOp l o0 r q)) : G e :=
  dite_any h fun hc h => @Expr.BinOp.elim (fun e => ∀ hc : e.ctorIdx = 2, (@Expr.BinOp.elim (fun _ => Bool) e hc fun l o r _ => decide (o = o0) && p l r) = true → G e) e hc (fun l o r q _ h => (show G (.BinOp l o r q) from by cases of_decide_eq_true (al h); exact k l r q (ar h))) hc h
noncomputable def xUn (e : Expr) (o0 : UnaryOp) (p : Expr → Bool) : Bool := dite (e.ctorIdx = 3) (fun hc => (@Expr.UnaryOp.elim (fun _ => Bool) e hc fun o y _ => decide (o = o0) && p y)) fun _ => false
theorem un_any {e : Expr} {o0 : UnaryOp} {p : Expr → Bool} {G : Expr → Prop} (h : xUn e o0 p = true) (k : ∀ y q, p y = true → G (.UnaryOp o0 y q)) : G e :=
  dite_any h fun hc h => @Expr.UnaryOp.elim (fun e => ∀ hc : e.ctorIdx = 3, (@Expr.UnaryOp.elim (fun _ => Bool) e hc fun o y _ => decide (o = o0) && p y) = true → G e) e hc (fun o y q _ h => (show G (.UnaryOp o y q) from by cases of_decide_eq_true (al h); exact k y q (ar h))) hc h
noncomputable def xBool (e : Expr) (o0 : BoolOp) (p : List Expr → Bool) : Bool := dite (e.ctorIdx = 0) (fun hc => (@Expr.BoolOp.elim (fun _ => Bool) e hc fun o ys _ => decide (o = o0) && p ys)) fun _ => false
theorem bool_any {e : Expr} {o0 : BoolOp} {p : List Expr → Bool} {G : Expr → Prop} (h : xBool e o0 p = true) (k : ∀ ys q, p ys = true → G (.BoolOp o0 ys q)) : G e :=
  dite_any h fun hc h => @Expr.BoolOp.elim (fun e => ∀ hc : e.ctorIdx = 0, (@Expr.BoolOp.elim (fun _ => Bool) e hc fun o ys _ => decide (o = o0) && p ys) = true → G e) e hc (fun o ys q _ h => (show G (.BoolOp o ys q) from by cases of_decide_eq_true (al h); exact k ys q (ar h))) hc h
noncomputable def xCmp (e : Expr) (p : Expr → List CmpOp → List Expr → Bool) : Bool := dite (e.ctorIdx = 15) (fun hc => (@Expr.Compare.elim (fun _ => Bool) e hc fun l os rs _ => p l os rs)) fun _ => false
theorem cmp_any {e : Expr} {p : Expr → List CmpOp → List Expr → Bool} {G : Expr → Prop} (h : xCmp e p = true) (k : ∀ l os rs q, p l os rs = true → G (.Compare l os rs q)) : G e :=
  dite_any h fun hc h => @Expr.Compare.elim (fun e => ∀ hc : e.ctorIdx = 15, (@Expr.Compare.elim (fun _ => Bool) e hc fun l os rs _ => p l os rs) = true → G e) e hc (fun l os rs q _ h => k l os rs q h) hc h
noncomputable def xList (e : Expr) (p : List Expr → Bool) : Bool := dite (e.ctorIdx = 24) (fun hc => (@Expr.List.elim (fun _ => Bool) e hc fun xs _ => p xs)) fun _ => false
theorem list_any {e : Expr} {p : List Expr → Bool} {G : Expr → Prop} (h : xList e p = true) (k : ∀ xs q, p xs = true → G (.List xs q)) : G e :=
  dite_any h fun hc h => @Expr.List.elim (fun e => ∀ hc : e.ctorIdx = 24, (@Expr.List.elim (fun _ => Bool) e hc fun xs _ => p xs) = true → G e) e hc (fun xs q _ h => k xs q h) hc h
noncomputable def xTup (e : Expr) (p : List Expr → Bool) : Bool := dite (e.ctorIdx = 25) (fun hc => (@Expr.Tuple.elim (fun _ => Bool) e hc fun xs _ _ => p xs)) fun _ => false
theorem tup_any {e : Expr} {p : List Expr → Bool} {G : Expr → Prop} (h : xTup e p = true) (k : ∀ xs n q, p xs = true → G (.Tuple xs n q)) : G e :=
  dite_any h fun hc h => @Expr.Tuple.elim (fun e => ∀ hc : e.ctorIdx = 25, (@Expr.Tuple.elim (fun _ => Bool) e hc fun xs _ _ => p xs) = true → G e) e hc (fun xs n q _ h => k xs n q h) hc h
noncomputable def xDict (e : Expr) (p : List (Option Expr) → List Expr → Bool) : Bool := dite (e.ctorIdx = 6) (fun hc => (@Expr.Dict.elim (fun _ => Bool) e hc fun ks vs _ => p ks vs)) fun _ => false
theorem dict_any {e : Expr} {p : List (Option Expr) → List Expr → Bool} {G : Expr → Prop} (h : xDict e p = true) (k : ∀ ks vs q, p ks vs = true → G (.Dict ks vs q)) : G e :=
  dite_any h fun hc h => @Expr.Dict.elim (fun e => ∀ hc : e.ctorIdx = 6, (@Expr.Dict.elim (fun _ => Bool) e hc fun ks vs _ => p ks vs) = true → G e) e hc (fun ks vs q _ h => k ks vs q h) hc h
noncomputable def xSub (e : Expr) (p : Expr → Expr → Bool) : Bool := dite (e.ctorIdx = 21) (fun hc => (@Expr.Subscript.elim (fun _ => Bool) e hc fun v i _ => p v i)) fun _ => false
theorem sub_any {e : Expr} {p : Expr → Expr → Bool} {G : Expr → Prop} (h : xSub e p = true) (k : ∀ v i q, p v i = true → G (.Subscript v i q)) : G e :=
  dite_any h fun hc h => @Expr.Subscript.elim (fun e => ∀ hc : e.ctorIdx = 21, (@Expr.Subscript.elim (fun _ => Bool) e hc fun v i _ => p v i) = true → G e) e hc (fun v i q _ h => k v i q h) hc h
noncomputable def xSlice (e : Expr) (p : Option Expr → Option Expr → Option Expr → Bool) : Bool := dite (e.ctorIdx = 26) (fun hc => (@Expr.Slice.elim (fun _ => Bool) e hc fun l u d _ => p l u d)) fun _ => false
theorem slice_any {e : Expr} {p : Option Expr → Option Expr → Option Expr → Bool} {G : Expr → Prop} (h : xSlice e p = true) (k : ∀ l u d q, p l u d = true → G (.Slice l u d q)) : G e :=
  dite_any h fun hc h => @Expr.Slice.elim (fun e => ∀ hc : e.ctorIdx = 26, (@Expr.Slice.elim (fun _ => Bool) e hc fun l u d _ => p l u d) = true → G e) e hc (fun l u d q _ h => k l u d q h) hc h
noncomputable def xCall (e : Expr) (p : Expr → List Expr → List Keyword → Pos → Bool) : Bool := dite (e.ctorIdx = 16) (fun hc => (@Expr.Call.elim (fun _ => Bool) e hc fun f xs ks q => p f xs ks q)) fun _ => false
theorem call_any {e : Expr} {p : Expr → List Expr → List Keyword → Pos → Bool} {G : Expr → Prop} (h : xCall e p = true) (k : ∀ f xs ks q, p f xs ks q = true → G (.Call f xs ks q)) : G e :=
  dite_any h fun hc h => @Expr.Call.elim (fun e => ∀ hc : e.ctorIdx = 16, (@Expr.Call.elim (fun _ => Bool) e hc fun f xs ks q => p f xs ks q) = true → G e) e hc (fun f xs ks q _ h => k f xs ks q h) hc h
noncomputable def xAttr (e : Expr) (m0 : Str) (p : Expr → Pos → Bool) : Bool := dite (e.ctorIdx = 20) (fun hc => (@Expr.Attribute.elim (fun _ => Bool) e hc fun v m q => decide (m = m0) && p v q)) fun _ => false
theorem attr_any {e : Expr} {m0 : Str} {p : Expr → Pos → Bool} {G : Expr → Prop} (h : xAttr e m0 p = true) (k : ∀ v q, p v q = true → G (.Attribute v m0 q)) : G e :=
  dite_any h fun hc h => @Expr.Attribute.elim (fun e => ∀ hc : e.ctorIdx = 20, (@Expr.Attribute.elim (fun _ => Bool) e hc fun v m q => decide (m = m0) && p v q) = true → G e) e hc (fun v m q _ h => (show G (.Attribute v m q) from by cases of_decide_eq_true (al h); exact k v q (ar h))) hc h
noncomputable def xLC (e : Expr) (p : Expr → List Comprehension → Scope → Bool) : Bool := dite (e.ctorIdx = 8) (fun hc => (@Expr.ListComp.elim (fun _ => Bool) e hc fun y gs sc _ => p y gs sc)) fun _ => false
theorem lc_any {e : Expr} {p : Expr → List Comprehension → Scope → Bool} {G : Expr → Prop} (h : xLC e p = true) (k : ∀ y gs sc q, p y gs sc = true → G (.ListComp y gs sc q)) : G e :=
  dite_any h fun hc h => @Expr.ListComp.elim (fun e => ∀ hc : e.ctorIdx = 8, (@Expr.ListComp.elim (fun _ => Bool) e hc fun y gs sc _ => p y gs sc) = true → G e) e hc (fun y gs sc q _ h => k y gs sc q h) hc h
-- recognizers end
noncomputable def one {α : Type} (l : List α) (p : α → Bool) : Bool := @List.casesOn α (fun _ => Bool) l false fun x t => @List.casesOn α (fun _ => Bool) t (p x) fun _ _ => false
theorem one_any {α : Type} {l : List α} {p : α → Bool} {G : List α → Prop} (h : one l p = true) (k : ∀ x, p x = true → G [x]) : G l :=
  @List.casesOn α (fun l => one l p = true → G l) l noB (fun x t => @List.casesOn α (fun t => one (x :: t) p = true → G (x :: t)) t (k x) fun _ _ => noB) h
noncomputable def two {α : Type} (l : List α) (p : α → α → Bool) : Bool := @List.casesOn α (fun _ => Bool) l false fun x t => one t (p x)
theorem two_any {α : Type} {l : List α} {p : α → α → Bool} {G : List α → Prop} (h : two l p = true) (k : ∀ x y, p x y = true → G [x, y]) : G l :=
  @List.casesOn α (fun l => two l p = true → G l) l noB (fun x t h => one_any (G := fun t => G (x :: t)) h (k x)) h
theorem emp_any {α : Type} {l : List α} {G : List α → Prop} (h : l.isEmpty = true) (k : G []) : G l := by
  cases l with
  | nil => exact k
  | cons _ _ => cases h
noncomputable def oneO {α : Type} (o : Option α) (p : α → Bool) : Bool := @Option.casesOn α (fun _ => Bool) o false p
theorem oneO_any {α : Type} {o : Option α} {p : α → Bool} {G : Option α → Prop} (h : oneO o p = true) (k : ∀ x, p x = true → G (some x)) : G o :=
  @Option.casesOn α (fun o => oneO o p = true → G o) o noB k h
theorem none_any {α : Type} {o : Option α} {G : Option α → Prop} (h : o.isNone = true) (k : G none) : G o := by
  cases o with
  | none => exact k
  | some _ => cases h
/-- a call of a name, without keywords -/
noncomputable def xNamed (e : Expr) (f : Str) (p : List Expr → Bool) : Bool := xCall e fun g xs ks _ => ks.isEmpty && (xNameIs g f true && p xs)
theorem named_any {e : Expr} {f : Str} {p : List Expr → Bool} {G : Expr → Prop} (h : xNamed e f p = true) (k : ∀ xs q q', p xs = true → G (.Call (.Name f q) xs [] q')) : G e :=
  call_any h fun g xs ks q' h => emp_any (G := fun ks => G (.Call g xs ks q')) (al h) (nameIs_any (G := fun g => G (.Call g xs [] q')) (al (ar h)) fun q _ => k xs q q' (ar (ar h)))
/-- a call of a method, without keywords, on one line -/
noncomputable def xMeth (e : Expr) (m : Str) (p : Expr → List Expr → Bool) : Bool := xCall e fun g xs ks q' => ks.isEmpty && xAttr g m fun v q => q.endLine == q'.line && p v xs
theorem meth_any {e : Expr} {m : Str} {p : Expr → List Expr → Bool} {G : Expr → Prop} (h : xMeth e m p = true) (k : ∀ v xs q q', (q.endLine == q'.line) = true → p v xs = true → G (.Call (.Attribute v m q) xs [] q')) : G e :=
  call_any h fun g xs ks q' h => emp_any (G := fun ks => G (.Call g xs ks q')) (al h) (attr_any (G := fun g => G (.Call g xs [] q')) (ar h) fun v q h => k v xs q q' (al h) (ar h))
/-- a comprehension's one loop -/
noncomputable def xGen (gs : List Comprehension) (p : Str → Expr → List Expr → Bool) : Bool := one gs fun g => decide (g.is_async = 0) && xName g.target fun x => p x g.iter g.ifs
theorem gen_any {gs : List Comprehension} {p : Str → Expr → List Expr → Bool} {G : List Comprehension → Prop} (h : xGen gs p = true) (k : ∀ x iter ifs q, p x iter ifs = true → G [⟨.Name x q, iter, ifs, 0⟩]) : G gs :=
  one_any h fun g h => by
    obtain ⟨t, iter, ifs, d⟩ := g
    cases of_decide_eq_true (al h)
    exact name_any (G := fun t => G [⟨t, iter, ifs, 0⟩]) (ar h) fun x q h => k x iter ifs q h

noncomputable def ckTy (c : Ck) (t : Ty) (e : Expr) : Bool := xNameIs e (tyName t) true && c.glob (tyName t)
theorem ckTy_inv {c : Ck} {t : Ty} {e : Expr} (h : ckTy c t e = true) : ∃ p, e = .Name (tyName t) p ∧ c.glob (tyName t) = true :=
  nameIs_any (G := fun e => ∃ p, e = .Name (tyName t) p ∧ c.glob (tyName t) = true) (al h) fun q _ => ⟨q, rfl, ar h⟩
noncomputable def ckTys (c : Ck) : List Ty → List Expr → Bool
  | [], [] => true
  | t :: ts, e :: es => ckTy c t e && ckTys c ts es
  | _, _ => false

/-- a comprehension's own names, as its block sees them -/
noncomputable def relab (outer : List (Str × NameKind)) (names : List (Str × NameKind)) : List (Str × NameKind) :=
  names.map fun (n, k) => if (k == .free && outer.lookup n == some .cell) then (n, .cell) else (n, k)

noncomputable def scopeOk (c : Ck) (x : Str) (scope : Scope) : Bool :=
  scope.kind == .function && scope.names.all (fun p => (p.2 != .local || ((p.1 == x || p.1 == (".0" : Str)) && scope.names.lookup p.1 == some .local)) && (p.2 != .free || c.names.lookup p.1 == some .cell || c.names.lookup p.1 == some .free) && p.2 != .cell) &&
  scope.names.lookup x == some .local && !(x == (".0" : Str)) && c.ctx.lookup (".0" : Str) == none

noncomputable def Ck.inner (c : Ck) (x : Str) (i : Nat) (scope : Scope) : Ck := ⟨(x, i) :: c.ctx, relab c.names scope.names, c.fns, c.nums⟩

noncomputable def bfName : Bf → Str
  | .len => "len" | .list => "list" | .tuple => "tuple" | .sorted => "sorted" | .min => "min" | .sum => "sum" | .any => "any" | .all => "all" | .int => "int" | .str => "str"
  | .listRev => "list" | .listRange => "list"

mutual
noncomputable def ckE (c : Ck) : PE → Expr → Bool
  | .none, ex => xConst ex .none true
  | .bool b, ex => xConst ex (.bool b) true
  | .int i, ex => xConst ex (.int i) true
  | .str s, ex => xConst ex (.str (Str.ofString s)) true
  | .var i, ex => xName ex fun x => c.var x i
  | .glob g i, ex => xNameIs ex (Str.ofString g) true && (c.glob (Str.ofString g) && c.nums.contains (g, i))
  | .bin op a b, ex => xBin ex (bopM op) fun l r => ckE c a l && ckE c b r
  | .neg i, ex => xUn ex .USub fun y => xConst y (.int i) true
  | .not a, ex => xUn ex .Not fun y => ckE c a y
  | .and es, ex => xBool ex .And fun ys => ckEs c es ys
  | .or es, ex => xBool ex .Or fun ys => ckEs c es ys
  | .ite .., _ => false
  | .cmp op a b, ex => xCmp ex fun l os rs => one os fun o => one rs fun r => copIs op o && (ckE c a l && (ckE c b r && !isSet r))
  | .cmp2 o1 o2 a b d, ex => xCmp ex fun l os rs => two os fun u1 u2 => two rs fun r1 r2 => copIs o1 u1 && (copIs o2 u2 && (ckE c a l && (ckE c b r1 && (ckE c d r2 && !isSet r2))))
  | .list es, ex => xList ex fun xs => ckEs c es xs
  | .tup es, ex => xTup ex fun xs => ckEs c es xs
  | .dict0, ex => xDict ex fun ks vs => ks.isEmpty && vs.isEmpty
  | .idx a i, ex => xSub ex fun v s => ckE c a v && ckE c i s
  | .slice a lo hi, ex => xSub ex fun v s => xSlice s fun l u d => d.isNone && (ckE c a v && (ckO c lo l && ckO c hi u))
  | .rev .., _ => false
  | .isinst a ts, ex => xNamed ex "isinstance" fun xs => two xs fun y t => c.glob "isinstance" && (ckE c a y && (ts.all tyPl && ((xTup t fun es => ckTys c ts es && (decide (ts ≠ []) && decide (ts.length ≤ 1000))) || one ts fun u => ckTy c u t)))
  | .isexc i t, ex => xNamed ex "isinstance" fun xs => two xs fun y t' => c.glob "isinstance" && ((xName y fun x => c.var x i) && ckTy c t t')
  | .callX f i, ex => xNamed ex (Str.ofString f) fun xs => one xs fun v => c.glob (Str.ofString f) && (c.fns.contains f && xName v fun x => c.var x i)
  | .bf f a, ex => xNamed ex (bfName f) fun xs => one xs fun x => c.glob (bfName f) && (match f with
        | .listRev => false
        | .listRange => false
        | _ => ckE c a x)
  | .join0 .., _ => false
  | .comp elt i it cond, ex => xLC ex fun y gs sc => xGen gs fun x iter ifs => ckIt c it iter && (!isSet iter && (scopeOk c x sc && (c.ctx.all (fun p => p.2 != i) && (ckE (c.inner x i sc) elt y && ckC (c.inner x i sc) cond ifs))))
  | .call _ f args, ex => xNamed ex (Str.ofString f) fun xs => c.glob (Str.ofString f) && (c.fns.contains f && (ckEs c args xs && !args.isEmpty))
  | .own a, ex => freshE a && ckE c a ex
  | .newDict es, ex => xDict ex fun ks vs => ks.isEmpty && (vs.isEmpty && es.isEmpty)
  | .append o a, ex => xMeth ex "append" fun v xs => one xs fun x => okBase v && (ckE c o v && (ckE c a x && !isStar x))
  | .extend .., _ => false
  | .clear o, ex => xMeth ex "clear" fun v xs => okBase v && (ckE c o v && xs.isEmpty)
  | .remove .., _ => false
  | .pop .., _ => false
  | .popAt o a, ex => xMeth ex "pop" fun v xs => one xs fun x => okBase v && (ckE c o v && (ckE c a x && !isStar x))
  | .get .., _ => false
  | .setdef o k d, ex => xMeth ex "setdefault" fun v xs => two xs fun x y => okBase v && (ckE c o v && (ckE c k x && (ckE c d y && (!isStar x && !isStar y))))
  | .setdefL .., _ => false
noncomputable def ckEs (c : Ck) : List PE → List Expr → Bool
  | [], xs => xs.isEmpty
  | e :: es, xs => (match xs with | x :: xs => !isStar x && (ckE c e x && ckEs c es xs) | [] => false)
noncomputable def ckO (c : Ck) : Option PE → Option Expr → Bool
  | none, x => x.isNone
  | some e, x => oneO x fun x => ckE c e x
noncomputable def ckC (c : Ck) : Option PE → List Expr → Bool
  | none, xs => xs.isEmpty
  | some e, xs => one xs fun x => ckE c e x
noncomputable def ckIt (c : Ck) : PIt → Expr → Bool
  | .seq e, x => ckE c e x
  | .range1 a, x => xNamed x "range" fun xs => one xs fun y => c.glob "range" && ckE c a y
  | .range2 .., _ => false
  | .range3 .., _ => false
  | .enum .., _ => false
end

end Mine

namespace Mine
open PySem

/-- what the call stands on -/
structure Amb where
  prog : Program
  w : World
  B : Heap
  mg : Str → Option Value
  mb : Str → Option Value
  P : Tab
  K : List (Addr × Obj) := []
  /-- things that are in the making: no value bears them -/
  res : List Addr := []

abbrev Amb.M (am : Amb) : Model := model am.prog am.w

/-- an exception of the text's own class c stands at a; it has no context -/
noncomputable def ExcAt (am : Amb) (h : Heap) (c : String) (a : Addr) : Prop :=
  ∃ C o vs, am.mg (Str.ofString c) = some (.ref C) ∧ h.get? a = some o ∧ (o.cls = .ref C ∧ o.dict = none) ∧ o.data = .fields vs ∧ vs[2]? = some .none ∧ am.B.get? a = none

mutual
noncomputable def VR (am : Amb) (π : List Addr) (h : Heap) : V → Value → Prop
  | .undef, _ => False
  | .none, x => x = .none
  | .bool b, x => x = .bool b
  | .int i, x => ∃ t, x = .int i t
  | .str s, x => ∃ t, x = .str (Str.ofString s) t
  | .tup vs, x => ∃ a xs, x = .ref a ∧ (a ∉ π ∧ a ∉ am.res) ∧ h.IsTuple a (List.toArray xs) ∧ vs.length ≤ 1000000 ∧ VRs am π h vs xs
  | .lst vs, x => ∃ a xs, x = .ref a ∧ (a ∉ π ∧ a ∉ am.res) ∧ h.IsList a (List.toArray xs) ∧ vs.length ≤ 1000000 ∧ VRs am π h vs xs
  | .ref i, x => ∃ a, x = .ref a ∧ π[i]? = some a
  | .exc _, _ => False
  | .dct, x => ∃ a o es ep, x = .ref a ∧ (a ∉ π ∧ a ∉ am.res) ∧ h.get? a = some o ∧ o.cls = .type "dict" ∧ o.data = .dict es ep
noncomputable def VRs (am : Amb) (π : List Addr) (h : Heap) : List V → List Value → Prop
  | [], xs => xs = []
  | v :: vs, xs => ∃ x xs', xs = x :: xs' ∧ VR am π h v x ∧ VRs am π h vs xs'
end

theorem VRs.len {am : Amb} {π : List Addr} {h : Heap} : ∀ {vs : List V} {xs : List Value}, VRs am π h vs xs → xs.length = vs.length
  | [], xs, e => by simp only [VRs] at e; simp [e]
  | v :: vs, xs, e => by
    simp only [VRs] at e
    obtain ⟨x, xs', rfl, _, r⟩ := e
    simp [VRs.len r]

theorem VRs.get {am : Amb} {π : List Addr} {h : Heap} : ∀ {vs : List V} {xs : List Value}, VRs am π h vs xs → ∀ (i : Nat) (v : V), vs[i]? = some v → ∃ x, xs[i]? = some x ∧ VR am π h v x
  | [], _, _, i, v, hv => by simp at hv
  | v :: vs, xs, e, i, w, hw => by
    simp only [VRs] at e
    obtain ⟨x, xs', rfl, hx, r⟩ := e
    cases i with
    | zero => simp only [List.getElem?_cons_zero, Option.some.injEq] at hw ⊢; subst hw; exact ⟨x, rfl, hx⟩
    | succ i => simp only [List.getElem?_cons_succ] at hw ⊢; exact VRs.get r i w hw

theorem VRs.append {am : Amb} {π : List Addr} {h : Heap} : ∀ {vs ws : List V} {xs ys : List Value}, VRs am π h vs xs → VRs am π h ws ys → VRs am π h (vs ++ ws) (xs ++ ys)
  | [], ws, xs, ys, e, r => by simp only [VRs] at e; subst e; exact r
  | v :: vs, ws, xs, ys, e, r => by
    simp only [VRs] at e
    obtain ⟨x, xs', rfl, hx, e⟩ := e
    simp only [List.cons_append, VRs]
    exact ⟨x, xs' ++ ys, rfl, hx, VRs.append e r⟩

theorem VRs.single {am : Amb} {π : List Addr} {h : Heap} {v : V} {x : Value} (e : VR am π h v x) : VRs am π h [v] [x] := by
  simp only [VRs]; exact ⟨x, [], rfl, e, rfl⟩

theorem VRs.take {am : Amb} {π : List Addr} {h : Heap} : ∀ {vs : List V} {xs : List Value} (n : Nat), VRs am π h vs xs → VRs am π h (vs.take n) (xs.take n)
  | [], xs, n, e => by simp only [VRs] at e; subst e; simp [VRs]
  | v :: vs, xs, n, e => by
    simp only [VRs] at e
    obtain ⟨x, xs', rfl, hx, e⟩ := e
    cases n with
    | zero => simp [VRs]
    | succ n => simp only [List.take_succ_cons, VRs]; exact ⟨x, xs'.take n, rfl, hx, VRs.take n e⟩

theorem VRs.drop {am : Amb} {π : List Addr} {h : Heap} : ∀ {vs : List V} {xs : List Value} (n : Nat), VRs am π h vs xs → VRs am π h (vs.drop n) (xs.drop n)
  | [], xs, n, e => by simp only [VRs] at e; subst e; simp [VRs]
  | v :: vs, xs, n, e => by
    have e0 := e
    simp only [VRs] at e
    obtain ⟨x, xs', rfl, hx, e⟩ := e
    cases n with
    | zero => exact e0
    | succ n => simp only [List.drop_succ_cons]; exact VRs.drop n e

theorem VRs.reverse {am : Amb} {π : List Addr} {h : Heap} : ∀ {vs : List V} {xs : List Value}, VRs am π h vs xs → VRs am π h vs.reverse xs.reverse
  | [], xs, e => by simp only [VRs] at e; subst e; simp [VRs]
  | v :: vs, xs, e => by
    simp only [VRs] at e
    obtain ⟨x, xs', rfl, hx, e⟩ := e
    rw [List.reverse_cons, List.reverse_cons]
    exact VRs.append (VRs.reverse e) (VRs.single hx)

theorem VRs.flatten {am : Amb} {π : List Addr} {h : Heap} {vs : List V} {xs : List Value} (e : VRs am π h vs xs) : ∀ n : Nat, VRs am π h (List.replicate n vs).flatten (List.replicate n xs).flatten
  | 0 => by simp [VRs]
  | n + 1 => by rw [List.replicate_succ, List.replicate_succ, List.flatten_cons, List.flatten_cons]; exact VRs.append e (VRs.flatten e n)

theorem VRs.set {am : Amb} {π : List Addr} {h : Heap} : ∀ {vs : List V} {xs : List Value} (i : Nat) {v : V} {x : Value}, VRs am π h vs xs → VR am π h v x → VRs am π h (vs.set i v) (xs.set i x)
  | [], xs, i, v, x, e, _ => by simp only [VRs] at e; subst e; simp [VRs]
  | w :: vs, xs, i, v, x, e, hv => by
    simp only [VRs] at e
    obtain ⟨y, xs', rfl, hy, e⟩ := e
    cases i with
    | zero => simp only [List.set_cons_zero, VRs]; exact ⟨x, xs', rfl, hv, e⟩
    | succ i => simp only [List.set_cons_succ, VRs]; exact ⟨y, xs'.set i x, rfl, hy, VRs.set i e hv⟩

theorem VRs.eraseIdx {am : Amb} {π : List Addr} {h : Heap} : ∀ {vs : List V} {xs : List Value} (i : Nat), VRs am π h vs xs → VRs am π h (vs.eraseIdx i) (xs.eraseIdx i)
  | [], xs, i, e => by simp only [VRs] at e; subst e; simp [VRs]
  | w :: vs, xs, i, e => by
    simp only [VRs] at e
    obtain ⟨y, xs', rfl, hy, e⟩ := e
    cases i with
    | zero => simpa using e
    | succ i => simp only [List.eraseIdx_cons_succ, VRs]; exact ⟨y, xs'.eraseIdx i, rfl, hy, VRs.eraseIdx i e⟩

/-- nothing that stood is turned but the cells π and the slots of the frames Fs -/
structure Ext (π Fs : List Addr) (h h' : Heap) : Prop where
  keep : ∀ a o, h.get? a = some o → a ∉ π → a ∉ Fs → h'.get? a = some o
  slots : ∀ a o, h.get? a = some o → a ∉ π → ∃ sl, h'.get? a = some { o with slots := sl }
  alive : ∀ a o, h.get? a = some o → ∃ o', h'.get? a = some o'

theorem Ext.refl (π Fs : List Addr) (h : Heap) : Ext π Fs h h :=
  ⟨fun _ _ e _ _ => e, fun _ o e _ => ⟨o.slots, e⟩, fun _ o e => ⟨o, e⟩⟩

theorem Ext.of_keeps {π Fs : List Addr} {h h' : Heap} (k : ∀ b o, h.get? b = some o → h'.get? b = some o) : Ext π Fs h h' :=
  ⟨fun a o e _ _ => k a o e, fun a o e _ => ⟨o.slots, k a o e⟩, fun a o e => ⟨o, k a o e⟩⟩

theorem Ext.push (π Fs : List Addr) (h : Heap) (o : Obj) : Ext π Fs h (h.push o) :=
  Ext.of_keeps fun _ _ e => Heap.get?_push_of_some _ e

theorem Ext.list {π Fs : List Addr} {h h' : Heap} (x : Ext π Fs h h') {a : Addr} {xs : Array Value} (hl : h.IsList a xs) (ha : a ∉ π) : h'.IsList a xs := by
  obtain ⟨o, ho, hc, n, hd⟩ := hl
  obtain ⟨sl, hs⟩ := x.slots a o ho ha
  exact ⟨_, hs, hc, n, hd⟩
theorem Ext.tuple {π Fs : List Addr} {h h' : Heap} (x : Ext π Fs h h') {a : Addr} {xs : Array Value} (hl : h.IsTuple a xs) (ha : a ∉ π) : h'.IsTuple a xs := by
  obtain ⟨o, ho, hc, n, hd⟩ := hl
  obtain ⟨sl, hs⟩ := x.slots a o ho ha
  exact ⟨_, hs, hc, n, hd⟩

/-- from one state to a later one; cells may have come -/
structure Step (Fs : List Addr) (π : List Addr) (s : Shared) (π' : List Addr) (s' : Shared) : Prop where
  same : ∃ h' tk, s' = { s with heap := h', toks := tk }
  ext : Ext π Fs s.heap s'.heap
  grow : ∃ δ, π' = π ++ δ ∧ ∀ a ∈ δ, s.heap.get? a = none

theorem Step.refl (Fs π : List Addr) (s : Shared) : Step Fs π s π s := ⟨⟨s.heap, s.toks, rfl⟩, .refl .., [], by simp, by simp⟩

theorem Step.notin {Fs π π' : List Addr} {s s' : Shared} (x : Step Fs π s π' s') {a : Addr} {o : Obj} (ho : s.heap.get? a = some o) (ha : a ∉ π) : a ∉ π' := by
  obtain ⟨δ, rfl, hδ⟩ := x.grow
  intro hm
  rcases List.mem_append.mp hm with h1 | h1
  · exact ha h1
  · have := hδ a h1; rw [ho] at this; cases this

theorem Step.trans {Fs π₀ π₁ π₂ : List Addr} {s₀ s₁ s₂ : Shared} (x : Step Fs π₀ s₀ π₁ s₁) (y : Step Fs π₁ s₁ π₂ s₂) : Step Fs π₀ s₀ π₂ s₂ := by
  refine ⟨?_, ⟨fun a o e h1 h2 => ?_, fun a o e h1 => ?_, fun a o e => ?_⟩, ?_⟩
  · obtain ⟨h', tk, rfl⟩ := x.same
    obtain ⟨h'', tk', rfl⟩ := y.same
    exact ⟨h'', tk', rfl⟩
  · exact y.ext.keep a o (x.ext.keep a o e h1 h2) (x.notin e h1) h2
  · obtain ⟨sl, h3⟩ := x.ext.slots a o e h1
    obtain ⟨sl', h4⟩ := y.ext.slots a _ h3 (x.notin e h1)
    exact ⟨sl', h4⟩
  · obtain ⟨o', h3⟩ := x.ext.alive a o e
    exact y.ext.alive a o' h3
  · obtain ⟨δ, rfl, hδ⟩ := x.grow
    obtain ⟨δ', rfl, hδ'⟩ := y.grow
    refine ⟨δ ++ δ', by simp, fun a ha => ?_⟩
    rcases List.mem_append.mp ha with h1 | h1
    · exact hδ a h1
    · cases hq : s₀.heap.get? a with
      | none => rfl
      | some o =>
        obtain ⟨o', h3⟩ := x.ext.alive a o hq
        have := hδ' a h1; rw [h3] at this; cases this

/-- only toks and pushed objects -/
theorem Step.keeps {Fs π : List Addr} {s : Shared} {h' : Heap} {tk : Nat} (k : ∀ b o, s.heap.get? b = some o → h'.get? b = some o) : Step Fs π s π { s with heap := h', toks := tk } :=
  ⟨⟨h', tk, rfl⟩, .of_keeps k, [], by simp, by simp⟩
theorem Step.tok {Fs π : List Addr} {s : Shared} (tk : Nat) : Step Fs π s π { s with toks := tk } := Step.keeps fun _ _ e => e

/-- what a value's things need to stand on elsewhere -/
def Via (am am' : Amb) (π π' : List Addr) (h h' : Heap) : Prop :=
  (∀ a o, h.get? a = some o → (∀ us, o.data ≠ .fields us) → a ∉ π → a ∉ am.res → (∃ sl, h'.get? a = some { o with slots := sl }) ∧ a ∉ π' ∧ a ∉ am'.res) ∧ ∀ (i : Nat) (a : Addr), π[i]? = some a → π'[i]? = some a

mutual
theorem VR.via {am am' : Amb} {π π' : List Addr} {h h' : Heap} (k : Via am am' π π' h h') : ∀ {v : V} {y : Value}, VR am π h v y → VR am' π' h' v y
  | .undef, _, e => e
  | .none, _, e => e
  | .bool _, _, e => e
  | .int _, _, e => e
  | .str _, _, e => e
  | .exc _, _, e => e
  | .ref i, y, ⟨a, h1, h2⟩ => ⟨a, h1, k.2 i a h2⟩
  | .tup vs, y, ⟨a, xs, h1, ha, ⟨o, ho, hc, n, hd⟩, hz, e⟩ =>
    have q := k.1 a o ho (fun us z => by rw [hd] at z; cases z) ha.1 ha.2
    have ⟨sl, hs⟩ := q.1
    ⟨a, xs, h1, q.2, ⟨_, hs, hc, n, hd⟩, hz, VRs.via k e⟩
  | .lst vs, y, ⟨a, xs, h1, ha, ⟨o, ho, hc, n, hd⟩, hz, e⟩ =>
    have q := k.1 a o ho (fun us z => by rw [hd] at z; cases z) ha.1 ha.2
    have ⟨sl, hs⟩ := q.1
    ⟨a, xs, h1, q.2, ⟨_, hs, hc, n, hd⟩, hz, VRs.via k e⟩
  | .dct, y, ⟨a, o, es, ep, h1, ha, ho, hc, hd⟩ =>
    have q := k.1 a o ho (fun us z => by rw [hd] at z; cases z) ha.1 ha.2
    have ⟨sl, hs⟩ := q.1
    ⟨a, _, es, ep, h1, q.2, hs, hc, hd⟩
theorem VRs.via {am am' : Amb} {π π' : List Addr} {h h' : Heap} (k : Via am am' π π' h h') : ∀ {vs : List V} {ys : List Value}, VRs am π h vs ys → VRs am' π' h' vs ys
  | [], _, e => e
  | v :: vs, ys, ⟨y, ys', h1, h2, h3⟩ => ⟨y, ys', h1, VR.via k h2, VRs.via k h3⟩
end

theorem Step.via {am : Amb} {Fs π π' : List Addr} {s s' : Shared} (x : Step Fs π s π' s') : Via am am π π' s.heap s'.heap :=
  ⟨fun a o ho _ h1 h2 => ⟨x.ext.slots a o ho h1, x.notin ho h1, h2⟩, fun i a ha => by
    obtain ⟨δ, rfl, _⟩ := x.grow
    rw [List.getElem?_append_left (List.getElem?_eq_some_iff.mp ha).1]; exact ha⟩
theorem VR.step {am : Amb} {Fs π π' : List Addr} {s s' : Shared} (x : Step Fs π s π' s') {v : V} {y : Value} (e : VR am π s.heap v y) : VR am π' s'.heap v y := e.via x.via
theorem VRs.step {am : Amb} {Fs π π' : List Addr} {s s' : Shared} (x : Step Fs π s π' s') {vs : List V} {ys : List Value} (e : VRs am π s.heap vs ys) : VRs am π' s'.heap vs ys := e.via x.via

/-- a list without a dict of its own -/
noncomputable def PL (h : Heap) (a : Addr) (xs : List Value) : Prop := ∃ o n, h.get? a = some o ∧ o.cls = .type "list" ∧ o.dict = none ∧ o.data = .seq (List.toArray xs) n
theorem PL.is {h : Heap} {a : Addr} {xs : List Value} (x : PL h a xs) : h.IsList a (List.toArray xs) := let ⟨o, n, ho, hc, _, hd⟩ := x; ⟨o, ho, hc, n, hd⟩

/-- the things that a cell holds -/
noncomputable def Cell.vals : Cell → List V
  | .list vs => vs
  | .dict es => es.flatMap fun e => [e.1, e.2]
/-- the hash of a key -/
noncomputable def hashV (k : V) : Int := match keyT k with
  | some is => reduceHash (Builtin.Tuple.tupleHashOf (is.map hashInt))
  | none => 0
noncomputable def ents : List (V × V) → List Value → List DictEntry
  | (k, _) :: es, x :: y :: xs => ⟨hashV k, x, y⟩ :: ents es xs
  | _, _ => []
/-- keys of one kind, each once -/
noncomputable def dgood (es : List (V × V)) : Prop := (es.map (·.1)).Nodup ∧ ∀ e ∈ es, (keyT e.1).isSome = true
/-- what a cell's object is -/
noncomputable def CK : Cell → Addr → Obj → List Value → Prop
  | .list _, _, o, xs => ∃ n, o.cls = .type "list" ∧ o.dict = none ∧ o.data = .seq (List.toArray xs) n
  | .dict es, a, o, xs => a ≠ sysModules ∧ ∃ arr ep, o.cls = .type "dict" ∧ o.dict = none ∧ o.data = .dict arr ep ∧ arr.toList = ents es xs ∧ dgood es
theorem CK.slots {c : Cell} {a : Addr} {o : Obj} {xs : List Value} (sl : Array (Option Value)) (x : CK c a o xs) : CK c a { o with slots := sl } xs := by
  cases c <;> exact x
theorem CK.nf {c : Cell} {a : Addr} {o : Obj} {xs : List Value} (x : CK c a o xs) : ∀ us, o.data ≠ .fields us := fun us q => by
  cases c with
  | list vs => obtain ⟨n, _, _, hd⟩ := x; rw [hd] at q; cases q
  | dict es => obtain ⟨_, arr, ep, _, _, hd, _⟩ := x; rw [hd] at q; cases q
/-- a cell -/
noncomputable def CellAt (am : Amb) (π : List Addr) (h : Heap) (c : Cell) (a : Addr) : Prop := ∃ o xs, h.get? a = some o ∧ CK c a o xs ∧ c.vals.length ≤ 1000000 ∧ VRs am π h c.vals xs
theorem CellAt.list {am : Amb} {π : List Addr} {h : Heap} {vs : List V} {a : Addr} (x : CellAt am π h (.list vs) a) : ∃ xs, PL h a xs ∧ vs.length ≤ 1000000 ∧ VRs am π h vs xs := by
  obtain ⟨o, xs, ho, ⟨n, r⟩, h2, h3⟩ := x
  exact ⟨xs, ⟨o, n, ho, r⟩, h2, h3⟩
theorem CellAt.ofList {am : Amb} {π : List Addr} {h : Heap} {vs : List V} {a : Addr} {xs : List Value} (x : PL h a xs) (h2 : vs.length ≤ 1000000) (h3 : VRs am π h vs xs) : CellAt am π h (.list vs) a := by
  obtain ⟨o, n, ho, r⟩ := x
  exact ⟨o, xs, ho, ⟨n, r⟩, h2, h3⟩
theorem CellAt.obj {am : Amb} {π : List Addr} {h : Heap} {c : Cell} {a : Addr} (x : CellAt am π h c a) : ∃ o, h.get? a = some o ∧ ∀ us, o.data ≠ .fields us := by
  obtain ⟨o, xs, ho, hk, _⟩ := x
  exact ⟨o, ho, hk.nf⟩
/-- the same cell elsewhere -/
theorem CellAt.via {am am' : Amb} {π π' : List Addr} {h h' : Heap} (k : Via am am' π π' h h') {c : Cell} {a : Addr} (ka : ∀ o, h.get? a = some o → (∀ us, o.data ≠ .fields us) → ∃ sl, h'.get? a = some { o with slots := sl }) (x : CellAt am π h c a) : CellAt am' π' h' c a := by
  obtain ⟨o, xs, ho, hk, h2, h3⟩ := x
  obtain ⟨sl, hs⟩ := ka o ho hk.nf
  exact ⟨_, xs, hs, hk.slots sl, h2, h3.via k⟩

/-- the cells -/
structure HR (am : Amb) (stack : List Env) (π : List Addr) (H : H) (h : Heap) : Prop where
  base : am.B.StaysIn h
  frames : h.FunFrames am.B stack
  len : π.length = H.length
  nodup : π.Nodup
  res : ∀ a ∈ am.res, ∃ o, h.get? a = some o ∧ ∀ us, o.data ≠ .fields us
  off : ∀ a ∈ π, am.B.get? a = none ∧ a ∉ stack.filterMap (·.frame)
  cell : ∀ (i : Nat) (c : Cell) (a : Addr), H[i]? = some c → π[i]? = some a → CellAt am π h c a

end Mine

namespace Mine
open PySem PySem.W

abbrev Fs (stack : List Env) : List Addr := stack.filterMap (·.frame)

/-- an exception on its way: fl is none ahead of its first entry, else its flight -/
noncomputable def XAt (base h : Heap) (e : Addr) (C : Value) (fl : Option Value) : Prop :=
  base.StaysIn h ∧ base.get? e = none ∧ ∃ oe vs, h.get? e = some oe ∧ (oe.cls = C ∧ oe.dict = none) ∧ oe.data = .fields vs ∧ vs[2]? = some .none ∧
    (match fl with
      | none => vs[1]? = some .none
      | some f => ∃ T oT ts, vs[1]? = some (.ref T) ∧ base.get? T = none ∧ T ≠ e ∧ h.get? T = some oT ∧ oT.data = .fields ts ∧ ts[3]? = some f)

theorem none_of_stays {base B : Heap} (k : base.StaysIn B) {b : Addr} (e : B.get? b = none) : base.get? b = none := by
  cases q : base.get? b with
  | none => rfl
  | some o => have := k b o q; rw [e] at this; cases this

theorem XAt.mono {base B h : Heap} {e : Addr} {C : Value} {fl : Option Value} (k : base.StaysIn B) (x : XAt B h e C fl) : XAt base h e C fl := by
  refine hold fun _ k_ => ?_
  obtain ⟨h1, h2, oe, vs, h3, h4, h5, h6, h7⟩ := x
  refine k_ ?_
  refine ⟨fun b o q => h1 b o (k b o q), none_of_stays k h2, oe, vs, h3, h4, h5, h6, ?_⟩
  cases fl with
  | none => exact h7
  | some f =>
    refine hold fun _ k_ => ?_
    obtain ⟨T, oT, ts, t1, t2, t3⟩ := h7
    refine k_ ?_
    exact ⟨T, oT, ts, t1, none_of_stays k t2, t3⟩

/-- what an exception's passing turns: its own records, and slots -/
structure Touch (base : Heap) (h h' : Heap) : Prop where
  stays : base.StaysIn h'
  slots : h.UpToSlots h'

theorem Touch.trans {base h₁ h₂ h₃ : Heap} (x : Touch base h₁ h₂) (y : Touch base h₂ h₃) : Touch base h₁ h₃ := ⟨y.stays, x.slots.trans y.slots⟩


theorem dict_mapFields (o : Obj) (f) : (o.mapFields f).dict = o.dict := by
  obtain ⟨c, d, dt, sl⟩ := o; cases dt <;> rfl

theorem funFrames_slots {h h' base : Heap} (k : h.UpToSlots h') {l : List Env} (x : h.FunFrames base l) : h'.FunFrames base l :=
  x.of_keeps fun b o ho hn => let ⟨_, e⟩ := k b o ho hn; ⟨_, e, rfl⟩

section
variable {M : Model} {A : Around} {E : Value → Shared → Prop} {s : Shared}

theorem x_entry {base : Heap} {env : Env} {outer : List Env} {L e : Addr} {oe : Obj} {vs : Array Value} {head : Value} {hadNext : Bool} {Q : Unit → Shared → Prop}
    (hfr : A.frames = some (env :: outer)) (hl : s.heap.FunFrames base (env :: outer)) (hf : env.frame = some L)
    (he : s.heap.get? e = some oe) (hkb : base.StaysIn s.heap) (hen : base.get? e = none) (hdi : oe.dict = none) (hd : oe.data = .fields vs) (hsz : 1 < vs.size) (h2 : vs[2]? = some .none)
    (h : ∀ h', XAt base h' e oe.cls (some (rawInt L)) → Touch base s.heap h' → Q () { s with heap := h' }) :
    wpAny M A (do let a ← frameOf env; let pl ← entryPlaceOf L hadNext; let b ← EntryCells.newEntry head a .none (rawInt L) .none pl; setField (.ref e) 1 b) Q E s := by
  have hene : e ∉ (env :: outer).filterMap (·.frame) := fun hm => by
    refine hold fun _ k_ => ?_
    obtain ⟨_, o, ho, hnf⟩ := hl.mem hm
    refine k_ ?_
    rw [he] at ho; injection ho with ho; subst ho; exact hnf vs hd
  refine wpAny_bind (wpAny_frameOf_fun hfr hl hf fun h₁ hs₁ => ?_)
  refine wpAny_bind (wpAny_entryPlaceOf fun pl hpl => ?_)
  unfold EntryCells.newEntry newFields
  refine wpAny_bind (wpAny_newObj_type ?_ (hpl.sizeOk5 _ _ _ _ _))
  have he₁ : h₁.get? e = some oe := (hs₁.2.1 e hene).trans he
  have kb₁ : base.StaysIn h₁ := fun b o hbo => (hs₁.2.1 b fun hm => by rw [(hl.mem hm).1] at hbo; cases hbo).trans (hkb b o hbo)
  generalize hT : ({ cls := .type "traceback", dict := none, data := .fields ([head, .ref L, .none, rawInt L, .none] ++ (if pl.isEmpty then List.replicate 6 Value.none else pl)).toArray } : Obj) = T
  have hTd : T.data = .fields ([head, .ref L, .none, rawInt L, .none] ++ (if pl.isEmpty then List.replicate 6 Value.none else pl)).toArray := by rw [← hT]
  have he₂ := Heap.get?_push_of_some (h := h₁) T he₁
  refine wpAny_setField he₂ hd hsz (h _ ?_ ?_)
  all_goals
    have hTe : h₁.objs.size ≠ e := Nat.ne_of_gt (Heap.lt_size he₁)
    have hd₃ := Obj.data_mapFields hd (·.setIfInBounds 1 (Value.ref h₁.objs.size))
    have he₃ := Heap.get?_update_self (Obj.mapFields (·.setIfInBounds 1 (Value.ref h₁.objs.size))) he₂ (Obj.isFreed_of_fields hd₃)
    have hT₃ := (Heap.get?_update_other (h₁.push T) (Obj.mapFields (·.setIfInBounds 1 (Value.ref h₁.objs.size))) (Ne.symm hTe)).trans (Heap.get?_push_size h₁ (Obj.isFreed_of_fields hTd))
    have keep : ∀ b o, b ≠ e → h₁.get? b = some o → ((h₁.push T).update e (Obj.mapFields (·.setIfInBounds 1 (Value.ref h₁.objs.size)))).get? b = some o :=
      fun b o hbe hb => by
        rw [Heap.get?_update_other _ _ (Ne.symm hbe)]
        exact Heap.get?_push_of_some _ hb
    have noRecord : ∀ b o, s.heap.get? b = some o → (∀ vs, o.data ≠ .fields vs) → b ≠ e := fun b o hb hnf q => by
      rw [q, he] at hb; injection hb with hb; subst hb; exact hnf vs hd
    have kb₂ : base.StaysIn ((h₁.push T).update e (Obj.mapFields (·.setIfInBounds 1 (Value.ref h₁.objs.size)))) := fun b o hbo => keep b o (fun q => by rw [q, hen] at hbo; cases hbo) (kb₁ b o hbo)
  · refine ⟨kb₂, hen, _, _, he₃, ⟨Obj.cls_mapFields _ _, (dict_mapFields _ _).trans hdi⟩, hd₃, by rw [Array.getElem?_setIfInBounds_ne (by decide)]; exact h2, h₁.objs.size, _, _, by simp [hsz], kb₁.fresh, hTe, hT₃, hTd, ?_⟩
    first | (simp; done) | (rcases hpl with rfl | ⟨_, _, _, _, _, _, _, rfl⟩ <;> simp)
  · refine ⟨kb₂, fun b o hb hnf => ?_⟩
    obtain ⟨sl, hs⟩ := hs₁.2.2 b o hb
    exact ⟨sl, keep b _ (noRecord b o hb hnf) hs⟩

theorem x_note {base : Heap} {env : Env} {outer : List Env} {L e : Addr} {C : Value} {fl : Option Value} {Q : Unit → Shared → Prop}
    (hfr : A.frames = some (env :: outer)) (hl : s.heap.FunFrames base (env :: outer)) (hf : env.frame = some L) (x : XAt base s.heap e C fl)
    (h : ∀ h', XAt base h' e C (some (rawInt L)) → Touch base s.heap h' → Q () { s with heap := h' }) : wpAny M A (noteFrame (.ref e) env) Q E s := by
  refine hold fun _ k_ => ?_
  obtain ⟨h1, h2, oe, vs, h3, h4, h5, h6, h7⟩ := id x
  refine k_ ?_
  have hz2 : 2 < vs.size := (Array.getElem?_eq_some_iff.mp h6).1
  obtain ⟨rfl, h4d⟩ := h4
  unfold noteFrame
  simp only [hf]
  cases fl with
  | none =>
    refine wpAny_bind (wpAny_field h3 h5 h7 ?_)
    rw [if_neg (by decide)]
    exact x_entry hfr hl hf h3 h1 h2 h4d h5 (by omega) h6 h
  | some f =>
    refine hold fun _ k_ => ?_
    obtain ⟨T, oT, ts, t1, t2, t3, t4, t5, t6⟩ := h7
    refine k_ ?_
    refine wpAny_bind (wpAny_field h3 h5 t1 ?_)
    rw [if_pos (show (Value.ref T != Value.none) = true from by simp)]
    refine wpAny_bind (wpAny_field t4 t5 t6 ?_)
    by_cases hq : (f == rawInt L) = true
    · rw [if_pos hq]
      have : f = rawInt L := eq_of_beq hq
      subst this
      refine hold fun _ k_ => ?_
      obtain ⟨hh, hg, hd, ht, ho⟩ := s
      refine k_ ?_
      exact wpAny_pure (h hh x ⟨h1, .refl _⟩)
    · rw [if_neg hq]
      refine wpAny_bind (wpAny_setField t4 t5 (Array.getElem?_eq_some_iff.mp t6).1 ?_)
      have other : ∀ b, b ≠ T → (s.heap.update T (Obj.mapFields (·.setIfInBounds 3 Value.none))).get? b = s.heap.get? b := fun b hb => Heap.get?_update_other _ _ (Ne.symm hb)
      have noRecord : ∀ b o, s.heap.get? b = some o → (∀ vs, o.data ≠ .fields vs) → b ≠ T := fun b o hb hnf q => by
        rw [q, t4] at hb; injection hb with hb; subst hb; exact hnf ts t5
      refine x_entry (s := { s with heap := s.heap.update T (Obj.mapFields (·.setIfInBounds 3 Value.none)) }) hfr (hl.of_keeps fun b o hb hnf => ⟨o, (other b (noRecord b o hb hnf)).trans hb, rfl⟩) hf ((other e (Ne.symm t3)).trans h3)
        (fun b o hbo => (other b fun q => by rw [q, t2] at hbo; cases hbo).trans (h1 b o hbo)) h2 h4d h5 (by omega) h6 fun h' y1 y2 => h h' y1 ⟨y2.stays, fun b o hb hnf => y2.slots b o ((other b (noRecord b o hb hnf)).trans hb) hnf⟩

theorem x_flight {base : Heap} {e : Addr} {C f : Value} {fr : Option Addr} {Q : Unit → Shared → Prop}
    (x : XAt base s.heap e C (some f))
    (h : ∀ h', XAt base h' e C (some (fr.elim .none fun f => rawInt f)) → Touch base s.heap h' → Q () { s with heap := h' }) : wpAny M A (setFlight (.ref e) fr) Q E s := by
  refine hold fun _ k_ => ?_
  obtain ⟨h1, h2, oe, vs, h3, h4, h5, h6, T, oT, ts, t1, t2, t3, t4, t5, t6⟩ := id x
  refine k_ ?_
  have hsz3 : 3 < ts.size := (Array.getElem?_eq_some_iff.mp t6).1
  have other : ∀ b, b ≠ T → (s.heap.update T (Obj.mapFields (·.setIfInBounds 3 (fr.elim Value.none fun f => rawInt f)))).get? b = s.heap.get? b :=
    fun b hb => Heap.get?_update_other _ _ (Ne.symm hb)
  have noRecord : ∀ b o, s.heap.get? b = some o → (∀ vs, o.data ≠ .fields vs) → b ≠ T := fun b o hb hnf q => by
    rw [q, t4] at hb; injection hb with hb; subst hb; exact hnf ts t5
  have kb : base.StaysIn (s.heap.update T (Obj.mapFields (·.setIfInBounds 3 (fr.elim Value.none fun f => rawInt f)))) := fun b o hbo => (other b fun q => by rw [q, t2] at hbo; cases hbo).trans (h1 b o hbo)
  unfold setFlight
  refine wpAny_bind (wpAny_field h3 h5 t1 ?_)
  rw [if_pos (show (Value.ref T != Value.none) = true from by simp)]
  refine wpAny_setField t4 t5 hsz3 (h _ ?_ ⟨kb, fun b o hb hnf => ⟨o.slots, (other b (noRecord b o hb hnf)).trans hb⟩⟩)
  exact ⟨kb, h2, oe, vs, (other e (Ne.symm t3)).trans h3, h4, h5, h6, T, _, _, t1, t2, t3, Heap.get?_update_self _ t4 (Obj.isFreed_of_fields (Obj.data_mapFields t5 _)), Obj.data_mapFields t5 _, by simp [hsz3]⟩

theorem x_leave {base : Heap} {env : Env} {outer : List Env} {L e : Addr} {C : Value} {fl : Option Value} {Q : Unit → Shared → Prop}
    (hfr : A.frames = some (env :: outer)) (hl : s.heap.FunFrames base (env :: outer)) (hf : env.frame = some L) (x : XAt base s.heap e C fl)
    (h : ∀ h', XAt base h' e C (some .none) → Touch base s.heap h' → Q () { s with heap := h' }) : wpAny M A (leaving env (.ref e)) Q E s := by
  unfold leaving
  refine wpAny_bind (x_note hfr hl hf x fun h₁ x₁ k₁ => ?_)
  exact x_flight (fr := none) x₁ fun h₂ x₂ k₂ => h h₂ x₂ (k₁.trans k₂)
end

end Mine

namespace Mine
open PySem PySem.W

/-- a good end: what the evaluator told, told of the heap -/
inductive OkP (am : Amb) (stack : List Env) {α β : Type} (Rel : List Addr → Heap → β → α → Prop) (π : List Addr) (s : Shared) (r : R β) (a : α) (s' : Shared) : Prop
  | mk (b : β) (H' : H) (π' : List Addr) (h1 : r = .ok b H') (h2 : Step (Fs stack) π s π' s') (h3 : HR am stack π' H' s'.heap) (h4 : Rel π' s'.heap b a)

/-- what an exception finds as it stood -/
abbrev ground (stack : List Env) (π : List Addr) (h : Heap) : Heap := hideAll h (π ++ Fs stack)

inductive ErP (am : Amb) (stack : List Env) {β : Type} (π : List Addr) (s : Shared) (r : R β) (x : Value) (s' : Shared) : Prop
  | mk (c : String) (H' : H) (π' : List Addr) (e C : Addr) (fl : Option Value) (h1 : r = .err c H') (h2 : x = .ref e) (h3 : am.mg (Str.ofString c) = some (.ref C)) (h4 : Step (Fs stack) π s π' s') (h5 : HR am stack π' H' s'.heap) (h6 : XAt (ground stack π s.heap) s'.heap e (.ref C) fl)

noncomputable def JAt (am : Amb) (stack : List Env) (A : Around) {α β : Type} (m : Sem α) (r : R β) (Rel : List Addr → Heap → β → α → Prop) (π : List Addr) (s : Shared) : Prop :=
  r = .bad ∨ wpAny am.M A m (OkP am stack Rel π s r) (ErP am stack π s r) s

theorem ground_mono {stack : List Env} {π π' : List Addr} {s s' : Shared} (x : Step (Fs stack) π s π' s') : (ground stack π s.heap).StaysIn (ground stack π' s'.heap) := by
  intro b o e
  have h1 := of_hideAll _ e
  have hn : b ∉ π ++ Fs stack := fun hm => by rw [hideAll_none _ hm] at e; cases e
  rw [List.mem_append, not_or] at hn
  refine hideAll_get _ (x.ext.keep b o h1 hn.1 hn.2) ?_
  rw [List.mem_append, not_or]
  exact ⟨x.notin h1 hn.1, hn.2⟩

theorem OkP.step {am : Amb} {stack : List Env} {α β : Type} {Rel : List Addr → Heap → β → α → Prop} {π π₁ : List Addr} {s s₁ : Shared} {r : R β} {a : α} {s' : Shared}
    (x : Step (Fs stack) π s π₁ s₁) (y : OkP am stack Rel π₁ s₁ r a s') : OkP am stack Rel π s r a s' := by
  refine hold fun _ k_ => ?_
  obtain ⟨b, H', π', h1, h2, h3, h4⟩ := y
  refine k_ ?_
  exact ⟨b, H', π', h1, x.trans h2, h3, h4⟩
theorem ErP.step {am : Amb} {stack : List Env} {β : Type} {π π₁ : List Addr} {s s₁ : Shared} {r : R β} {a : Value} {s' : Shared}
    (x : Step (Fs stack) π s π₁ s₁) (y : ErP am stack π₁ s₁ r a s') : ErP am stack π s r a s' := by
  refine hold fun _ k_ => ?_
  obtain ⟨c, H', π', e, C, fl, h1, h2, h3, h4, h5, h6⟩ := y
  refine k_ ?_
  exact ⟨c, H', π', e, C, fl, h1, h2, h3, x.trans h4, h5, h6.mono (ground_mono x)⟩

section
variable {am : Amb} {stack : List Env} {A : Around} {α β γ δ : Type} {Rel : List Addr → Heap → β → α → Prop} {Rel' : List Addr → Heap → δ → γ → Prop} {π : List Addr} {s : Shared}

theorem JAt.bind {m : Sem α} {f : α → Sem γ} {r : R β} {g : β → H → R δ} (h1 : JAt am stack A m r Rel π s)
    (h2 : ∀ a b H' π' s', r = .ok b H' → Step (Fs stack) π s π' s' → HR am stack π' H' s'.heap → Rel π' s'.heap b a → JAt am stack A (f a) (g b H') Rel' π' s') :
    JAt am stack A (m >>= f) (r.bind g) Rel' π s := by
  rcases h1 with rfl | h1
  · exact .inl rfl
  · cases r with
    | bad => exact .inl rfl
    | err c H' =>
      refine .inr (wpAny_bind (wpAny_mono h1 (fun a s' h => ?_) fun e s' h => ?_))
      · obtain ⟨_, _, _, h, _⟩ := h; cases h
      · refine hold fun _ k_ => ?_
        obtain ⟨c', H'', π', e', C, fl, h, r2, r3, r4, r5, r6⟩ := h
        refine k_ ?_
        cases h
        exact ⟨c, H', π', e', C, fl, rfl, r2, r3, r4, r5, r6⟩
    | ok b H' =>
      by_cases hb : g b H' = .bad
      · exact .inl hb
      · refine .inr (wpAny_bind (wpAny_mono h1 (fun a s' h => ?_) fun e s' h => ?_))
        · refine hold fun _ k_ => ?_
          obtain ⟨b', H'', π', h, h3, h4, h5⟩ := h
          refine k_ ?_
          cases h
          rcases h2 a b H' π' s' rfl h3 h4 h5 with h6 | h6
          · exact absurd h6 hb
          · exact wpAny_mono h6 (fun _ _ y => OkP.step h3 y) fun _ _ y => ErP.step h3 y
        · obtain ⟨_, _, _, _, _, _, h, _⟩ := h; cases h

theorem JAt.mono {m : Sem α} {r : R β} {Rel₂ : List Addr → Heap → β → α → Prop} (h : JAt am stack A m r Rel π s) (k : ∀ π h b a, Rel π h b a → Rel₂ π h b a) : JAt am stack A m r Rel₂ π s := by
  rcases h with h | h
  · exact .inl h
  · exact .inr (wpAny_mono h (fun a s' ⟨b, H', π', h1, h2, h3, h4⟩ => ⟨b, H', π', h1, h2, h3, k _ _ _ _ h4⟩) fun _ _ y => y)

theorem JAt.pure {a : α} {b : β} {Hc : H} (hr : HR am stack π Hc s.heap) (h : Rel π s.heap b a) : JAt am stack A (pure a : Sem α) (.ok b Hc) Rel π s :=
  .inr (wpAny_pure ⟨b, Hc, π, rfl, .refl .., hr, h⟩)

theorem JAt.bad {m : Sem α} : JAt am stack A m (.bad : R β) Rel π s := .inl rfl

theorem JAt.congr {m m' : Sem α} {r r' : R β} (e : m = m') (er : r = r') (h : JAt am stack A m' r' Rel π s) : JAt am stack A m r Rel π s := by subst e er; exact h

theorem JAt.holding {vs : List Value} {m : Sem α} {r : R β} (h : JAt am stack A m r Rel π s) : JAt am stack A (PySem.holding vs m) r Rel π s := by
  rcases h with h | h
  · exact .inl h
  · exact .inr (wpAny_holding h)
theorem JAt.standAt {pos : Pos} {f : Unit → Sem α} {r : R β} (h : JAt am stack A (f ()) r Rel π s) : JAt am stack A (PySem.standAt pos >>= f) r Rel π s := by
  rcases h with h | h
  · exact .inl h
  · exact .inr (wpAny_bind (wpAny_standAt h))
/-- a rule of the library that says what comes behind -/
theorem JAt.rule {m m' : Sem α} {r : R β} (k : ∀ (Q : α → Shared → Prop) (E : Value → Shared → Prop), wpAny am.M A m' Q E s → wpAny am.M A m Q E s) (h : JAt am stack A m' r Rel π s) : JAt am stack A m r Rel π s := by
  rcases h with h | h
  · exact .inl h
  · exact .inr (k _ _ h)
end

theorem release_wp {M : Model} {A : Around} {vs keep : List Value} {Q : Unit → Shared → Prop} {E : Value → Shared → Prop} {s : Shared} (h : Q () s) : wpAny M A (release vs keep) Q E s :=
  fun Γ p _ => by
    unfold release
    rw [Sem.wp_release_go]
    exact h

theorem operate_wp {M : Model} {A : Around} {vs : List Value} {m : Sem Value} {Q : Value → Shared → Prop} {E : Value → Shared → Prop} {s : Shared} (h : wpAny M A m Q E s) : wpAny M A (operate vs m) Q E s := by
  unfold operate
  exact wpAny_bind (wpAny_holding (wpAny_mono h (fun r s' hr => wpAny_bind (release_wp (wpAny_pure hr))) fun _ _ y => y))

theorem JAt.operate {am : Amb} {stack : List Env} {A : Around} {β : Type} {Rel : List Addr → Heap → β → Value → Prop} {π : List Addr} {s : Shared} {vs : List Value} {m : Sem Value} {r : R β} (h : JAt am stack A m r Rel π s) : JAt am stack A (PySem.operate vs m) r Rel π s :=
  h.rule fun _ _ x => operate_wp x

/-- the place where a def's body, or a block of its, is run -/
structure Cx where
  env : Env
  stack : List Env
  ctx : List (Str × Nat)

noncomputable def Vis (env : Env) (x : Str) : Prop := env.kindOf x = some .local ∨ env.kindOf x = some .cell ∨ env.kindOf x = some .free

/-- a name's value as the frame reads it -/
noncomputable def VarAt (h : Heap) (env : Env) (x : Str) (v : Value) : Prop :=
  (env.kindOf x = some .local ∧ ∃ m, h.Ns env.locals m ∧ m x = some v) ∨
  ((env.kindOf x = some .cell ∨ env.kindOf x = some .free) ∧ ∃ c, env.cells.lookup x = some c ∧ h.IsCell c (some v))

/-- a value, or a caught exception -/
noncomputable def SR (am : Amb) (π : List Addr) (h : Heap) (v : V) (x : Value) : Prop :=
  VR am π h v x ∨ ∃ c a, v = .exc c ∧ x = .ref a ∧ a ∉ π ∧ ExcAt am h c a

structure ER (am : Amb) (cx : Cx) (ρ : List V) (π : List Addr) (h : Heap) : Prop where
  ns : ∃ m, h.Ns cx.env.locals m
  locOff : cx.env.locals ∉ π
  cellOff : ∀ x c, cx.env.cells.lookup x = some c → c ∉ π ∧ c ≠ cx.env.locals ∧ ∃ v, h.IsCell c v
  apart : ∀ x y c, cx.env.cells.lookup x = some c → cx.env.cells.lookup y = some c → x = y
  var : ∀ x i v, cx.ctx.lookup x = some i → ρ[i]? = some v → v ≠ .undef → Vis cx.env x → ∃ v', VarAt h cx.env x v' ∧ SR am π h v v'

theorem Ext.ns {π Fs : List Addr} {h h' : Heap} (x : Ext π Fs h h') {a : Addr} {m : Str → Option Value} (hn : h.Ns a m) (ha : a ∉ π) : h'.Ns a m := by
  refine hold fun _ k_ => ?_
  obtain ⟨o, es, ep, ho, hd, r⟩ := hn
  refine k_ ?_
  obtain ⟨sl, hs⟩ := x.slots a o ho ha
  exact ⟨_, es, ep, hs, hd, r⟩
theorem Ext.cell {π Fs : List Addr} {h h' : Heap} (x : Ext π Fs h h') {a : Addr} {v : Option Value} (hn : h.IsCell a v) (ha : a ∉ π) : h'.IsCell a v := by
  obtain ⟨o, ho, hd⟩ := hn
  obtain ⟨sl, hs⟩ := x.slots a o ho ha
  exact ⟨_, hs, hd⟩

theorem Heap.Ns.exist {h : Heap} {a : Addr} {m : Str → Option Value} (hn : h.Ns a m) : ∃ o, h.get? a = some o := let ⟨o, _, _, ho, _⟩ := hn; ⟨o, ho⟩
theorem Heap.IsCell.exist {h : Heap} {a : Addr} {v : Option Value} (hn : h.IsCell a v) : ∃ o, h.get? a = some o := let ⟨o, ho, _⟩ := hn; ⟨o, ho⟩

theorem ExcAt.step {am : Amb} {Fs π π' : List Addr} {s s' : Shared} (x : Step Fs π s π' s') {c : String} {a : Addr} (e : ExcAt am s.heap c a) (ha : a ∉ π) : a ∉ π' ∧ ExcAt am s'.heap c a := by
  refine hold fun _ k_ => ?_
  obtain ⟨C, o, vs, h1, h2, h3, h4, h5, h6⟩ := e
  refine k_ ?_
  obtain ⟨sl, h7⟩ := x.ext.slots a o h2 ha
  exact ⟨x.notin h2 ha, C, _, vs, h1, h7, h3, h4, h5, h6⟩

theorem SR.step {am : Amb} {Fs π π' : List Addr} {s s' : Shared} (x : Step Fs π s π' s') {v : V} {y : Value} (e : SR am π s.heap v y) : SR am π' s'.heap v y := by
  rcases e with e | ⟨c, a, h1, h2, h3, h4⟩
  · exact .inl (e.step x)
  · have := h4.step x h3
    exact .inr ⟨c, a, h1, h2, this.1, this.2⟩

theorem ER.step {am : Amb} {cx : Cx} {ρ : List V} {Fs π π' : List Addr} {s s' : Shared} (x : Step Fs π s π' s') (e : ER am cx ρ π s.heap) : ER am cx ρ π' s'.heap := by
  obtain ⟨m, hm⟩ := e.ns
  obtain ⟨o, ho⟩ := Heap.Ns.exist hm
  refine ⟨⟨m, x.ext.ns hm e.locOff⟩, x.notin ho e.locOff, fun y c hc => ?_, e.apart, fun y i v h1 h2 h3 h4 => ?_⟩
  · refine hold fun _ k_ => ?_
    obtain ⟨h1, h2, v, h3⟩ := e.cellOff y c hc
    refine k_ ?_
    obtain ⟨o, ho⟩ := Heap.IsCell.exist h3
    exact ⟨x.notin ho h1, h2, v, x.ext.cell h3 h1⟩
  · obtain ⟨v', h5, h6⟩ := e.var y i v h1 h2 h3 h4
    refine ⟨v', ?_, h6.step x⟩
    rcases h5 with ⟨k, m', h7, h8⟩ | ⟨k, c, h7, h8⟩
    · exact .inl ⟨k, m', x.ext.ns h7 e.locOff, h8⟩
    · exact .inr ⟨k, c, h7, x.ext.cell h8 (e.cellOff y c h7).1⟩

/-- what is being handled: nothing, or (q false) an exception without a context -/
noncomputable def Hd (q : Bool) (A : Around) (π Fs : List Addr) (h : Heap) : Prop :=
  if q then A.handled = none else ∃ he o vs, A.handled = some (.ref he) ∧ he ∉ π ∧ he ∉ Fs ∧ h.get? he = some o ∧ o.data = .fields vs ∧ vs[2]? = some .none

theorem Hd.step {q : Bool} {A : Around} {Fs π π' : List Addr} {s s' : Shared} (x : Step Fs π s π' s') (e : Hd q A π Fs s.heap) : Hd q A π' Fs s'.heap := by
  unfold Hd at e ⊢
  split
  · rename_i hq; rw [if_pos hq] at e; exact e
  · rename_i hq
    rw [if_neg hq] at e
    refine hold fun _ k_ => ?_
    obtain ⟨he, o, vs, h1, h2, h3, h4, h5⟩ := e
    refine k_ ?_
    exact ⟨he, o, vs, h1, x.notin h4 h2, h3, x.ext.keep he o h4 h2 h3, h5⟩

/-- the surroundings: n calls more may nest -/
structure AS (n : Nat) (stack : List Env) (A : Around) : Prop where
  frames : A.frames = some stack
  depth : A.depth + n < 800
  units : A.units + 10 * n < 9000

/-- the state at hand -/
structure St (am : Amb) (q : Bool) (cx : Cx) (ρ : List V) (π : List Addr) (Hc : H) (A : Around) (s : Shared) : Prop where
  hr : HR am cx.stack π Hc s.heap
  er : ER am cx ρ π s.heap
  hd : Hd q A π (Fs cx.stack) s.heap

theorem St.step {am : Amb} {q : Bool} {cx : Cx} {ρ : List V} {π π' : List Addr} {Hc H' : H} {A : Around} {s s' : Shared} (x : St am q cx ρ π Hc A s) (y : Step (Fs cx.stack) π s π' s') (hr : HR am cx.stack π' H' s'.heap) : St am q cx ρ π' H' A s' :=
  ⟨hr, x.er.step y, x.hd.step y⟩

/-- what stands, as far as the walk asks -/
structure AmbOK (am : Amb) : Prop where
  g : am.B.Ns mainGlobals am.mg
  b : am.B.Ns builtinsNs am.mb
  nolimit : am.B.NoLimit
  noseer : am.B.NoSeer
  tree : am.prog.given.tree = none

/-- the frame that runs -/
structure TopEnv (e₀ : Env) : Prop where
  gen : e₀.scope.isGenerator = false
  co : e₀.scope.isCoroutine = false
  globals : e₀.globals = mainGlobals
  builtins : e₀.builtins = builtinsNs

noncomputable def StackOK (stack : List Env) : Prop := ∃ e₀ outer, stack = e₀ :: outer ∧ TopEnv e₀

structure CxOK (cx : Cx) : Prop where
  clos : ∀ x, cx.env.kindOf x = some .cell ∨ cx.env.kindOf x = some .free → ∃ c, cx.env.cells.lookup x = some c
  kind : cx.env.scope.kind = .function
  globals : cx.env.globals = mainGlobals
  builtins : cx.env.builtins = builtinsNs
  top : ∃ e₀ outer, cx.stack = e₀ :: outer ∧ e₀.frame = cx.env.frame ∧ TopEnv e₀

theorem CxOK.stackOK {cx : Cx} (x : CxOK cx) : StackOK cx.stack := let ⟨e₀, outer, h, _, t⟩ := x.top; ⟨e₀, outer, h, t⟩

end Mine

namespace Mine
open PySem PySem.W PyProof.Rows

theorem VR.keeps {am : Amb} {π : List Addr} {h h' : Heap} (k : ∀ b o, h.get? b = some o → h'.get? b = some o) {v : V} {x : Value} (e : VR am π h v x) : VR am π h' v x :=
  VR.step (Fs := []) (s := { heap := h }) (s' := { heap := h' }) (Step.keeps (s := { heap := h }) (tk := 1) k) e
theorem VRs.keeps {am : Amb} {π : List Addr} {h h' : Heap} (k : ∀ b o, h.get? b = some o → h'.get? b = some o) {v : List V} {x : List Value} (e : VRs am π h v x) : VRs am π h' v x :=
  VRs.step (Fs := []) (s := { heap := h }) (s' := { heap := h' }) (Step.keeps (s := { heap := h }) (tk := 1) k) e

theorem CellAt.keeps {am : Amb} {π : List Addr} {h h' : Heap} (k : ∀ b o, h.get? b = some o → h'.get? b = some o) {c : Cell} {a : Addr} (e : CellAt am π h c a) : CellAt am π h' c a := by
  obtain ⟨o, xs, ho, hk, h2, h3⟩ := e
  exact ⟨o, xs, k _ _ ho, hk, h2, h3.keeps k⟩

theorem HR.keeps {am : Amb} {stack : List Env} {π : List Addr} {Hc : H} {h h' : Heap} (x : HR am stack π Hc h) (k : ∀ b o, h.get? b = some o → h'.get? b = some o) : HR am stack π Hc h' :=
  ⟨fun b o e => k b o (x.base b o e), x.frames.of_keeps fun b o e _ => ⟨o, k b o e, rfl⟩, x.len, x.nodup, fun a ha => let ⟨o, ho, hn⟩ := x.res a ha; ⟨o, k a o ho, hn⟩, x.off, fun i c a h1 h2 => (x.cell i c a h1 h2).keeps k⟩

section
variable {am : Amb} {stack : List Env} {A : Around} {α β : Type} {Rel : List Addr → Heap → β → α → Prop} {π : List Addr} {s : Shared} {Hc : H}

/-- a good end at which only new things stand beside the old ones -/
theorem OkP.keeps {h' : Heap} {tk : Nat} {a : α} {b : β} (hr : HR am stack π Hc s.heap) (k : ∀ b o, s.heap.get? b = some o → h'.get? b = some o) (h : Rel π h' b a) :
    OkP am stack Rel π s (.ok b Hc) a { s with heap := h', toks := tk } :=
  ⟨b, Hc, π, rfl, .keeps k, hr.keeps k, h⟩
theorem OkP.tok {tk : Nat} {a : α} {b : β} (hr : HR am stack π Hc s.heap) (h : Rel π s.heap b a) :
    OkP am stack Rel π s (.ok b Hc) a { s with toks := tk } := OkP.keeps (h' := s.heap) hr (fun _ _ e => e) h
theorem OkP.here {a : α} {b : β} (hr : HR am stack π Hc s.heap) (h : Rel π s.heap b a) :
    OkP am stack Rel π s (.ok b Hc) a s := OkP.tok (tk := s.toks) hr h
end

theorem fresh_res {am : Amb} {stack : List Env} {π : List Addr} {Hc : H} {h : Heap} (hr : HR am stack π Hc h) {l : Addr} (hl : h.get? l = none) : l ∉ am.res := fun hm => by
  obtain ⟨o, ho, _⟩ := hr.res l hm
  rw [hl] at ho; cases ho

theorem fresh_pi {am : Amb} {stack : List Env} {π : List Addr} {Hc : H} {h : Heap} (hr : HR am stack π Hc h) {l : Addr} (hl : h.get? l = none) : l ∉ π := by
  intro hm
  obtain ⟨i, hi⟩ := List.mem_iff_getElem?.mp hm
  have hlt : i < Hc.length := by rw [← hr.len]; exact (List.getElem?_eq_some_iff.mp hi).1
  obtain ⟨o, ho, _⟩ := (hr.cell i Hc[i] _ (List.getElem?_eq_getElem hlt) hi).obj
  rw [hl] at ho; cases ho

theorem fresh_fs {am : Amb} {stack : List Env} {π : List Addr} {Hc : H} {h : Heap} (hr : HR am stack π Hc h) {l : Addr} (hl : h.get? l = none) : l ∉ Fs stack := fun hm => by
  refine hold fun _ k_ => ?_
  obtain ⟨_, o, ho, _⟩ := hr.frames.mem hm
  refine k_ ?_
  rw [hl] at ho; cases ho

theorem size_none (h : Heap) : h.get? h.objs.size = none := by
  cases q : h.get? h.objs.size with
  | none => rfl
  | some o => exact absurd (Heap.lt_size q) (Nat.lt_irrefl _)

/-- l is in the making -/
noncomputable def Amb.hold (am : Amb) (l : Addr) : Amb := { am with res := l :: am.res }

theorem via_in {am : Amb} {π : List Addr} {h : Heap} {l : Addr} : Via (am.hold l) am π (π ++ [l]) h h :=
  ⟨fun a o ho _ h1 h2 => ⟨⟨o.slots, ho⟩, by
      simp only [Amb.hold, List.mem_cons, not_or] at h2
      simp [h1, h2.1], by
      simp only [Amb.hold, List.mem_cons, not_or] at h2
      exact h2.2⟩, fun i a ha => by rw [List.getElem?_append_left (List.getElem?_eq_some_iff.mp ha).1]; exact ha⟩
theorem via_off {am : Amb} {π : List Addr} {h : Heap} {l : Addr} : Via (am.hold l) am π π h h :=
  ⟨fun a o ho _ h1 h2 => ⟨⟨o.slots, ho⟩, h1, fun q => h2 (List.mem_cons_of_mem _ q)⟩, fun _ _ e => e⟩
theorem via_held {am : Amb} {π : List Addr} {h : Heap} {l : Addr} (hl : h.get? l = none) : Via am (am.hold l) π π h h :=
  ⟨fun a o ho _ h1 h2 => ⟨⟨o.slots, ho⟩, h1, fun q => by
    rcases List.mem_cons.mp q with rfl | q
    · rw [hl] at ho; cases ho
    · exact h2 q⟩, fun _ _ e => e⟩
theorem VR.reserve {am : Amb} {π : List Addr} {h : Heap} {l : Addr} {v : V} {x : Value} (e : VR (am.hold l) π h v x) : VR am (π ++ [l]) h v x ∧ VR am π h v x := ⟨e.via via_in, e.via via_off⟩
theorem VRs.reserve {am : Amb} {π : List Addr} {h : Heap} {l : Addr} {vs : List V} {xs : List Value} (e : VRs (am.hold l) π h vs xs) : VRs am (π ++ [l]) h vs xs ∧ VRs am π h vs xs := ⟨e.via via_in, e.via via_off⟩
theorem VR.held {am : Amb} {π : List Addr} {h : Heap} {l : Addr} (hl : h.get? l = none) {v : V} {x : Value} (e : VR am π h v x) : VR (am.hold l) π h v x := e.via (via_held hl)
theorem VRs.held {am : Amb} {π : List Addr} {h : Heap} {l : Addr} (hl : h.get? l = none) {vs : List V} {xs : List Value} (e : VRs am π h vs xs) : VRs (am.hold l) π h vs xs := e.via (via_held hl)

/-- an end that made a new list -/
noncomputable def NewL (am : Amb) (π : List Addr) (s : Shared) (vs : List V) (x : Value) (s' : Shared) : Prop :=
  ∃ l xs h' tk, x = .ref l ∧ s' = { s with heap := h', toks := tk } ∧ (∀ b o, s.heap.get? b = some o → h'.get? b = some o) ∧ s.heap.get? l = none ∧ PL h' l xs ∧ VRs (am.hold l) π h' vs xs

theorem NewL.push {am : Amb} {π : List Addr} {s : Shared} {vs : List V} {xs : List Value} {o : Obj} {n : Nat} {tk : Nat} (hv : VRs am π s.heap vs xs) (hc : o.cls = .type "list") (hdi : o.dict = none) (hd : o.data = .seq (List.toArray xs) n) :
    NewL am π s vs (.ref s.heap.objs.size) { s with heap := s.heap.push o, toks := tk } := by
  have k : ∀ b o', s.heap.get? b = some o' → (s.heap.push o).get? b = some o' := fun _ _ e => Heap.get?_push_of_some _ e
  exact ⟨_, xs, _, tk, rfl, rfl, k, size_none _, ⟨o, n, Heap.get?_push_size _ (Obj.isFreed_of_seq hd), hc, hdi, hd⟩, (hv.held (size_none _)).keeps k⟩

/-- a new list, told by value -/
theorem NewL.lst {am : Amb} {stack : List Env} {π : List Addr} {s s' : Shared} {Hc : H} {vs : List V} {x : Value} (hr : HR am stack π Hc s.heap) (hl : vs.length ≤ 1000000) (n : NewL am π s vs x s') :
    OkP am stack (VR am) π s (.ok (.lst vs) Hc) x s' := by
  refine hold fun _ k_ => ?_
  obtain ⟨l, xs, h', tk, rfl, rfl, k, h1, h2, h3⟩ := n
  refine k_ ?_
  refine OkP.keeps hr k ?_
  simp only [VR]
  exact ⟨_, xs, rfl, ⟨fresh_pi hr h1, fresh_res hr h1⟩, h2.is, hl, h3.reserve.2⟩

/-- a new list, as a cell -/
theorem NewL.cell {am : Amb} {stack : List Env} {π : List Addr} {s s' : Shared} {Hc : H} {vs : List V} {x : Value} (hr : HR am stack π Hc s.heap) (hl : vs.length ≤ 1000000) (n : NewL am π s vs x s') :
    OkP am stack (VR am) π s (.ok (.ref Hc.length) (Hc ++ [.list vs])) x s' := by
  refine hold fun _ k_ => ?_
  obtain ⟨l, xs, h', tk, rfl, rfl, k, h1, h2, h3⟩ := n
  refine k_ ?_
  have hp := fresh_pi hr h1
  have st : Step (Fs stack) π s (π ++ [l]) { s with heap := h', toks := tk } := ⟨⟨h', tk, rfl⟩, .of_keeps k, [l], rfl, fun a ha => by rw [List.mem_singleton.mp ha]; exact h1⟩
  have hr' := hr.keeps k
  refine ⟨_, _, π ++ [l], rfl, st, ⟨hr'.base, hr'.frames, by simp [hr.len], ?_, hr'.res, ?_, ?_⟩, ?_⟩
  · rw [List.nodup_append]
    exact ⟨hr.nodup, by simp, fun a ha b hb => by rw [List.mem_singleton.mp hb]; exact fun q => hp (q ▸ ha)⟩
  · intro a ha
    rcases List.mem_append.mp ha with ha | ha
    · exact hr.off a ha
    · rw [List.mem_singleton.mp ha]; exact ⟨none_of_stays hr.base h1, fresh_fs hr h1⟩
  · intro i c a hi ha
    by_cases hlt : i < Hc.length
    · rw [List.getElem?_append_left hlt] at hi
      rw [List.getElem?_append_left (by rw [hr.len]; exact hlt)] at ha
      exact (hr.cell i c a hi ha).via st.via fun o e _ => ⟨o.slots, k _ _ e⟩
    · have hi' : i = Hc.length := by
        have := (List.getElem?_eq_some_iff.mp hi).1
        simp only [List.length_append, List.length_singleton] at this
        omega
      subst hi'
      simp only [List.getElem?_concat_length, Option.some.injEq] at hi
      rw [← hr.len] at ha
      simp only [List.getElem?_concat_length, Option.some.injEq] at ha
      subst hi ha
      exact .ofList h2 hl h3.reserve.1
  · simp only [VR]
    exact ⟨l, rfl, by rw [← hr.len]; simp⟩

theorem OkP.lst {am : Amb} {stack : List Env} {π : List Addr} {s : Shared} {Hc : H} {vs : List V} {xs : List Value} {o : Obj} {n : Nat} {tk : Nat} (hr : HR am stack π Hc s.heap) (hv : VRs am π s.heap vs xs) (hl : vs.length ≤ 1000000)
    (hc : o.cls = .type "list") (hdi : o.dict = none) (hd : o.data = .seq (List.toArray xs) n) : OkP am stack (VR am) π s (.ok (.lst vs) Hc) (.ref s.heap.objs.size) { s with heap := s.heap.push o, toks := tk } :=
  (NewL.push hv hc hdi hd).lst hr hl
theorem OkP.tup {am : Amb} {stack : List Env} {π : List Addr} {s : Shared} {Hc : H} {vs : List V} {xs : List Value} {o : Obj} {n : Nat} {tk : Nat} (hr : HR am stack π Hc s.heap) (hv : VRs am π s.heap vs xs) (hl : vs.length ≤ 1000000)
    (hc : o.cls = .type "tuple") (hd : o.data = .seq (List.toArray xs) n) : OkP am stack (VR am) π s (.ok (.tup vs) Hc) (.ref s.heap.objs.size) { s with heap := s.heap.push o, toks := tk } := by
  have k : ∀ b o', s.heap.get? b = some o' → (s.heap.push o).get? b = some o' := fun _ _ e => Heap.get?_push_of_some _ e
  refine OkP.keeps hr k ?_
  simp only [VR]
  exact ⟨_, xs, rfl, ⟨fresh_pi hr (size_none _), fresh_res hr (size_none _)⟩, ⟨o, Heap.get?_push_size _ (Obj.isFreed_of_seq hd), hc, n, hd⟩, hl, hv.keeps k⟩

/-- a list's object, by value or a cell -/
theorem litems_at {am : Amb} {stack : List Env} {π : List Addr} {Hc : H} {h : Heap} (hr : HR am stack π Hc h) {v : V} {x : Value} {vs : List V} (e : VR am π h v x) (hi : litems Hc v = some vs) :
    ∃ l xs, x = .ref l ∧ h.IsList l (List.toArray xs) ∧ vs.length ≤ 1000000 ∧ VRs am π h vs xs := by
  cases v with
  | lst ws =>
    simp only [litems, Option.some.injEq] at hi; subst hi
    simp only [VR] at e
    refine hold fun _ k_ => ?_
    obtain ⟨a, xs, h1, _, h3, h4, h5⟩ := e
    refine k_ ?_
    exact ⟨a, xs, h1, h3, h4, h5⟩
  | ref i =>
    simp only [litems] at hi
    simp only [VR] at e
    obtain ⟨a, h1, h2⟩ := e
    split at hi
    · rename_i ws hw
      simp only [Option.some.injEq] at hi; subst hi
      refine hold fun _ k_ => ?_
      obtain ⟨xs, h3, h4, h5⟩ := (hr.cell i _ a hw h2).list
      refine k_ ?_
      exact ⟨a, xs, h1, h3.is, h4, h5⟩
    · cases hi
  | _ => simp [litems] at hi

theorem mil_le_line : (1000000 : Nat) ≤ sizeLine := by decide

section
variable {am : Amb} {stack : List Env} {A : Around} {π : List Addr} {s : Shared} {Hc : H}

theorem seer (ok : AmbOK am) (st : StackOK stack) (hf : A.frames = some stack) (hr : HR am stack π Hc s.heap) : SeerAt am.M A s.heap := by
  refine hold fun _ k_ => ?_
  obtain ⟨e₀, outer, rfl, t⟩ := st
  refine k_ ?_
  exact SeerAt.of (ok.noseer.keeps hr.base) ok.tree hf t.gen t.co t.builtins t.globals

theorem op_add_int {x y : Int} {t u : Tok} (hr : HR am stack π Hc s.heap) : JAt am stack A (binaryOp .Add (.int x t) (.int y u)) (.ok (V.int (x + y)) Hc) (VR am) π s :=
  .inr (add_int (OkP.tok hr ⟨_, rfl⟩))
theorem op_sub_int {x y : Int} {t u : Tok} (hr : HR am stack π Hc s.heap) : JAt am stack A (binaryOp .Sub (.int x t) (.int y u)) (.ok (V.int (x - y)) Hc) (VR am) π s :=
  .inr (sub_int' (OkP.tok hr ⟨_, rfl⟩))

theorem bits_small {x : Int} (h : x.natAbs < 9223372036854775808) : Builtin.Int.intBits x ≤ 64 := by
  unfold Builtin.Int.intBits
  split
  · omega
  · rename_i h0
    have h1 : x.natAbs ≠ 0 := by simpa using h0
    have := (Nat.log2_lt h1 (k := 63)).mpr (by simpa using h)
    omega

theorem op_mul_int {x y : Int} {t u : Tok} (hr : HR am stack π Hc s.heap) (h : x.natAbs < 9223372036854775808 ∨ y.natAbs < 9223372036854775808) :
    JAt am stack A (binaryOp .Mult (.int x t) (.int y u)) (.ok (V.int (x * y)) Hc) (VR am) π s :=
  .inr (PyProof.Rows.mul_int (OkP.tok hr ⟨_, rfl⟩) (h.elim (fun h => .of_left (bits_small h)) fun h => .of_right (bits_small h)))
theorem op_mod_int {x y : Int} {t u : Tok} (hr : HR am stack π Hc s.heap) (h : y ≠ 0) :
    JAt am stack A (binaryOp .Mod (.int x t) (.int y u)) (.ok (V.int (x.fmod y)) Hc) (VR am) π s :=
  .inr (mod_int' h (OkP.tok hr ⟨_, rfl⟩))
theorem op_fdiv_int {n : Nat} {x y : Int} {t u : Tok} (ok : AmbOK am) (st : StackOK stack) (as : AS n stack A) (hr : HR am stack π Hc s.heap) (h : y ≠ 0) :
    JAt am stack A (binaryOp .FloorDiv (.int x t) (.int y u)) (.ok (V.int (x.fdiv y)) Hc) (VR am) π s :=
  .inr (floordiv_int h (OkP.tok hr ⟨_, rfl⟩) (.inr (PylongRoom.of (ok.nolimit.keeps hr.base) (by have := as.depth; show A.depth + 100 < 1000; omega) (seer ok st as.frames hr))))

theorem wp_add_list {a b : V} {x y : Value} {vs ws : List V} {Q : Value → Shared → Prop} {E : Value → Shared → Prop} (hr : HR am stack π Hc s.heap) (ha : VR am π s.heap a x) (hb : VR am π s.heap b y) (la : litems Hc a = some vs) (lb : litems Hc b = some ws) (hle : (vs ++ ws).length ≤ 1000000)
    (h : ∀ y s', NewL am π s (vs ++ ws) y s' → Q y s') : wpAny am.M A (binaryOp .Add x y) Q E s := by
  refine hold fun _ k_ => ?_
  obtain ⟨l, xs, rfl, hl, h1, h2⟩ := litems_at hr ha la
  refine k_ ?_
  refine hold fun _ k_ => ?_
  obtain ⟨l', ys, rfl, hl', h3, h4⟩ := litems_at hr hb lb
  refine k_ ?_
  refine hold fun _ k_ => ?_
  obtain ⟨⟨cls, dd, data, sl⟩, ho, hc, n, hd⟩ := hl
  refine k_ ?_
  refine hold fun _ k_ => ?_
  obtain ⟨⟨cls2, dd2, data2, sl2⟩, ho2, hc2, n2, hd2⟩ := hl'
  refine k_ ?_
  simp only at hc hd hc2 hd2
  subst hc hd hc2 hd2
  have hsz : (List.toArray xs).size + (List.toArray ys).size ≤ sizeLine := by
    have := mil_le_line
    have e1 := h2.len
    have e2 := h4.len
    simp only [List.length_append] at hle
    simp only [List.size_toArray]
    omega
  refine concat_meets ⟨_, ho, rfl⟩ ⟨_, ho2, rfl⟩ noFill_list_add seq_list_add PySem.F.slot_list_add PySem.F.entry_list_add (PySem.F.args_list_add_2 _ _) (list_addW l l' _ _ n n2 dd dd2 sl sl2 hsz) ⟨ho, ho2, ?_⟩
  exact h _ _ (NewL.push (xs := xs ++ ys) (n := 0) (h2.append h4) rfl rfl (by simp))
theorem op_add_list {a b : V} {x y : Value} {vs ws : List V} (hr : HR am stack π Hc s.heap) (ha : VR am π s.heap a x) (hb : VR am π s.heap b y) (la : litems Hc a = some vs) (lb : litems Hc b = some ws) :
    JAt am stack A (binaryOp .Add x y) (R.opt (mkL (vs ++ ws)) Hc) (VR am) π s := by
  unfold mkL
  split
  · rename_i hle
    exact .inr (wp_add_list hr ha hb la lb hle fun y s' n => n.lst hr hle)
  · exact .inl rfl

theorem op_add_tup {x y : Value} {vs ws : List V} (hr : HR am stack π Hc s.heap) (ha : VR am π s.heap (.tup vs) x) (hb : VR am π s.heap (.tup ws) y) :
    JAt am stack A (binaryOp .Add x y) (R.opt (mkT (vs ++ ws)) Hc) (VR am) π s := by
  unfold mkT
  split
  · rename_i hle
    simp only [VR] at ha hb
    refine hold fun _ k_ => ?_
    obtain ⟨l, xs, rfl, hp, hl, h1, h2⟩ := ha
    refine k_ ?_
    refine hold fun _ k_ => ?_
    obtain ⟨l', ys, rfl, hp', hl', h3, h4⟩ := hb
    refine k_ ?_
    have hl0 := hl
    have hl0' := hl'
    refine hold fun _ k_ => ?_
    obtain ⟨⟨cls, dd, data, sl⟩, ho, hc, n, hd⟩ := hl
    refine k_ ?_
    refine hold fun _ k_ => ?_
    obtain ⟨⟨cls2, dd2, data2, sl2⟩, ho2, hc2, n2, hd2⟩ := hl'
    refine k_ ?_
    simp only at hc hd hc2 hd2
    subst hc hd hc2 hd2
    have hsz : (List.toArray xs).size + (List.toArray ys).size ≤ sizeLine := by
      have := mil_le_line
      have e1 := h2.len
      have e2 := h4.len
      simp only [List.length_append] at hle
      simp only [List.size_toArray]
      omega
    refine .inr ?_
    by_cases hv : xs = []
    · refine concat_meets ⟨_, ho, rfl⟩ ⟨_, ho2, rfl⟩ noFill_tuple_add seq_tuple_add PySem.F.slot_tuple_add PySem.F.entry_tuple_add (PySem.F.args_tuple_add_2 _ _)
        (tuple_addW0 l l' _ _ n n2 dd dd2 sl sl2 (by simp [hv])) ⟨ho, ho2, OkP.here hr ?_⟩
      have : vs = [] := by have := h2.len; rw [hv] at this; exact List.eq_nil_of_length_eq_zero this.symm
      subst this
      simp only [List.nil_append, VR]
      exact ⟨l', ys, rfl, hp', hl0', h3, h4⟩
    · by_cases hw : ys = []
      · refine concat_meets ⟨_, ho, rfl⟩ ⟨_, ho2, rfl⟩ noFill_tuple_add seq_tuple_add PySem.F.slot_tuple_add PySem.F.entry_tuple_add (PySem.F.args_tuple_add_2 _ _)
          (tuple_addW1 l l' _ _ n n2 dd dd2 sl sl2 (by simpa using hv) (by simp [hw])) ⟨ho, ho2, OkP.here hr ?_⟩
        have : ws = [] := by have := h4.len; rw [hw] at this; exact List.eq_nil_of_length_eq_zero this.symm
        subst this
        simp only [List.append_nil, VR]
        exact ⟨l, xs, rfl, hp, hl0, h1, h2⟩
      · refine concat_meets ⟨_, ho, rfl⟩ ⟨_, ho2, rfl⟩ noFill_tuple_add seq_tuple_add PySem.F.slot_tuple_add PySem.F.entry_tuple_add (PySem.F.args_tuple_add_2 _ _)
          (tuple_addW2 l l' _ _ n n2 dd dd2 sl sl2 (by simpa using hv) (by simpa using hw) hsz) ⟨ho, ho2, ?_⟩
        exact OkP.tup (xs := xs ++ ys) (n := 0) hr (h2.append h4) hle rfl (by simp)
  · exact .inl rfl

theorem foldl_rep (xs : List Value) : ∀ (n : Nat) (acc : Array Value), (List.foldl (fun x1 x2 => x1 ++ x2) acc (List.replicate n (List.toArray xs))) = acc ++ List.toArray (List.replicate n xs).flatten
  | 0, acc => by simp
  | n + 1, acc => by
    rw [List.replicate_succ, List.foldl_cons, foldl_rep xs n, List.replicate_succ, List.flatten_cons]
    simp

theorem rep_len {α : Type} (vs : List α) (n : Int) : (rep vs n).length = n.toNat * vs.length := by simp [rep]

theorem wp_mul_list {a : V} {x : Value} {vs : List V} {k : Int} {u : Tok} {Q : Value → Shared → Prop} {E : Value → Shared → Prop} (hr : HR am stack π Hc s.heap) (ha : VR am π s.heap a x) (la : litems Hc a = some vs) (hk : k < 1000000 ∧ -1000000 < k) (hle : (rep vs k).length ≤ 1000000)
    (h : ∀ y s', NewL am π s (rep vs k) y s' → Q y s') : wpAny am.M A (binaryOp .Mult x (.int k u)) Q E s := by
  refine hold fun _ k_ => ?_
  obtain ⟨l, xs, rfl, hl, h1, h2⟩ := litems_at hr ha la
  refine k_ ?_
  refine hold fun _ k_ => ?_
  obtain ⟨⟨cls, dd, data, sl⟩, ho, hc, n, hd⟩ := hl
  refine k_ ?_
  simp only at hc hd
  subst hc hd
  have e1 := h2.len
  rw [rep_len] at hle
  have hsz : (List.toArray xs).size * k.toNat ≤ 1000000 := by rw [List.size_toArray, e1, Nat.mul_comm]; exact hle
  refine wpAny_binaryOp_repeat_ref (T := "list") (U := "int") (by decide) ⟨_, ho, rfl⟩ (fun s' => typeIs_int s' k u) noFill_list_mul PySem.F.fills_int_mul PySem.F.slot_int_rmul repeat_list PySem.F.slot_int_index.lookup
    (call_meets PySem.F.slot_int_rmul (typeIs_int s k u) PySem.F.entry_int_rmul (PySem.F.args_int_rmul_2 _ _) (lm_int_rmul_list_any k u l _ n dd sl)
      ⟨ho, rfl, ⟨_, ho, rfl⟩, call_meets PySem.F.slot_list_mul ⟨_, ho, rfl⟩ PySem.F.entry_list_mul (PySem.F.args_list_mul_2 _ _)
        (lm_list_mul_any l _ n dd sl k u (by simp [Builtin.List.listFitsIndex]; omega) (by omega) (by simp [Builtin.List.listTooLong, sizeLine]; simp only [List.size_toArray] at hsz; omega)) ⟨ho, ?_⟩⟩)
  rw [foldl_rep]
  refine h _ _ (NewL.push (xs := (List.replicate k.toNat xs).flatten) (n := 0) (VRs.flatten h2 _) rfl rfl ?_)
  simp only [Array.empty_append, List.isEmpty_toArray]
  by_cases hx : xs = []
  · subst hx; simp
  · rw [if_neg (by simpa using hx)]

theorem op_mul_list {a : V} {x : Value} {vs : List V} {k : Int} {u : Tok} (hr : HR am stack π Hc s.heap) (ha : VR am π s.heap a x) (la : litems Hc a = some vs) (hk : k < 1000000 ∧ -1000000 < k) :
    JAt am stack A (binaryOp .Mult x (.int k u)) (R.opt (mkL (rep vs k)) Hc) (VR am) π s := by
  unfold mkL
  split
  · rename_i hle
    exact .inr (wp_mul_list hr ha la hk hle fun y s' n => n.lst hr hle)
  · exact .inl rfl
end

end Mine

namespace Mine
open PySem PySem.W PyProof.Rows PySem.SeqAt

mutual
noncomputable def toD : V → PyData
  | .undef => .none
  | .none => .none
  | .bool b => .bool b
  | .int i => .int i
  | .str s => .str (Str.ofString s)
  | .tup vs => .tuple (toDs vs)
  | .lst vs => .list (toDs vs)
  | .ref _ => .none
  | .exc _ => .none
  | .dct => .none
noncomputable def toDs : List V → List PyData
  | [] => []
  | v :: vs => toD v :: toDs vs
end

theorem ofString_inj {a b : String} (h : Str.ofString a = Str.ofString b) : a = b := by
  unfold Str.ofString at h
  injection h with h
  have h := congrArg Array.toList h
  simp only at h
  rw [cpsOfBytes_string, cpsOfBytes_string] at h
  have h2 : a.toList = b.toList := List.map_inj_right (fun x y e => by
    have := Char.ext (UInt32.toNat_inj.mp e); exact this) |>.mp h
  exact String.toList_inj.mp h2

theorem ofString_beq (a b : String) : (Str.ofString a == Str.ofString b) = (a == b) := by
  by_cases h : a = b
  · subst h; simp
  · rw [beq_eq_false_iff_ne.mpr h]
    exact beq_eq_false_iff_ne.mpr fun e => h (ofString_inj e)

theorem strOk_of (s : String) : PyData.strOk (Str.ofString s) = true := by
  unfold PyData.strOk Str.ofString
  rw [← Array.all_toList]
  simp only [cpsOfBytes_string, List.all_map, List.all_eq_true]
  intro c _
  have h := c.valid
  simp only [UInt32.isValidChar, Nat.isValidChar] at h
  show decide (c.val.toNat < _) = true
  simp only [decide_eq_true_eq]
  omega

mutual
theorem eqv_toD : ∀ (n : Nat) (a b : V), V.ok n a = true → V.ok n b = true → PyData.eqv (toD a) (toD b) = peq a b
  | 0, a, b, h, _ => by simp [V.ok] at h
  | n + 1, .undef, b, h, _ => by simp [V.ok] at h
  | n + 1, .exc _, b, h, _ => by simp [V.ok] at h
  | n + 1, .ref _, b, h, _ => by simp [V.ok] at h
  | n + 1, .dct, b, h, _ => by simp [V.ok] at h
  | n + 1, .none, b, _, h => by cases b <;> first | rfl | simp [V.ok] at h
  | n + 1, .bool _, b, _, h => by cases b <;> first | rfl | simp [V.ok] at h
  | n + 1, .int _, b, _, h => by cases b <;> first | rfl | simp [V.ok] at h
  | n + 1, .str x, b, _, h => by
    cases b <;> first | rfl | (simp [V.ok] at h; done) | skip
    rename_i y
    simp only [toD, PyData.eqv, peq_none, peq_bool, peq_int, peq_str, peq_tup, peq_lst, ofString_beq]
  | n + 1, .tup vs, b, h, h' => by
    cases b <;> first | rfl | (simp [V.ok] at h'; done) | skip
    rename_i ws
    simp only [V.ok] at h h'
    simp only [toD, PyData.eqv, peq_none, peq_bool, peq_int, peq_str, peq_tup, peq_lst]
    exact eqvs_toD n vs ws h h'
  | n + 1, .lst vs, b, h, h' => by
    cases b <;> first | rfl | (simp [V.ok] at h'; done) | skip
    rename_i ws
    simp only [V.ok] at h h'
    simp only [toD, PyData.eqv, peq_none, peq_bool, peq_int, peq_str, peq_tup, peq_lst]
    exact eqvs_toD n vs ws h h'
theorem eqvs_toD : ∀ (n : Nat) (a b : List V), a.all (V.ok n) = true → b.all (V.ok n) = true → PyData.eqvAll (toDs a) (toDs b) = peqs a b
  | n, [], [], _, _ => rfl
  | n, [], _ :: _, _, _ => rfl
  | n, _ :: _, [], _, _ => rfl
  | n, a :: as, b :: bs, h, h' => by
    simp only [List.all_cons, Bool.and_eq_true] at h h'
    simp only [toDs, PyData.eqvAll, peqs_cons, eqv_toD n a b h.1 h'.1, eqvs_toD n as bs h.2 h'.2]
end

mutual
theorem canLay_toD : ∀ (n : Nat) (a : V), V.ok n a = true → (toD a).canLay0 = true ∧ (toD a).depth ≤ n
  | 0, a, h => by simp [V.ok] at h
  | n + 1, .undef, h => by simp [V.ok] at h
  | n + 1, .exc _, h => by simp [V.ok] at h
  | n + 1, .ref _, h => by simp [V.ok] at h
  | n + 1, .dct, h => by simp [V.ok] at h
  | n + 1, .none, _ => ⟨rfl, by simp [toD, PyData.depth]⟩
  | n + 1, .bool _, _ => ⟨rfl, by simp [toD, PyData.depth]⟩
  | n + 1, .int _, _ => ⟨rfl, by simp [toD, PyData.depth]⟩
  | n + 1, .str x, _ => ⟨by simp only [toD, PyData.canLay0]; exact strOk_of x, by simp [toD, PyData.depth]⟩
  | n + 1, .tup vs, h => by
    simp only [V.ok] at h
    have := canLays_toD n vs h
    simp only [toD, PyData.canLay0, PyData.depth]
    exact ⟨this.1, by omega⟩
  | n + 1, .lst vs, h => by
    simp only [V.ok] at h
    have := canLays_toD n vs h
    simp only [toD, PyData.canLay0, PyData.depth]
    exact ⟨this.1, by omega⟩
theorem canLays_toD : ∀ (n : Nat) (a : List V), a.all (V.ok n) = true → PyData.canLayAll0 (toDs a) = true ∧ PyData.depthAll (toDs a) ≤ n
  | n, [], _ => ⟨rfl, by simp [toDs, PyData.depthAll]⟩
  | n, a :: as, h => by
    simp only [List.all_cons, Bool.and_eq_true] at h
    have h1 := canLay_toD n a h.1
    have h2 := canLays_toD n as h.2
    simp only [toDs, PyData.canLayAll0, PyData.depthAll, Bool.and_eq_true]
    exact ⟨⟨h1.1, h2.1⟩, by omega⟩
end

theorem shaped_toD {a : V} (h : V.ok 8 a = true) : shaped (toD a) = true := by
  have := canLay_toD 8 a h
  unfold shaped
  rw [this.1]
  simp only [Bool.true_and, decide_eq_true_eq]
  omega

/-- g tells of each cell by value what the heap bears there -/
noncomputable def Tells (am : Amb) (π : List Addr) (h : Heap) (g : Nat → Option V) : Prop :=
  ∀ (i : Nat) (a : Addr) (v' : V), π[i]? = some a → g i = some v' → ∀ n, V.ok n v' = true → ∃ as, Reads h (.ref a) (toD v') as

mutual
theorem reads_mapRef {am : Amb} {π : List Addr} {h : Heap} {g : Nat → Option V} (T : Tells am π h g) : ∀ (v : V) (x : Value) (v' : V) (n : Nat), VR am π h v x → V.mapRef g v = some v' → V.ok n v' = true → ∃ as, Reads h x (toD v') as
  | v, x, v', 0, _, _, h3 => by simp [V.ok] at h3
  | .undef, x, v', n + 1, h1, _, _ => by simp [VR] at h1
  | .exc _, x, v', n + 1, h1, _, _ => by simp [VR] at h1
  | .dct, x, v', n + 1, _, h2, h3 => by simp only [V.mapRef, Option.some.injEq] at h2; subst h2; simp [V.ok] at h3
  | .none, x, v', n + 1, h1, h2, _ => by
    simp only [V.mapRef, Option.some.injEq] at h2; subst h2; simp only [VR] at h1; subst h1; exact ⟨[], .none⟩
  | .bool _, x, v', n + 1, h1, h2, _ => by
    simp only [V.mapRef, Option.some.injEq] at h2; subst h2; simp only [VR] at h1; subst h1; exact ⟨[], .bool _⟩
  | .int _, x, v', n + 1, h1, h2, _ => by
    simp only [V.mapRef, Option.some.injEq] at h2; subst h2; simp only [VR] at h1; obtain ⟨t, rfl⟩ := h1; exact ⟨[], .int _ t⟩
  | .str _, x, v', n + 1, h1, h2, _ => by
    simp only [V.mapRef, Option.some.injEq] at h2; subst h2; simp only [VR] at h1; obtain ⟨t, rfl⟩ := h1; exact ⟨[], .str _ t⟩
  | .ref i, x, v', n + 1, h1, h2, h3 => by
    simp only [V.mapRef] at h2
    simp only [VR] at h1
    obtain ⟨a, rfl, ha⟩ := h1
    exact T i a v' ha h2 _ h3
  | .tup vs, x, v', n + 1, h1, h2, h3 => by
    simp only [V.mapRef, Option.map_eq_some_iff] at h2
    obtain ⟨vs', h2, rfl⟩ := h2
    simp only [VR] at h1
    refine hold fun _ k_ => ?_
    obtain ⟨a, xs, rfl, _, ⟨o, ho, hc, m, hd⟩, _, h5⟩ := h1
    refine k_ ?_
    simp only [V.ok] at h3
    obtain ⟨as, h6⟩ := reads_mapRefs T vs xs vs' n h5 h2 h3
    exact ⟨as, .tuple ho hc hd (by simpa using h6)⟩
  | .lst vs, x, v', n + 1, h1, h2, h3 => by
    simp only [V.mapRef, Option.map_eq_some_iff] at h2
    obtain ⟨vs', h2, rfl⟩ := h2
    simp only [VR] at h1
    refine hold fun _ k_ => ?_
    obtain ⟨a, xs, rfl, _, ⟨o, ho, hc, m, hd⟩, _, h5⟩ := h1
    refine k_ ?_
    simp only [V.ok] at h3
    obtain ⟨as, h6⟩ := reads_mapRefs T vs xs vs' n h5 h2 h3
    exact ⟨a :: as, .list ho hc hd (by simpa using h6)⟩
theorem reads_mapRefs {am : Amb} {π : List Addr} {h : Heap} {g : Nat → Option V} (T : Tells am π h g) : ∀ (vs : List V) (xs : List Value) (vs' : List V) (n : Nat), VRs am π h vs xs → V.mapRefs g vs = some vs' → vs'.all (V.ok n) = true → ∃ as, ReadsAll h xs (toDs vs') as
  | [], xs, vs', n, h1, h2, _ => by
    simp only [V.mapRefs, Option.some.injEq] at h2; subst h2
    simp only [VRs] at h1; subst h1
    exact ⟨[], .nil⟩
  | v :: vs, xs, vs', n, h1, h2, h3 => by
    simp only [V.mapRefs, Option.bind_eq_some_iff, Option.map_eq_some_iff] at h2
    refine hold fun _ k_ => ?_
    obtain ⟨v', h2, ws, h4, rfl⟩ := h2
    refine k_ ?_
    simp only [VRs] at h1
    refine hold fun _ k_ => ?_
    obtain ⟨x, xs', rfl, h5, h6⟩ := h1
    refine k_ ?_
    simp only [List.all_cons, Bool.and_eq_true] at h3
    obtain ⟨as, h7⟩ := reads_mapRef T v x v' n h5 h2 h3.1
    obtain ⟨bs, h8⟩ := reads_mapRefs T vs xs' ws n h6 h4 h3.2
    exact ⟨as ++ bs, .cons h7 h8⟩
end

theorem tells_frzAt {am : Amb} {stack : List Env} {π : List Addr} {Hc : H} {h : Heap} (hr : HR am stack π Hc h) : ∀ k : Nat, Tells am π h (frzAt k 0 Hc)
  | 0 => fun i a v' _ hg => by simp [frzAt] at hg
  | k + 1 => fun i a v' hi hg n hn => by
    simp only [frzAt, Nat.not_lt_zero, if_false] at hg
    split at hg
    · rename_i vs hc
      simp only [Option.map_eq_some_iff] at hg
      obtain ⟨vs', h1, rfl⟩ := hg
      refine hold fun _ k_ => ?_
      obtain ⟨xs, ⟨o, m, ho, hcl, _, hd⟩, _, h3⟩ := (hr.cell i _ a hc hi).list
      refine k_ ?_
      cases n with
      | zero => simp [V.ok] at hn
      | succ n =>
        simp only [V.ok] at hn
        obtain ⟨as, h6⟩ := reads_mapRefs (tells_frzAt hr k) vs xs vs' n h3 h1 hn
        exact ⟨a :: as, .list ho hcl hd (by simpa using h6)⟩
    · cases hg

section
variable {am : Amb} {stack : List Env} {A : Around} {π : List Addr} {s : Shared} {Hc : H}

theorem reads_frz (hr : HR am stack π Hc s.heap) {v v' : V} {x : Value} (h1 : VR am π s.heap v x) (h2 : frz 0 Hc v = some v') (h3 : V.ok 8 v' = true) : ∃ as, Reads s.heap x (toD v') as :=
  reads_mapRef (tells_frzAt hr 4) v x v' 8 h1 h2 h3

theorem op_eq {n : Nat} {a b : V} {x y : Value} (as : AS n stack A) (hr : HR am stack π Hc s.heap) (ha : VR am π s.heap a x) (hb : VR am π s.heap b y) :
    JAt am stack A (compareOp .Eq x y) (R.opt ((pyEq Hc a b).map V.bool) Hc) (VR am) π s := by
  unfold pyEq
  cases h1 : frz 0 Hc a with
  | none => exact .inl rfl
  | some a' =>
    cases h2 : frz 0 Hc b with
    | none => exact .inl rfl
    | some b' =>
      simp only
      split
      · rename_i h
        simp only [Bool.and_eq_true] at h
        obtain ⟨_, r1⟩ := reads_frz hr ha h1 h.1
        obtain ⟨_, r2⟩ := reads_frz hr hb h2 h.2
        refine .inr (compareEq_shaped r1 r2 (shaped_toD h.1) (shaped_toD h.2) (by have := as.units; show A.units + 64 < 9900; omega) ?_)
        rw [eqv_toD 8 a' b' h.1 h.2]
        exact OkP.here hr rfl
      · exact .inl rfl

theorem op_ne {n : Nat} {a b : V} {x y : Value} (as : AS n stack A) (hr : HR am stack π Hc s.heap) (ha : VR am π s.heap a x) (hb : VR am π s.heap b y) :
    JAt am stack A (compareOp .NotEq x y) (R.opt (((pyEq Hc a b).map (!·)).map V.bool) Hc) (VR am) π s := by
  unfold pyEq
  cases h1 : frz 0 Hc a with
  | none => exact .inl rfl
  | some a' =>
    cases h2 : frz 0 Hc b with
    | none => exact .inl rfl
    | some b' =>
      simp only
      split
      · rename_i h
        simp only [Bool.and_eq_true] at h
        obtain ⟨_, r1⟩ := reads_frz hr ha h1 h.1
        obtain ⟨_, r2⟩ := reads_frz hr hb h2 h.2
        refine .inr (compareNe_shaped r1 r2 (shaped_toD h.1) (shaped_toD h.2) (by have := as.units; show A.units + 64 < 9900; omega) ?_)
        rw [eqv_toD 8 a' b' h.1 h.2]
        exact OkP.here hr rfl
      · exact .inl rfl


theorem any_toD {n : Nat} {vs : List V} {a : V} (h : vs.all (V.ok n) = true) (ha : V.ok n a = true) : ((toDs vs).any fun y => PyData.eqv y (toD a)) = vs.any fun y => peq y a := by
  induction vs with
  | nil => rfl
  | cons v vs ih =>
    simp only [List.all_cons, Bool.and_eq_true] at h
    simp only [toDs, List.any_cons, eqv_toD n v a h.1 ha, ih h.2]

theorem ok_mono : ∀ (n : Nat) (v : V), V.ok n v = true → V.ok (n + 1) v = true
  | 0, v, h => by simp [V.ok] at h
  | n + 1, v, h => by
    unfold V.ok at h ⊢
    cases v <;> simp only at h ⊢ <;> first | exact h | (simp only [List.all_eq_true] at h ⊢; exact fun x hx => ok_mono n x (h x hx))

/-- in a list or a tuple -/
theorem op_isIn {n : Nat} {a b : V} {x y : Value} (as : AS n stack A) (hr : HR am stack π Hc s.heap) (ha : VR am π s.heap a x) (hb : VR am π s.heap b y) :
    JAt am stack A (compareOp .In x y) (R.opt ((isIn Hc a b).map V.bool) Hc) (VR am) π s ∧ JAt am stack A (compareOp .NotIn x y) (R.opt (((isIn Hc a b).map (!·)).map V.bool) Hc) (VR am) π s := by
  unfold isIn
  cases h1 : frz 0 Hc a with
  | none => exact ⟨.inl rfl, .inl rfl⟩
  | some a' =>
    cases h2 : frz 0 Hc b with
    | none => exact ⟨.inl rfl, .inl rfl⟩
    | some b' =>
      simp only
      split
      · rename_i h
        simp only [Bool.and_eq_true] at h
        obtain ⟨_, r1⟩ := reads_frz hr ha h1 h.1
        obtain ⟨_, r2⟩ := reads_frz hr hb h2 h.2
        have hu : A.units + 100 < cLine := by have := as.units; show A.units + 100 < 9900; omega
        have ca := canLay_toD 8 a' h.1
        have key : ∀ vs : List V, vs.all (V.ok 7) = true → PyData.canLayAll0 (toDs vs) = true ∧ A.units + 1 + min (PyData.depthAll (toDs vs)) (toD a').depth < cLine ∧ ((toDs vs).any fun y => PyData.eqv y (toD a')) = vs.any fun y => peq y a' := fun vs hv => by
          have := canLays_toD 7 vs hv
          refine ⟨this.1, by omega, any_toD (n := 8) (by simp only [List.all_eq_true] at hv ⊢; exact fun x hx => ok_mono 7 x (hv x hx)) h.1⟩
        cases b' with
        | lst vs =>
          have hv : vs.all (V.ok 7) = true := h.2
          obtain ⟨k1, k2, k3⟩ := key vs hv
          refine ⟨.inr (in_list_reads (c := y) (xs := toDs vs) r2 r1 k1 ca.1 k2 ?_), .inr (notIn_list_reads (c := y) (xs := toDs vs) r2 r1 k1 ca.1 k2 ?_)⟩
          · rw [k3]; exact OkP.here hr rfl
          · rw [k3]; exact OkP.here hr rfl
        | tup vs =>
          have hv : vs.all (V.ok 7) = true := h.2
          obtain ⟨k1, k2, k3⟩ := key vs hv
          refine ⟨.inr (in_tuple_reads (c := y) (xs := toDs vs) r2 r1 k1 ca.1 k2 ?_), .inr (notIn_tuple_reads (c := y) (xs := toDs vs) r2 r1 k1 ca.1 k2 ?_)⟩
          · rw [k3]; exact OkP.here hr rfl
          · rw [k3]; exact OkP.here hr rfl
        | _ => exact ⟨.inl rfl, .inl rfl⟩
      · exact ⟨.inl rfl, .inl rfl⟩

theorem ne_none {v : V} {x : Value} (h : VR am π s.heap v x) (hv : v ≠ .none) : (x == Value.none) = false := by
  cases v <;> simp only [VR] at h <;> first | exact h.elim | exact absurd rfl hv | skip
  · subst h; rfl
  · obtain ⟨t, rfl⟩ := h; rfl
  · obtain ⟨t, rfl⟩ := h; rfl
  · obtain ⟨a, xs, rfl, _⟩ := h; rfl
  · obtain ⟨a, xs, rfl, _⟩ := h; rfl
  · obtain ⟨a, rfl, _⟩ := h; rfl
  · obtain ⟨a, _, _, _, rfl, _⟩ := h; rfl

theorem op_is {a b : V} {x y : Value} (hr : HR am stack π Hc s.heap) (ha : VR am π s.heap a x) (hb : VR am π s.heap b y) :
    JAt am stack A (compareOp .Is x y) (R.opt ((pyIs a b).map V.bool) Hc) (VR am) π s ∧ JAt am stack A (compareOp .IsNot x y) (R.opt (((pyIs a b).map (!·)).map V.bool) Hc) (VR am) π s := by
  unfold pyIs
  cases b with
  | none =>
    simp only [VR] at hb; subst hb
    by_cases hv : a = .none
    · subst hv
      simp only [VR] at ha; subst ha
      exact ⟨.inr (is_none (OkP.here hr rfl)), .inr (isNot_none (OkP.here hr rfl))⟩
    · have e := ne_none ha hv
      have key : JAt am stack A (compareOp .Is x Value.none) (R.ok (V.bool false) Hc) (VR am) π s ∧ JAt am stack A (compareOp .IsNot x Value.none) (R.ok (V.bool true) Hc) (VR am) π s := by
        refine ⟨.inr (is_none ?_), .inr (isNot_none ?_)⟩
        · rw [e]; exact OkP.here hr rfl
        · rw [e]; exact OkP.here hr rfl
      cases a <;> first | exact key | exact absurd rfl hv | exact ⟨.inl rfl, .inl rfl⟩
  | bool y' =>
    simp only [VR] at hb; subst hb
    cases a with
    | bool x' =>
      simp only [VR] at ha; subst ha
      have e : (Value.bool x' == Value.bool y') = (x' == y') := by cases x' <;> cases y' <;> rfl
      refine ⟨.inr (wpAny_is_plain (by cases x' <;> cases y' <;> rfl) ?_), .inr ?_⟩
      · rw [e]; exact OkP.here hr rfl
      · refine wpAny_isNot_plain (by cases x' <;> cases y' <;> rfl) ?_
        rw [e]; exact OkP.here hr rfl
    | _ => exact ⟨.inl rfl, .inl rfl⟩
  | _ => exact ⟨.inl rfl, .inl rfl⟩

theorem le_not_lt (a b : Int) : decide (a ≤ b) = !decide (b < a) := by
  rw [← decide_not]; exact decide_eq_decide.mpr (by omega)

theorem op_lt {a b : V} {x y : Value} (hr : HR am stack π Hc s.heap) (ha : VR am π s.heap a x) (hb : VR am π s.heap b y) :
    JAt am stack A (compareOp .Lt x y) (R.opt ((pyLt a b).map V.bool) Hc) (VR am) π s := by
  unfold pyLt
  split
  · simp only [VR] at ha hb; obtain ⟨_, rfl⟩ := ha; obtain ⟨_, rfl⟩ := hb
    exact .inr (lt_int (OkP.here hr rfl))
  · exact .inl rfl
theorem op_gt {a b : V} {x y : Value} (hr : HR am stack π Hc s.heap) (ha : VR am π s.heap a x) (hb : VR am π s.heap b y) :
    JAt am stack A (compareOp .Gt x y) (R.opt ((pyLt b a).map V.bool) Hc) (VR am) π s := by
  unfold pyLt
  split
  · simp only [VR] at ha hb; obtain ⟨_, rfl⟩ := ha; obtain ⟨_, rfl⟩ := hb
    exact .inr (gt_int (OkP.here hr rfl))
  · exact .inl rfl
theorem op_le {a b : V} {x y : Value} (hr : HR am stack π Hc s.heap) (ha : VR am π s.heap a x) (hb : VR am π s.heap b y) :
    JAt am stack A (compareOp .LtE x y) (R.opt (((pyLt b a).map (!·)).map V.bool) Hc) (VR am) π s := by
  unfold pyLt
  split
  · simp only [VR] at ha hb; obtain ⟨_, rfl⟩ := ha; obtain ⟨_, rfl⟩ := hb
    exact .inr (PyProof.Rows.le_int (OkP.here hr (congrArg Value.bool (le_not_lt _ _))))
  · exact .inl rfl
theorem op_ge {a b : V} {x y : Value} (hr : HR am stack π Hc s.heap) (ha : VR am π s.heap a x) (hb : VR am π s.heap b y) :
    JAt am stack A (compareOp .GtE x y) (R.opt (((pyLt a b).map (!·)).map V.bool) Hc) (VR am) π s := by
  unfold pyLt
  split
  · simp only [VR] at ha hb; obtain ⟨_, rfl⟩ := ha; obtain ⟨_, rfl⟩ := hb
    exact .inr (PyProof.Rows.ge_int (OkP.here hr (congrArg Value.bool (le_not_lt _ _))))
  · exact .inl rfl

end

end Mine

namespace Mine
open PySem PySem.W PyProof.Rows

noncomputable abbrev kI (am : Amb) : KeyKind am.prog am.w Int := intKind am.prog am.w
noncomputable abbrev kT (am : Amb) : HeapKind am.prog am.w (List Int) := tupleKind (kI am)

theorem asInts_inj : ∀ {vs ws : List V} {is : List Int}, asInts vs = some is → asInts ws = some is → vs = ws
  | [], [], _, _, _ => rfl
  | [], w :: ws, is, h1, h2 => by
    cases h1
    cases w <;> simp [asInts] at h2
  | v :: vs, [], is, h1, h2 => by
    cases h2
    cases v <;> simp [asInts] at h1
  | v :: vs, w :: ws, is, h1, h2 => by
    cases v with
    | int i => cases w with
      | int j =>
        simp only [asInts, Option.map_eq_some_iff] at h1 h2
        obtain ⟨a, ha, rfl⟩ := h1
        obtain ⟨b, hb, e⟩ := h2
        cases e
        rw [asInts_inj ha hb]
      | _ => exact nomatch h2
    | _ => exact nomatch h1
theorem keyT_tup {k : V} {is : List Int} (h : keyT k = some is) : ∃ vs, k = .tup vs ∧ asInts vs = some is := by
  cases k with
  | tup vs => exact ⟨vs, rfl, h⟩
  | _ => exact nomatch h
theorem keyT_inj {k k' : V} {is : List Int} (h : keyT k = some is) (h' : keyT k' = some is) : k = k' := by
  obtain ⟨vs, rfl, e⟩ := keyT_tup h
  obtain ⟨ws, rfl, e'⟩ := keyT_tup h'
  rw [asInts_inj e e']

section
variable {am : Amb} {stack : List Env} {π : List Addr} {h : Heap}

theorem items_are : ∀ {vs : List V} {xs : List Value} {is : List Int}, asInts vs = some is → VRs am π h vs xs → ItemsAre (kI am) is xs
  | [], xs, is, e, r => by cases e; simp only [VRs] at r; subst r; exact .nil
  | v :: vs, xs, is, e, r => by
    cases v with
    | int i =>
      simp only [asInts, Option.map_eq_some_iff] at e
      obtain ⟨a, ha, rfl⟩ := e
      simp only [VRs, VR] at r
      obtain ⟨x, xs', rfl, ⟨t, rfl⟩, r⟩ := r
      exact .cons (by simp [kI, intKind, Value.isInt]) (items_are ha r)
    | _ => exact nomatch e
theorem key_at {k : V} {x : Value} {is : List Int} (e : keyT k = some is) (r : VR am π h k x) : ∃ a, x = .ref a ∧ IsTupleKey (kI am) h is a := by
  obtain ⟨vs, rfl, e⟩ := keyT_tup e
  simp only [VR] at r
  obtain ⟨a, xs, rfl, _, ⟨o, ho, hc, n, hd⟩, _, rs⟩ := r
  exact ⟨a, rfl, o, _, n, ho, hc, hd, items_are e rs⟩

/-- the entries of a dict cell, as the heap has them -/
inductive DR (am : Amb) (π : List Addr) (h : Heap) : List (V × V) → List (List Int × Addr × Value) → Prop
  | nil : DR am π h [] []
  | cons {k v : V} {is : List Int} {a : Addr} {y : Value} {es : List (V × V)} {ks : List (List Int × Addr × Value)} (hk : keyT k = some is) (ha : VR am π h k (.ref a)) (hv : VR am π h v y) (t : DR am π h es ks) : DR am π h ((k, v) :: es) ((is, a, y) :: ks)

theorem dr_of : ∀ {es : List (V × V)} {xs : List Value}, VRs am π h (es.flatMap fun e => [e.1, e.2]) xs → (∀ e ∈ es, (keyT e.1).isSome = true) → ∃ ks, DR am π h es ks ∧ ents es xs = ks.map (entryOfKey (kT am))
  | [], xs, _, _ => ⟨[], .nil, by cases xs <;> rfl⟩
  | (k, v) :: es, xs, r, g => by
    rw [List.flatMap_cons] at r
    simp only [List.cons_append, List.nil_append, VRs] at r
    obtain ⟨x, _, rfl, hx, y, xs', rfl, hy, r⟩ := r
    obtain ⟨is, hk⟩ := Option.isSome_iff_exists.1 (g _ (List.mem_cons_self ..))
    obtain ⟨a, rfl, _⟩ := key_at hk hx
    obtain ⟨ks, hd, he⟩ := dr_of r fun e he => g e (List.mem_cons_of_mem _ he)
    refine ⟨(is, a, y) :: ks, .cons hk hx hy hd, ?_⟩
    rw [List.map_cons, ← he]
    show (⟨hashV k, .ref a, y⟩ : DictEntry) :: _ = ⟨tupleKeyHash (kI am) is, .ref a, y⟩ :: _
    rw [show hashV k = tupleKeyHash (kI am) is by unfold hashV; rw [show keyT k = some is from hk]; rfl]
theorem DR.is {es : List (V × V)} {ks : List (List Int × Addr × Value)} (d : DR am π h es ks) : ∀ x ∈ ks, IsTupleKey (kI am) h x.1 x.2.1 := by
  induction d with
  | nil => exact fun _ h => nomatch h
  | cons hk ha hv t ih =>
    intro x hx
    rcases List.mem_cons.1 hx with rfl | hx
    · obtain ⟨a, e, r⟩ := key_at hk ha
      cases e; exact r
    · exact ih x hx
theorem DR.key {es : List (V × V)} {ks : List (List Int × Addr × Value)} (d : DR am π h es ks) : ∀ x ∈ ks, ∃ e ∈ es, keyT e.1 = some x.1 := by
  induction d with
  | nil => exact fun _ h => nomatch h
  | cons hk ha hv t ih =>
    intro x hx
    rcases List.mem_cons.1 hx with rfl | hx
    · exact ⟨_, List.mem_cons_self .., hk⟩
    · obtain ⟨e, he, h⟩ := ih x hx
      exact ⟨e, List.mem_cons_of_mem _ he, h⟩
theorem DR.nodup {es : List (V × V)} {ks : List (List Int × Addr × Value)} (d : DR am π h es ks) (hn : (es.map (·.1)).Nodup) : (ks.map (·.1)).Nodup := by
  induction d with
  | nil => exact .nil
  | cons hk ha hv t ih =>
    rw [List.map_cons, List.nodup_cons] at hn ⊢
    refine ⟨fun hm => ?_, ih hn.2⟩
    obtain ⟨x, hx, e⟩ := List.mem_map.1 hm
    obtain ⟨e', he', h'⟩ := t.key x hx
    rw [e] at h'
    exact hn.1 (List.mem_map.2 ⟨e', he', keyT_inj h' hk⟩)
theorem DR.find {es : List (V × V)} {ks : List (List Int × Addr × Value)} (d : DR am π h es ks) {k : V} {is : List Int} (hk : keyT k = some is) :
    (dfind k es = Option.none ∧ atKey ks is = none) ∨ ∃ v p, dfind k es = some v ∧ atKey ks is = some p ∧ VR am π h v p.2 := by
  induction d with
  | nil => exact .inl ⟨rfl, rfl⟩
  | @cons k' v is' a y es ks hk' ha hv t ih =>
    by_cases e : k = k'
    · subst e
      rw [hk] at hk'; cases hk'
      exact .inr ⟨v, (a, y), by rw [dfind, if_pos rfl], by simp [atKey], hv⟩
    · have ne : ¬ is' = is := fun q => e (keyT_inj hk (q ▸ hk'))
      rw [dfind, if_neg e]
      have : atKey ((is', a, y) :: ks) is = atKey ks is := by simp [atKey, List.find?_cons, ne]
      rw [this]; exact ih
/-- a dict cell -/
structure DA (am : Amb) (π : List Addr) (h : Heap) (es : List (V × V)) (d : Addr) (o : Obj) (arr : Array DictEntry) (ep : Nat) (ks : List (List Int × Addr × Value)) : Prop where
  ne : (d == sysModules) = false
  ho : h.get? d = some o
  cls : o.cls = .type "dict"
  dict : o.dict = none
  data : o.data = .dict arr ep
  arr : arr.toList = ks.map (entryOfKey (kT am))
  dr : DR am π h es ks
  nodup : (es.map (·.1)).Nodup
  len : (es.flatMap fun e => [e.1, e.2]).length ≤ 1000000
theorem CellAt.dict {es : List (V × V)} {d : Addr} (x : CellAt am π h (.dict es) d) : ∃ o arr ep ks, DA am π h es d o arr ep ks := by
  obtain ⟨o, xs, ho, ⟨hs, arr, ep, hc, hdi, hd, he, hg⟩, hl, hv⟩ := x
  obtain ⟨ks, hr, e⟩ := dr_of hv hg.2
  exact ⟨o, arr, ep, ks, beq_false_of_ne hs, ho, hc, hdi, hd, he.trans e, hr, hg.1, hl⟩
end

section
variable {am : Amb} {stack : List Env} {A : Around} {π : List Addr} {s : Shared} {Hc : H} {E : Value → Shared → Prop}

theorem DA.typeIs {es : List (V × V)} {d : Addr} {o : Obj} {arr : Array DictEntry} {ep : Nat} {ks : List (List Int × Addr × Value)} (D : DA am π s.heap es d o arr ep ks) : s.TypeIs (.ref d) "dict" := ⟨o, D.ho, D.cls⟩
/-- a key is looked up -/
theorem DA.get {es : List (V × V)} {d a : Addr} {o : Obj} {arr : Array DictEntry} {ep : Nat} {ks : List (List Int × Addr × Value)} {is : List Int} {Q : Option Value → Shared → Prop} (D : DA am π s.heap es d o arr ep ks) (hu : A.units < cLine) (hk : IsTupleKey (kI am) s.heap is a)
    (h : Q ((atKey ks is).map (·.2)) { s with toks := s.toks + (kT am).draws is }) : wpAny am.M A (dictGet d (.ref a)) Q E s := by
  have hn := D.dr.nodup D.nodup
  unfold dictGet
  try with_reducible refine wpAny_holding ?_
  refine wpAny_bind ((kT am).pyHash hu hk (wpAny_bind (wpAny_dictFind_heap (knd := kT am) (s := { s with toks := s.toks + (kT am).draws is }) hu hk D.ho D.data D.arr D.dr.is hn ?_ ?_)))
  · intro hno
    rw [atKey_none_of_get hno] at h
    exact wpAny_pure h
  · intro j p hj
    rw [atKey_of_get hn hj] at h
    refine wpAny_bind (wpAny_dictEntries (s := { s with toks := s.toks + (kT am).draws is }) D.ho D.data ?_)
    rw [entry_at D.arr j, hj]
    exact wpAny_pure h
theorem DA.contains {es : List (V × V)} {d a : Addr} {o : Obj} {arr : Array DictEntry} {ep : Nat} {ks : List (List Int × Addr × Value)} {is : List Int} {Q : Bool → Shared → Prop} (D : DA am π s.heap es d o arr ep ks) (hu : A.in1.units < cLine) (hk : IsTupleKey (kI am) s.heap is a)
    (h : Q (atKey ks is).isSome { s with toks := s.toks + (kT am).draws is }) : wpAny am.M A (PySem.contains (.ref d) (.ref a)) Q E s := by
  unfold PySem.contains
  try with_reducible refine wpAny_holding ?_
  refine wpAny_bind (wpAny_specialOf D.typeIs slot_dict_contains.lookup ?_)
  show wpAny _ _ (if (some (Value.builtin "dict.__contains__") == some Value.none) = true then _ else _) _ E s
  rw [if_neg (by rw [beq_builtin_none]; exact Bool.false_ne_true)]
  refine wpAny_bind (wpAny_callSpecialUnlessNone?_slot (name := Str.ofString "__contains__") D.typeIs slot_dict_contains
    (wpAny_call_entry slot_dict_contains D.typeIs entry_dict_contains ?_ (args_dict_contains _ _)))
  show wpAny _ _ (dictGet d (.ref a) >>= _) _ _ s
  refine wpAny_bind (D.get hu hk ?_)
  cases hf : atKey ks is with
  | some p =>
    rw [hf] at h
    show wpAny _ _ (ret (.bool true)) _ _ _
    exact wpAny_pure ⟨_, rfl, wpAny_truthy_bool h⟩
  | none =>
    rw [hf] at h
    show wpAny _ _ (Builtin.Dict.pendingKey? d (.ref a) >>= _) _ _ _
    exact wpAny_bind (wpAny_pendingKey_other D.ne (wpAny_pure ⟨_, rfl, wpAny_truthy_bool h⟩))

theorem op_dictIn {n : Nat} {i : Nat} {es : List (V × V)} {d : Addr} {a : V} {x : Value} (as : AS n stack A) (hr : HR am stack π Hc s.heap) (hc : Hc[i]? = some (.dict es)) (hp : π[i]? = some d) (ha : VR am π s.heap a x) :
    JAt am stack A (compareOp .In x (.ref d)) (R.opt ((if keyOk a then some (dfind a es).isSome else Option.none).map V.bool) Hc) (VR am) π s ∧ JAt am stack A (compareOp .NotIn x (.ref d)) (R.opt (((if keyOk a then some (dfind a es).isSome else Option.none).map (!·)).map V.bool) Hc) (VR am) π s := by
  cases hk : keyT a with
  | none =>
    have e : keyOk a = false := by unfold keyOk; rw [hk]; rfl
    rw [e]; exact ⟨.inl rfl, .inl rfl⟩
  | some is =>
    have e : keyOk a = true := by unfold keyOk; rw [hk]; rfl
    rw [e]
    obtain ⟨o, arr, ep, ks, D⟩ := (hr.cell i _ d hc hp).dict
    obtain ⟨b, rfl, hb⟩ := key_at hk ha
    have hu : A.in1.units < cLine := by have := as.units; show A.units + 1 < 9900; omega
    have ef : (atKey ks is).isSome = (dfind a es).isSome := by
      rcases D.dr.find hk with ⟨h1, h2⟩ | ⟨v, p, h1, h2, _⟩ <;> rw [h1, h2] <;> rfl
    refine ⟨.inr ?_, .inr ?_⟩
    · show wpAny _ _ (do return Value.bool (← PySem.contains (.ref d) (.ref b))) _ _ s
      refine wpAny_bind (D.contains hu hb (wpAny_pure ?_))
      rw [ef]; exact OkP.tok hr rfl
    · show wpAny _ _ (do return Value.bool (!(← PySem.contains (.ref d) (.ref b)))) _ _ s
      refine wpAny_bind (D.contains hu hb (wpAny_pure ?_))
      rw [ef]; exact OkP.tok hr rfl
end
end Mine

namespace Mine
open PySem PySem.W PyProof.Rows

section
variable {am : Amb} {stack : List Env} {A : Around} {π : List Addr} {s : Shared} {Hc : H}

theorem op_pow {t u : Tok} (hr : HR am stack π Hc s.heap) : JAt am stack A (binaryOp .Pow (.int 10 t) (.int 20 u)) (.ok (V.int 100000000000000000000) Hc) (VR am) π s :=
  .inr (pow_int (by decide) (by decide +kernel) (OkP.tok hr ⟨_, rfl⟩))

theorem op_bin {n : Nat} {op : Bop} {a b : V} {x y : Value} (ok : AmbOK am) (st : StackOK stack) (as : AS n stack A) (hr : HR am stack π Hc s.heap) (ha : VR am π s.heap a x) (hb : VR am π s.heap b y) :
    JAt am stack A (binaryOp (bopM op) x y) (R.opt (pyBin op Hc a b) Hc) (VR am) π s := by
  cases op with
  | add =>
    show JAt _ _ _ _ (R.opt (pyAdd Hc a b) Hc) _ _ _
    rcases pyAdd_cases Hc a b with h | ⟨i, j, rfl, rfl⟩ | ⟨us, ws, rfl, rfl⟩ | ⟨us, ws, h1, h2, h⟩
    · rw [h]; exact .inl rfl
    · simp only [VR] at ha hb; obtain ⟨_, rfl⟩ := ha; obtain ⟨_, rfl⟩ := hb; exact op_add_int hr
    · exact op_add_tup hr ha hb
    · rw [h]; exact op_add_list hr ha hb h1 h2
  | sub =>
    rcases int2_cases (fun x y => some (V.int (x - y))) a b with h | ⟨i, j, rfl, rfl⟩
    · show JAt _ _ _ _ (R.opt (int2 (fun x y => some (V.int (x - y))) a b) Hc) _ _ _
      rw [h]; exact .inl rfl
    · simp only [VR] at ha hb; obtain ⟨_, rfl⟩ := ha; obtain ⟨_, rfl⟩ := hb; exact op_sub_int hr
  | mul =>
    show JAt _ _ _ _ (R.opt (pyMul Hc a b) Hc) _ _ _
    rcases pyMul_cases Hc a b with h | ⟨i, j, rfl, rfl⟩ | ⟨k, rfl, h⟩
    · rw [h]; exact .inl rfl
    · simp only [VR] at ha hb; obtain ⟨_, rfl⟩ := ha; obtain ⟨_, rfl⟩ := hb
      show JAt _ _ _ _ (R.opt (if i.natAbs < 9223372036854775808 ∨ j.natAbs < 9223372036854775808 then some (V.int (i * j)) else Option.none) Hc) _ _ _
      split
      · rename_i h; exact op_mul_int hr h
      · exact .inl rfl
    · rw [h]
      split
      · rename_i hk
        simp only [VR] at hb
        obtain ⟨u, rfl⟩ := hb
        cases h1 : litems Hc a with
        | none => exact .inl rfl
        | some vs => exact op_mul_list hr ha h1 ⟨hk.2, hk.1⟩
      · exact .inl rfl
  | fdiv =>
    show JAt _ _ _ _ (R.opt (int2 (fun x y => if y = 0 then Option.none else some (V.int (x.fdiv y))) a b) Hc) _ _ _
    rcases int2_cases (fun x y => if y = 0 then Option.none else some (V.int (x.fdiv y))) a b with h | ⟨i, j, rfl, rfl⟩
    · rw [h]; exact .inl rfl
    · simp only [VR] at ha hb; obtain ⟨_, rfl⟩ := ha; obtain ⟨_, rfl⟩ := hb
      show JAt _ _ _ _ (R.opt (if j = 0 then Option.none else some (V.int (i.fdiv j))) Hc) _ _ _
      split
      · exact .inl rfl
      · rename_i h; exact op_fdiv_int ok st as hr h
  | mod =>
    show JAt _ _ _ _ (R.opt (int2 (fun x y => if y = 0 then Option.none else some (V.int (x.fmod y))) a b) Hc) _ _ _
    rcases int2_cases (fun x y => if y = 0 then Option.none else some (V.int (x.fmod y))) a b with h | ⟨i, j, rfl, rfl⟩
    · rw [h]; exact .inl rfl
    · simp only [VR] at ha hb; obtain ⟨_, rfl⟩ := ha; obtain ⟨_, rfl⟩ := hb
      show JAt _ _ _ _ (R.opt (if j = 0 then Option.none else some (V.int (i.fmod j))) Hc) _ _ _
      split
      · exact .inl rfl
      · rename_i h; exact op_mod_int hr h
  | pow =>
    show JAt _ _ _ _ (R.opt (int2 (fun x y => if x = 10 ∧ y = 20 then some (V.int 100000000000000000000) else Option.none) a b) Hc) _ _ _
    rcases int2_cases (fun x y => if x = 10 ∧ y = 20 then some (V.int 100000000000000000000) else Option.none) a b with h | ⟨i, j, rfl, rfl⟩
    · rw [h]; exact .inl rfl
    · simp only [VR] at ha hb; obtain ⟨_, rfl⟩ := ha; obtain ⟨_, rfl⟩ := hb
      show JAt _ _ _ _ (R.opt (if i = 10 ∧ j = 20 then some (V.int 100000000000000000000) else Option.none) Hc) _ _ _
      split
      · rename_i h; obtain ⟨rfl, rfl⟩ := h; exact op_pow hr
      · exact .inl rfl

theorem op_pyIn {n : Nat} {a b : V} {x y : Value} (as : AS n stack A) (hr : HR am stack π Hc s.heap) (ha : VR am π s.heap a x) (hb : VR am π s.heap b y) :
    JAt am stack A (compareOp .In x y) (R.opt ((pyIn Hc a b).map V.bool) Hc) (VR am) π s ∧ JAt am stack A (compareOp .NotIn x y) (R.opt (((pyIn Hc a b).map (!·)).map V.bool) Hc) (VR am) π s := by
  unfold pyIn
  cases b with
  | ref i =>
    simp only
    split
    · rename_i es hc
      simp only [VR] at hb
      obtain ⟨ad, rfl, hp⟩ := hb
      exact op_dictIn as hr hc hp ha
    · exact op_isIn as hr ha hb
  | _ => exact op_isIn as hr ha hb

theorem op_cmp {n : Nat} {op : Cop} {a b : V} {x y : Value} (as : AS n stack A) (hr : HR am stack π Hc s.heap) (ha : VR am π s.heap a x) (hb : VR am π s.heap b y) :
    JAt am stack A (compareOp (copM op) x y) (R.opt ((pyCmp op Hc a b).map V.bool) Hc) (VR am) π s := by
  cases op with
  | eq => exact op_eq as hr ha hb
  | ne => exact op_ne as hr ha hb
  | lt => exact op_lt hr ha hb
  | le => exact op_le hr ha hb
  | gt => exact op_gt hr ha hb
  | ge => exact op_ge hr ha hb
  | is => exact (op_is hr ha hb).1
  | isNot => exact (op_is hr ha hb).2
  | isin => exact (op_pyIn as hr ha hb).1
  | notIn => exact (op_pyIn as hr ha hb).2

theorem op_not {a : V} {x : Value} (hr : HR am stack π Hc s.heap) (ha : VR am π s.heap a x) :
    JAt am stack A (unaryOp .Not x) ((match truthy a with | some b => R.ok (V.bool (!b)) Hc | Option.none => R.bad)) (VR am) π s := by
  cases a with
  | bool b => simp only [VR] at ha; subst ha; exact .inr (not_value (wpAny_truthy_bool (OkP.here hr rfl)))
  | _ => exact .inl rfl

/-- the tail of a subscript -/
theorem sub_tail {E : Value → Shared → Prop} {value slice : Expr} {o i : Value} {T id : String} {Q : Value → Shared → Prop} (hT : s.TypeIs o T)
    (hl : typeLookup (.type T) "__getitem__" = pure (some (.builtin id))) (h : wpAny am.M A (getItem o i) Q E s) : wpAny am.M A (subscriptTail value slice o i) Q E s := by
  unfold subscriptTail
  refine wpAny_bind ?_
  rw [getitemInPython_of_ne hT.not_modules]
  refine wpAny_bind (wpAny_specialOf hT hl ?_)
  have hs : wpAny am.M A (subscripted slice false o i) Q E s := by
    unfold subscripted
    split
    · exact operate_wp h
    · rename_i hb; cases hb
    · exact operate_wp h
  have fin : wpAny am.M A (subscripted slice false o i) (fun r s₃ => wpAny am.M A (letTemporaryGo value o r >>= fun _ => pure r) Q E s₃) E s :=
    wpAny_mono hs (fun r s₃ h₃ => wpAny_bind (wpAny_letTemporaryGo (wpAny_pure h₃))) fun _ _ x => x
  first
    | exact wpAny_pure (wpAny_bind fin)
    | exact wpAny_bind (wpAny_pure (wpAny_bind fin))
    | exact wpAny_bind fin

theorem place_lt {n : Nat} {i : Int} {j : Nat} (h : place n i = some j) : j < n ∧ (i = j ∨ (i < 0 ∧ (i + n).toNat = j ∧ -(n : Int) ≤ i)) := by
  unfold place at h
  split at h
  · split at h
    · cases h; omega
    · cases h
  · split at h
    · cases h; omega
    · cases h

theorem item_list {l : Addr} {xs : List Value} {x : Value} {k : Int} {t : Tok} {j : Nat} {Q : Value → Shared → Prop} {E : Value → Shared → Prop} (hl : s.heap.IsList l (List.toArray xs)) (hz : xs.length ≤ 1000000) (hj : place xs.length k = some j) (hx : xs[j]? = some x) (h : Q x s) :
    wpAny am.M A (getItem (.ref l) (.int k t)) Q E s := by
  obtain ⟨h1, h2⟩ := place_lt hj
  rcases h2 with rfl | ⟨h2, rfl, h3⟩
  · exact wpAny_getItem_list hl (by omega) (by omega) (by simpa using hx) h
  · exact wpAny_getItem_list_neg hl h2 (by simpa using h3) (by omega) (by simpa using hx) h

theorem op_dictIdx {value slice : Expr} {n r : Nat} {es : List (V × V)} {d : Addr} {i : V} {y : Value} (as : AS n stack A) (hr : HR am stack π Hc s.heap) (hc : Hc[r]? = some (.dict es)) (hp : π[r]? = some d) (hi : VR am π s.heap i y) :
    JAt am stack A (subscriptTail value slice (.ref d) y) (R.opt (if keyOk i then dfind i es else Option.none) Hc) (VR am) π s := by
  cases hk : keyT i with
  | none =>
    have e : keyOk i = false := by unfold keyOk; rw [hk]; rfl
    rw [e]; exact .inl rfl
  | some is =>
    have e : keyOk i = true := by unfold keyOk; rw [hk]; rfl
    rw [e, if_pos rfl]
    obtain ⟨o, arr, ep, ks, D⟩ := (hr.cell r _ d hc hp).dict
    obtain ⟨b, rfl, hb⟩ := key_at hk hi
    have hu : A.in1.units < cLine := by have := as.units; show A.units + 1 < 9900; omega
    rcases D.dr.find hk with ⟨h1, h2⟩ | ⟨v, p, h1, h2, hv⟩
    · rw [h1]; exact .inl rfl
    · rw [h1]
      refine .inr (sub_tail D.typeIs slot_dict_getitem.lookup ?_)
      unfold getItem
      try with_reducible refine wpAny_holding ?_
      refine wpAny_bind (wpAny_sequenceKey D.typeIs (by decide) ?_)
      refine wpAny_bind (wpAny_callSpecial?_slot (name := Str.ofString "__getitem__") D.typeIs slot_dict_getitem
        (wpAny_call_entry slot_dict_getitem D.typeIs entry_dict_getitem ?_ (args_dict_getitem _ _)))
      show wpAny _ _ (dictGet d (.ref b) >>= _) _ _ s
      refine wpAny_bind (D.get hu hb ?_)
      rw [h2]
      exact wpAny_pure ⟨p.2, rfl, wpAny_pure (OkP.tok hr hv)⟩
theorem op_idx {value slice : Expr} {n : Nat} {a i : V} {x y : Value} (as : AS n stack A) (hr : HR am stack π Hc s.heap) (ha : VR am π s.heap a x) (hi : VR am π s.heap i y) :
    JAt am stack A (subscriptTail value slice x y) (R.opt (pyIdx Hc a i) Hc) (VR am) π s := by
  have lists : ∀ (l : Addr) (xs : List Value) (vs : List V), x = .ref l → s.heap.IsList l (List.toArray xs) → vs.length ≤ 1000000 → VRs am π s.heap vs xs →
      JAt am stack A (subscriptTail value slice x y) (R.opt (match i with | .int k => (place vs.length k).bind fun j => vs[j]? | _ => Option.none) Hc) (VR am) π s := by
    rintro l xs vs rfl hl hz hv
    cases i with
    | int k =>
      simp only
      simp only [VR] at hi
      obtain ⟨t, rfl⟩ := hi
      cases hj : place vs.length k with
      | none => exact .inl rfl
      | some j =>
        cases hw : vs[j]? with
        | none => exact .inl (by simp [hw])
        | some v =>
          obtain ⟨x', hx', hvx⟩ := hv.get j v hw
          simp only [Option.bind_some, hw, R.opt_some]
          exact .inr (sub_tail hl.typeIs list_getitem_lookup (item_list hl (by rw [hv.len]; exact hz) (by rw [hv.len]; exact hj) hx' (OkP.here hr hvx)))
    | _ => exact .inl rfl
  unfold pyIdx
  cases a with
  | ref r =>
    simp only
    simp only [VR] at ha
    obtain ⟨ad, rfl, hp⟩ := ha
    cases hc : Hc[r]? with
    | none => exact .inl rfl
    | some c =>
      cases c with
      | list vs =>
        obtain ⟨xs, h1, h2, h3⟩ := (hr.cell r _ ad hc hp).list
        exact lists ad xs vs rfl h1.is h2 h3
      | dict es => exact op_dictIdx as hr hc hp hi
  | lst vs =>
    simp only [VR] at ha
    obtain ⟨ad, xs, rfl, _, h1, h2, h3⟩ := ha
    exact lists ad xs vs rfl h1 h2 h3
  | tup vs =>
    simp only [VR] at ha
    obtain ⟨ad, xs, rfl, _, h1, hz, hv⟩ := ha
    cases i with
    | int k =>
      simp only
      simp only [VR] at hi
      obtain ⟨t, rfl⟩ := hi
      cases hj : place vs.length k with
      | none => exact .inl rfl
      | some j =>
        cases hw : vs[j]? with
        | none => exact .inl (by simp [hw])
        | some v =>
          obtain ⟨x', hx', hvx⟩ := hv.get j v hw
          simp only [Option.bind_some, hw, R.opt_some]
          obtain ⟨h5, h6⟩ := place_lt hj
          have e := hv.len
          refine .inr (sub_tail h1.typeIs slot_tuple_getitem.lookup (getItem_tuple (j := j) h1 (by omega) (by omega) ?_ (by simpa using hx') (OkP.here hr hvx)))
          rcases h6 with rfl | ⟨h6, rfl, h7⟩
          · have hn : ¬ ((j : Int) < 0) := by omega
            unfold seqIndex?
            simp only [hn, if_false, List.size_toArray, e]
            rw [if_pos (by simp only [Bool.and_eq_true, decide_eq_true_eq]; omega)]
            simp
          · have := seqIndex_neg (n := vs.length) h6 h7
            simpa [e] using this
    | _ => exact .inl rfl
  | _ => exact .inl rfl
end

end Mine

namespace Mine
open PySem PySem.W PyProof.Rows

theorem via_upto {am : Amb} {π : List Addr} {h h' : Heap} (k : h.UpToSlots h') : Via am am π π h h' := ⟨fun a o ho hn h1 h2 => ⟨k a o ho hn, h1, h2⟩, fun _ _ e => e⟩
theorem VR.upto {am : Amb} {π : List Addr} {h h' : Heap} (k : h.UpToSlots h') {v : V} {y : Value} (e : VR am π h v y) : VR am π h' v y := e.via (via_upto k)
theorem VRs.upto {am : Amb} {π : List Addr} {h h' : Heap} (k : h.UpToSlots h') {vs : List V} {ys : List Value} (e : VRs am π h vs ys) : VRs am π h' vs ys := e.via (via_upto k)

theorem CellAt.upto {am : Amb} {π : List Addr} {h h' : Heap} (k : h.UpToSlots h') {c : Cell} {a : Addr} (e : CellAt am π h c a) : CellAt am π h' c a := by
  exact e.via (via_upto k) fun o ho hn => k a o ho hn

theorem HR.upto {am : Amb} {stack : List Env} {π : List Addr} {Hc : H} {h h' : Heap} (x : HR am stack π Hc h) (k : h.UpToSlots h') (kb : am.B.StaysIn h') : HR am stack π Hc h' :=
  ⟨kb, funFrames_slots k x.frames, x.len, x.nodup, fun a ha => let ⟨o, ho, hn⟩ := x.res a ha; let ⟨_, hs⟩ := k a o ho hn; ⟨_, hs, hn⟩, x.off, fun i c a h1 h2 => (x.cell i c a h1 h2).upto k⟩

noncomputable def NoExc (ρ : List V) : Prop := ∀ v ∈ ρ, ∀ c, v ≠ .exc c

theorem NoExc.set {ρ : List V} (x : NoExc ρ) {i : Nat} {v : V} (hv : ∀ c, v ≠ .exc c) : NoExc (ρ.set i v) := fun u hu c => by
  rcases List.mem_or_eq_of_mem_set hu with h | h
  · exact x u h c
  · subst h; exact hv c
theorem VR.noexc {am : Amb} {π : List Addr} {h : Heap} {v : V} {x : Value} (e : VR am π h v x) : ∀ c, v ≠ .exc c := fun c q => by subst q; exact e

theorem SR.vr {am : Amb} {π : List Addr} {h : Heap} {v : V} {x : Value} (e : SR am π h v x) (n : ∀ c, v ≠ .exc c) : VR am π h v x := by
  rcases e with e | ⟨c, a, h1, _⟩
  · exact e
  · exact absurd h1 (n c)

theorem ER.upto {am : Amb} {cx : Cx} {ρ : List V} {π : List Addr} {h h' : Heap} (e : ER am cx ρ π h) (k : h.UpToSlots h') (ne : NoExc ρ) : ER am cx ρ π h' := by
  have cell : ∀ {c v}, h.IsCell c v → h'.IsCell c v := fun {c v} ⟨o, ho, hd⟩ => by
    obtain ⟨sl, hs⟩ := k c o ho (fun us q => by rw [hd] at q; cases q)
    exact ⟨_, hs, hd⟩
  obtain ⟨m, hm⟩ := e.ns
  refine ⟨⟨m, k.ns hm⟩, e.locOff, fun y c hc => ?_, e.apart, fun y i v h1 h2 h3 h4 => ?_⟩
  · refine hold fun _ k_ => ?_
    obtain ⟨h1, h2, v, h3⟩ := e.cellOff y c hc
    refine k_ ?_
    exact ⟨h1, h2, v, cell h3⟩
  · obtain ⟨v', h5, h6⟩ := e.var y i v h1 h2 h3 h4
    refine ⟨v', ?_, .inl ((h6.vr (ne v (List.mem_of_getElem? h2))).upto k)⟩
    rcases h5 with ⟨q, m', h7, h8⟩ | ⟨q, c, h7, h8⟩
    · exact .inl ⟨q, m', k.ns h7, h8⟩
    · exact .inr ⟨q, c, h7, cell h8⟩

/-- only the record I is turned -/
noncomputable def Poke (I : Addr) (h h' : Heap) : Prop := ∀ b o, b ≠ I → h.get? b = some o → h'.get? b = some o

theorem Poke.slots {I : Addr} {h h' : Heap} (p : Poke I h h') {o : Obj} {us : Array Value} (ho : h.get? I = some o) (hd : o.data = .fields us) : h.UpToSlots h' := fun b o' hb hn =>
  ⟨o'.slots, p b o' (fun q => by subst q; rw [ho] at hb; cases hb; exact hn us hd) hb⟩

theorem Step.poke {Fs π π' : List Addr} {s s' : Shared} {I : Addr} {h'' : Heap} {tk : Nat} (x : Step Fs π s π' s') (hI : s.heap.get? I = none) (p : Poke I s'.heap h'') : Step Fs π s π' { s' with heap := h'', toks := tk } := by
  have ne : ∀ {b o}, s.heap.get? b = some o → b ≠ I := fun {b o} e q => by subst q; rw [hI] at e; cases e
  obtain ⟨h', tk', rfl⟩ := x.same
  refine ⟨⟨h'', tk, rfl⟩, ⟨fun a o e h1 h2 => p a o (ne e) (x.ext.keep a o e h1 h2), fun a o e h1 => ?_, fun a o e => ?_⟩, x.grow⟩
  · obtain ⟨sl, h3⟩ := x.ext.slots a o e h1
    exact ⟨sl, p a _ (ne e) h3⟩
  · obtain ⟨o', h3⟩ := x.ext.alive a o e
    exact ⟨o', p a o' (ne e) h3⟩

theorem HR.poke {am : Amb} {stack : List Env} {π : List Addr} {Hc : H} {h h' : Heap} {I : Addr} (x : HR am stack π Hc h) (p : Poke I h h') {o : Obj} {us : Array Value} (ho : h.get? I = some o) (hd : o.data = .fields us) (hB : am.B.get? I = none) : HR am stack π Hc h' :=
  x.upto (p.slots ho hd) fun b o' e => p b o' (fun q => by subst q; rw [hB] at e; cases e) (x.base b o' e)

theorem via_free {am : Amb} {π : List Addr} {h h' : Heap} (k : ∀ b o, b ∉ am.res → h.get? b = some o → h'.get? b = some o) : Via am am π π h h' := ⟨fun a o ho _ h1 h2 => ⟨⟨o.slots, k a o h2 ho⟩, h1, h2⟩, fun _ _ e => e⟩
/-- what is in the making stands in no value -/
theorem VR.free {am : Amb} {π : List Addr} {h h' : Heap} (k : ∀ b o, b ∉ am.res → h.get? b = some o → h'.get? b = some o) {v : V} {y : Value} (e : VR am π h v y) : VR am π h' v y := e.via (via_free k)
theorem VRs.free {am : Amb} {π : List Addr} {h h' : Heap} (k : ∀ b o, b ∉ am.res → h.get? b = some o → h'.get? b = some o) {vs : List V} {ys : List Value} (e : VRs am π h vs ys) : VRs am π h' vs ys := e.via (via_free k)

/-- from one state to a later one, where the reserved things may change too -/
structure Mv (R Fs π : List Addr) (s : Shared) (π' : List Addr) (s' : Shared) : Prop where
  same : ∃ h' tk, s' = { s with heap := h', toks := tk }
  keep : ∀ a o, s.heap.get? a = some o → a ∉ π → a ∉ Fs → a ∉ R → s'.heap.get? a = some o
  slots : ∀ a o, s.heap.get? a = some o → a ∉ π → a ∉ R → ∃ sl, s'.heap.get? a = some { o with slots := sl }
  alive : ∀ a o, s.heap.get? a = some o → ∃ o', s'.heap.get? a = some o'
  grow : ∃ δ, π' = π ++ δ ∧ ∀ a ∈ δ, s.heap.get? a = none

theorem Mv.of {R Fs π π' : List Addr} {s s' : Shared} (x : Step Fs π s π' s') : Mv R Fs π s π' s' :=
  ⟨x.same, fun a o h1 h2 h3 _ => x.ext.keep a o h1 h2 h3, fun a o h1 h2 _ => x.ext.slots a o h1 h2, x.ext.alive, x.grow⟩
theorem Mv.notin {R Fs π π' : List Addr} {s s' : Shared} (x : Mv R Fs π s π' s') {a : Addr} {o : Obj} (ho : s.heap.get? a = some o) (ha : a ∉ π) : a ∉ π' := by
  obtain ⟨δ, rfl, hδ⟩ := x.grow
  intro hm
  rcases List.mem_append.mp hm with h1 | h1
  · exact ha h1
  · have := hδ a h1; rw [ho] at this; cases this
theorem Mv.trans {R Fs π₀ π₁ π₂ : List Addr} {s₀ s₁ s₂ : Shared} (x : Mv R Fs π₀ s₀ π₁ s₁) (y : Mv R Fs π₁ s₁ π₂ s₂) : Mv R Fs π₀ s₀ π₂ s₂ := by
  refine ⟨?_, fun a o e h1 h2 h3 => ?_, fun a o e h1 h3 => ?_, fun a o e => ?_, ?_⟩
  · obtain ⟨h', tk, rfl⟩ := x.same
    obtain ⟨h'', tk', rfl⟩ := y.same
    exact ⟨_, _, rfl⟩
  · exact y.keep a o (x.keep a o e h1 h2 h3) (x.notin e h1) h2 h3
  · obtain ⟨sl, h4⟩ := x.slots a o e h1 h3
    obtain ⟨sl', h5⟩ := y.slots a _ h4 (x.notin e h1) h3
    exact ⟨sl', h5⟩
  · obtain ⟨o', h4⟩ := x.alive a o e
    exact y.alive a o' h4
  · obtain ⟨δ, rfl, hδ⟩ := x.grow
    obtain ⟨δ', rfl, hδ'⟩ := y.grow
    refine ⟨δ ++ δ', by simp, fun a ha => ?_⟩
    rcases List.mem_append.mp ha with h1 | h1
    · exact hδ a h1
    · cases hq : s₀.heap.get? a with
      | none => rfl
      | some o =>
        obtain ⟨o', h3⟩ := x.alive a o hq
        have := hδ' a h1; rw [h3] at this; cases this
theorem Mv.poke {R Fs π π' : List Addr} {s s' : Shared} {C : Addr} {h'' : Heap} {tk : Nat} (x : Mv R Fs π s π' s') (hC : (C ∈ R ∧ ∃ o, h''.get? C = some o) ∨ s.heap.get? C = none) (p : Poke C s'.heap h'') : Mv R Fs π s π' { s' with heap := h'', toks := tk } := by
  have ne : ∀ {b o}, s.heap.get? b = some o → b ∉ R → b ≠ C := fun {b o} e hb q => by
    subst q
    rcases hC with h | h
    · exact hb h.1
    · rw [h] at e; cases e
  obtain ⟨h', tk', rfl⟩ := x.same
  refine ⟨⟨h'', tk, rfl⟩, fun a o e h1 h2 h3 => p a o (ne e h3) (x.keep a o e h1 h2 h3), fun a o e h1 h3 => ?_, fun a o e => ?_, x.grow⟩
  · obtain ⟨sl, h4⟩ := x.slots a o e h1 h3
    exact ⟨sl, p a _ (ne e h3) h4⟩
  · obtain ⟨o', h4⟩ := x.alive a o e
    by_cases hq : a = C
    · subst hq
      rcases hC with h | h
      · exact h.2
      · rw [h] at e; cases e
    · exact ⟨o', p a o' hq h4⟩

theorem via_move {am : Amb} {Fs π π' : List Addr} {s s' : Shared} (x : Mv am.res Fs π s π' s') : Via am am π π' s.heap s'.heap :=
  ⟨fun a o ho _ h1 h2 => ⟨x.slots a o ho h1 h2, x.notin ho h1, h2⟩, fun i a ha => by
    obtain ⟨δ, rfl, _⟩ := x.grow
    rw [List.getElem?_append_left (List.getElem?_eq_some_iff.mp ha).1]; exact ha⟩
theorem VR.move {am : Amb} {Fs π π' : List Addr} {s s' : Shared} (x : Mv am.res Fs π s π' s') {v : V} {y : Value} (e : VR am π s.heap v y) : VR am π' s'.heap v y := e.via (via_move x)
theorem VRs.move {am : Amb} {Fs π π' : List Addr} {s s' : Shared} (x : Mv am.res Fs π s π' s') {vs : List V} {ys : List Value} (e : VRs am π s.heap vs ys) : VRs am π' s'.heap vs ys := e.via (via_move x)

/-- a thing that goes through vs; Sx k: it stands ahead of the k-th -/
structure Iter (am : Amb) (stack : List Env) (A : Around) (I : Addr) (wt : Watch) (vs : List V) (Sx : Nat → List Addr → Heap → Prop) : Prop where
  stable : ∀ k π (s : Shared) π' (s' : Shared), Sx k π s.heap → Step (Fs stack) π s π' s' → Sx k π' s'.heap
  move : ∀ k π (s : Shared) π' (s' : Shared), Sx k π s.heap → Mv am.res (Fs stack) π s π' s' → Sx k π' s'.heap
  free : ∀ k π (h h' : Heap), Sx k π h → (∀ b o, b ∉ am.res → h.get? b = some o → h'.get? b = some o) → Sx k π h'
  own : ∀ k π h, Sx k π h → I ∉ π ∧ I ∉ Fs stack ∧ ∃ o us, h.get? I = some o ∧ o.data = .fields us
  item : ∀ k π (Hc : H) (s : Shared) v (Q : Option Value → Shared → Prop) (E : Value → Shared → Prop), Sx k π s.heap → HR am stack π Hc s.heap → wt.ok Hc = true → vs[k]? = some v →
    (∀ x h' tk, Poke I s.heap h' → VR am π h' v x → Sx (k + 1) π h' → Q (some x) { s with heap := h', toks := tk }) → wpAny am.M A (pyNext (.ref I)) Q E s
  done : ∀ π (Hc : H) (s : Shared) (Q : Option Value → Shared → Prop) (E : Value → Shared → Prop), Sx vs.length π s.heap → HR am stack π Hc s.heap → wt.ok Hc = true →
    (∀ h' tk, Poke I s.heap h' → Q none { s with heap := h', toks := tk }) → wpAny am.M A (pyNext (.ref I)) Q E s
  self : ∀ k π (s : Shared) (Q : Value → Shared → Prop) (E : Value → Shared → Prop), Sx k π s.heap → Q (.ref I) s → wpAny am.M A (pyIter (.ref I)) Q E s

section
variable {am : Amb} {stack : List Env} {A : Around}

/-- a list by value -/
theorem Iter.lst (hh : A.handled = none) {I l : Addr} {vs : List V} : Iter am stack A I none vs (fun k π h => I ∉ π ∧ I ∉ Fs stack ∧ h.IsListIter I l k ∧ (l ∉ π ∧ I ∉ am.res ∧ l ∉ am.res) ∧ ∃ xs, h.IsList l (List.toArray xs) ∧ VRs am π h vs xs) where
  stable := by
    rintro k π s π' s' ⟨h1, h2, h3, h4, xs, h5, h6⟩ x
    obtain ⟨o, ho, hr⟩ := id h3
    obtain ⟨o', ho', _⟩ := id h5
    exact ⟨x.notin ho h1, h2, ⟨o, x.ext.keep _ _ ho h1 h2, hr⟩, ⟨x.notin ho' h4.1, h4.2⟩, xs, x.ext.list h5 h4.1, h6.step x⟩
  move := by
    rintro k π s π' s' ⟨h1, h2, h3, h4, xs, h5, h6⟩ x
    obtain ⟨o, ho, hr⟩ := id h3
    refine hold fun _ k_ => ?_
    obtain ⟨o', ho', hc', n', hd'⟩ := id h5
    refine k_ ?_
    obtain ⟨sl, hs⟩ := x.slots _ _ ho' h4.1 h4.2.2
    exact ⟨x.notin ho h1, h2, ⟨o, x.keep _ _ ho h1 h2 h4.2.1, hr⟩, ⟨x.notin ho' h4.1, h4.2⟩, xs, ⟨_, hs, hc', n', hd'⟩, h6.move x⟩
  free := by
    rintro k π h h' ⟨h1, h2, ⟨o, ho, hr⟩, h4, xs, ⟨o', ho', r⟩, h6⟩ kk
    exact ⟨h1, h2, ⟨o, kk _ _ h4.2.1 ho, hr⟩, h4, xs, ⟨o', kk _ _ h4.2.2 ho', r⟩, h6.free kk⟩
  own := by
    rintro k π h ⟨h1, h2, ⟨o, ho, hc, hd⟩, _⟩
    exact ⟨h1, h2, o, _, ho, hd⟩
  item := by
    rintro k π Hc s v Q E ⟨h1, h2, h3, h4, xs, h5, h6⟩ hr _ hv hQ
    obtain ⟨x, hx, hvx⟩ := h6.get k v hv
    refine hold fun _ k_ => ?_
    obtain ⟨o, ho, hc, hd⟩ := id h3
    refine k_ ?_
    refine wpAny_pyNext_list_item h3 h5 (x := x) (by simpa using hx) fun h' hit' hs' => ?_
    have p : Poke I s.heap h' := fun b o hb e => hs'.extBut b o hb e
    have u := p.slots ho hd
    refine hold fun _ k_ => ?_
    obtain ⟨ol, hol, hcl, n, hdl⟩ := id h5
    refine k_ ?_
    have hne : l ≠ I := fun q => by subst q; rw [ho] at hol; cases hol; rw [hd] at hdl; cases hdl
    exact hQ x h' s.toks p (hvx.upto u) ⟨h1, h2, hit', h4, xs, ⟨ol, p _ _ hne hol, hcl, n, hdl⟩, h6.upto u⟩
  done := by
    rintro π Hc s Q E ⟨h1, h2, h3, h4, xs, h5, h6⟩ hr _ hQ
    exact wpAny_pyNext_list_end hh h3 h5 (by simp [h6.len]) fun h' he' => hQ h' s.toks fun b o hb e => he' b o hb e
  self := fun _ _ _ _ _ st hQ => wpAny_pyIter_listiter st.2.2.1 hQ

/-- a list that is a cell: it is not to change meanwhile -/
theorem Iter.cell (hh : A.handled = none) {I : Addr} {i : Nat} {vs : List V} : Iter am stack A I (some (i, .list vs)) vs (fun k π h => I ∉ π ∧ (I ∉ Fs stack ∧ I ∉ am.res) ∧ ∃ l, π[i]? = some l ∧ h.IsListIter I l k) where
  stable := by
    rintro k π s π' s' ⟨h1, h2, l, h4, h3⟩ x
    obtain ⟨o, ho, hr⟩ := id h3
    obtain ⟨δ, e, _⟩ := x.grow
    refine ⟨x.notin ho h1, h2, l, ?_, ⟨o, x.ext.keep _ _ ho h1 h2.1, hr⟩⟩
    rw [e, List.getElem?_append_left (List.getElem?_eq_some_iff.mp h4).1]; exact h4
  move := by
    rintro k π s π' s' ⟨h1, h2, l, h4, h3⟩ x
    obtain ⟨o, ho, hr⟩ := id h3
    obtain ⟨δ, e, _⟩ := x.grow
    refine ⟨x.notin ho h1, h2, l, ?_, ⟨o, x.keep _ _ ho h1 h2.1 h2.2, hr⟩⟩
    rw [e, List.getElem?_append_left (List.getElem?_eq_some_iff.mp h4).1]; exact h4
  free := by
    rintro k π h h' ⟨h1, h2, l, h4, ⟨o, ho, hr⟩⟩ kk
    exact ⟨h1, h2, l, h4, ⟨o, kk _ _ h2.2 ho, hr⟩⟩
  own := by
    rintro k π h ⟨h1, h2, l, _, ⟨o, ho, hc, hd⟩⟩
    exact ⟨h1, h2.1, o, _, ho, hd⟩
  item := by
    rintro k π Hc s v Q E ⟨h1, h2, l, h4, h3⟩ hr hw hv hQ
    have hc : Hc[i]? = some (.list vs) := by simpa [Watch.ok] using hw
    refine hold fun _ k_ => ?_
    obtain ⟨xs, h5, _, h6⟩ := (hr.cell i _ l hc h4).list
    refine k_ ?_
    obtain ⟨x, hx, hvx⟩ := h6.get k v hv
    refine hold fun _ k_ => ?_
    obtain ⟨o, ho, _, hd⟩ := id h3
    refine k_ ?_
    refine wpAny_pyNext_list_item h3 h5.is (x := x) (by simpa using hx) fun h' hit' hs' => ?_
    have p : Poke I s.heap h' := fun b o hb e => hs'.extBut b o hb e
    exact hQ x h' s.toks p (hvx.upto (p.slots ho hd)) ⟨h1, h2, l, h4, hit'⟩
  done := by
    rintro π Hc s Q E ⟨h1, h2, l, h4, h3⟩ hr hw hQ
    have hc : Hc[i]? = some (.list vs) := by simpa [Watch.ok] using hw
    refine hold fun _ k_ => ?_
    obtain ⟨xs, h5, _, h6⟩ := (hr.cell i _ l hc h4).list
    refine k_ ?_
    exact wpAny_pyNext_list_end hh h3 h5.is (by simp [h6.len]) fun h' he' => hQ h' s.toks fun b o hb e => he' b o hb e
  self := fun _ _ _ _ _ ⟨_, _, _, _, st⟩ hQ => wpAny_pyIter_listiter st hQ

theorem Iter.tup (hh : A.handled = none) {I l : Addr} {vs : List V} : Iter am stack A I none vs (fun k π h => I ∉ π ∧ I ∉ Fs stack ∧ h.IsTupleIter I l k ∧ (l ∉ π ∧ I ∉ am.res ∧ l ∉ am.res) ∧ ∃ xs, h.IsTuple l (List.toArray xs) ∧ VRs am π h vs xs) where
  stable := by
    rintro k π s π' s' ⟨h1, h2, h3, h4, xs, h5, h6⟩ x
    obtain ⟨o, ho, hr⟩ := id h3
    obtain ⟨o', ho', _⟩ := id h5
    exact ⟨x.notin ho h1, h2, ⟨o, x.ext.keep _ _ ho h1 h2, hr⟩, ⟨x.notin ho' h4.1, h4.2⟩, xs, x.ext.tuple h5 h4.1, h6.step x⟩
  move := by
    rintro k π s π' s' ⟨h1, h2, h3, h4, xs, h5, h6⟩ x
    obtain ⟨o, ho, hr⟩ := id h3
    refine hold fun _ k_ => ?_
    obtain ⟨o', ho', hc', n', hd'⟩ := id h5
    refine k_ ?_
    obtain ⟨sl, hs⟩ := x.slots _ _ ho' h4.1 h4.2.2
    exact ⟨x.notin ho h1, h2, ⟨o, x.keep _ _ ho h1 h2 h4.2.1, hr⟩, ⟨x.notin ho' h4.1, h4.2⟩, xs, ⟨_, hs, hc', n', hd'⟩, h6.move x⟩
  free := by
    rintro k π h h' ⟨h1, h2, ⟨o, ho, hr⟩, h4, xs, ⟨o', ho', r⟩, h6⟩ kk
    exact ⟨h1, h2, ⟨o, kk _ _ h4.2.1 ho, hr⟩, h4, xs, ⟨o', kk _ _ h4.2.2 ho', r⟩, h6.free kk⟩
  own := by
    rintro k π h ⟨h1, h2, ⟨o, ho, hc, hd⟩, _⟩
    exact ⟨h1, h2, o, _, ho, hd⟩
  item := by
    rintro k π Hc s v Q E ⟨h1, h2, h3, h4, xs, h5, h6⟩ hr _ hv hQ
    obtain ⟨x, hx, hvx⟩ := h6.get k v hv
    refine hold fun _ k_ => ?_
    obtain ⟨o, ho, hc, hd⟩ := id h3
    refine k_ ?_
    refine wpAny_pyNext_tuple_item h3 h5 (x := x) (by simpa using hx) fun h' hit' hs' => ?_
    have p : Poke I s.heap h' := fun b o hb e => hs'.extBut b o hb e
    have u := p.slots ho hd
    refine hold fun _ k_ => ?_
    obtain ⟨ol, hol, hcl, n, hdl⟩ := id h5
    refine k_ ?_
    have hne : l ≠ I := fun q => by subst q; rw [ho] at hol; cases hol; rw [hd] at hdl; cases hdl
    exact hQ x h' s.toks p (hvx.upto u) ⟨h1, h2, hit', h4, xs, ⟨ol, p _ _ hne hol, hcl, n, hdl⟩, h6.upto u⟩
  done := by
    rintro π Hc s Q E ⟨h1, h2, h3, h4, xs, h5, h6⟩ hr _ hQ
    exact wpAny_pyNext_tuple_end hh h3 h5 (by simp [h6.len]) fun h' he' => hQ h' s.toks fun b o hb e => he' b o hb e
  self := fun _ _ _ _ _ st hQ => wpAny_pyIter_tupleiter st.2.2.1 hQ

theorem Iter.range (hh : A.handled = none) {I : Addr} (a c : Int) (n : Nat) : Iter am stack A I none ((List.range n).map fun (i : Nat) => V.int (a + (i : Int) * c)) (fun k π h => I ∉ π ∧ (I ∉ Fs stack ∧ I ∉ am.res) ∧ IsRangeIter h I (a + (k : Nat) * c) ((n : Int) - (k : Nat)) c) where
  stable := by
    rintro k π s π' s' ⟨h1, h2, h3⟩ x
    exact ⟨x.notin h3 h1, h2, x.ext.keep _ _ h3 h1 h2.1⟩
  move := by
    rintro k π s π' s' ⟨h1, h2, h3⟩ x
    exact ⟨x.notin h3 h1, h2, x.keep _ _ h3 h1 h2.1 h2.2⟩
  free := by
    rintro k π h h' ⟨h1, h2, h3⟩ kk
    exact ⟨h1, h2, kk _ _ h2.2 h3⟩
  own := by
    rintro k π h ⟨h1, h2, h3⟩
    exact ⟨h1, h2.1, _, _, h3, rfl⟩
  item := by
    rintro k π Hc s v Q E ⟨h1, h2, h3⟩ hr _ hv hQ
    have hk : k < n := by have := (List.getElem?_eq_some_iff.mp hv).1; simpa using this
    have hv' : v = V.int (a + (k : Int) * c) := by
      rw [List.getElem?_map, List.getElem?_range hk] at hv
      simpa using hv.symm
    subst hv'
    refine wpAny_pyNext_range_item h3 (by omega) fun h' hit' hs' => ?_
    have p : Poke I s.heap h' := fun b o hb e => hs'.extBut b o hb e
    refine hQ _ h' _ p ⟨_, rfl⟩ ⟨h1, h2, ?_⟩
    have e1 : a + ((k + 1 : Nat) : Int) * c = a + (k : Int) * c + c := by push_cast; rw [Int.add_mul, Int.one_mul, Int.add_assoc]
    have e2 : (n : Int) - ((k + 1 : Nat) : Int) = (n : Int) - (k : Int) - 1 := by push_cast; omega
    rw [e1, e2]; exact hit'
  done := by
    rintro π Hc s Q E ⟨h1, h2, h3⟩ hr _ hQ
    exact wpAny_pyNext_range_end hh h3 (by simp) fun h' he' => hQ h' s.toks fun b o hb e => he' b o hb e
  self := fun _ _ _ _ _ st hQ => wpAny_pyIter_rangeiter st.2.2 hQ
end

end Mine

namespace Mine
open PySem PySem.W PyProof.Rows

section
variable {am : Amb} {stack : List Env} {A : Around} {π : List Addr} {s : Shared} {Hc : H}

theorem items_at {v : V} {x : Value} {vs : List V} (hr : HR am stack π Hc s.heap) (e : VR am π s.heap v x) (hi : items Hc v = some vs) :
    ∃ l xs, x = .ref l ∧ (s.heap.IsList l (List.toArray xs) ∨ s.heap.IsTuple l (List.toArray xs)) ∧ vs.length ≤ 1000000 ∧ VRs am π s.heap vs xs := by
  cases v with
  | tup ws =>
    simp only [items, Option.some.injEq] at hi; subst hi
    simp only [VR] at e
    obtain ⟨a, xs, h1, _, h3, h4, h5⟩ := e
    exact ⟨a, xs, h1, .inr h3, h4, h5⟩
  | lst ws =>
    obtain ⟨l, xs, h1, h2, h3⟩ := litems_at hr e (vs := vs) hi
    exact ⟨l, xs, h1, .inl h2, h3⟩
  | ref i =>
    obtain ⟨l, xs, h1, h2, h3⟩ := litems_at hr e (vs := vs) hi
    exact ⟨l, xs, h1, .inl h2, h3⟩
  | _ => simp [items] at hi

theorem op_len {a : V} {x : Value} (hr : HR am stack π Hc s.heap) (ha : VR am π s.heap a x) :
    JAt am stack A (call (.builtin "len") [x]) (R.opt (bf .len Hc a) Hc) (VR am) π s := by
  have key : ∀ vs, items Hc a = some vs → JAt am stack A (call (.builtin "len") [x]) (R.ok (V.int vs.length) Hc) (VR am) π s := by
    intro vs h
    obtain ⟨l, xs, rfl, hl, hz, hv⟩ := items_at hr ha h
    have e := hv.len
    rcases hl with hl | hl
    · exact .inr (PySem.Calls.call_len_list hl (by simp; omega) (by simp only [List.size_toArray, e]; exact OkP.tok hr ⟨_, rfl⟩))
    · exact .inr (len_tuple hl (by simp; omega) (by simp only [List.size_toArray, e]; exact OkP.tok hr ⟨_, rfl⟩))
  unfold bf
  cases a with
  | ref i =>
    simp only
    cases hc : Hc[i]? with
    | none => exact .inl rfl
    | some c =>
      cases c with
      | list vs => exact key vs (by simp [items, hc])
      | dict es => exact .inl rfl
  | tup vs => exact key vs rfl
  | lst vs => exact key vs rfl
  | _ => exact .inl rfl

theorem wp_list {a : V} {x : Value} {vs : List V} {Q : Value → Shared → Prop} {E : Value → Shared → Prop} (hr : HR am stack π Hc s.heap) (ha : VR am π s.heap a x) (hi : items Hc a = some vs) (h : ∀ y s', NewL am π s vs y s' → Q y s') :
    wpAny am.M A (call (.type "list") [x]) Q E s := by
  obtain ⟨l, xs, rfl, hl, hz, hv⟩ := items_at hr ha hi
  have e := hv.len
  have fin : ∀ (T : String) (o : Obj) (n : Nat), (T = "list" ∨ T = "tuple") → s.heap.get? l = some o → o.cls = .type T → o.data = .seq (List.toArray xs) n → wpAny am.M A (call (.type "list") [.ref l]) Q E s := by
    intro T o n hT ho hc hd
    refine call_list_seq l hT ho hc hd (fun h' c' k hn => h _ _ ⟨_, xs, h', s.toks, rfl, rfl, k, size_none _, ⟨_, c', hn, rfl, rfl, rfl⟩, (hv.held (size_none _)).keeps k⟩) ?_
    simp only [List.size_toArray]
    have := mil_le_line
    omega
  rcases hl with ⟨o, ho, hc, n, hd⟩ | ⟨o, ho, hc, n, hd⟩
  · exact fin _ o n (.inl rfl) ho hc hd
  · exact fin _ o n (.inr rfl) ho hc hd

theorem op_list {a : V} {x : Value} (hr : HR am stack π Hc s.heap) (ha : VR am π s.heap a x) :
    JAt am stack A (call (.type "list") [x]) (R.opt (bf .list Hc a) Hc) (VR am) π s := by
  unfold bf
  cases hi : items Hc a with
  | none => exact .inl rfl
  | some vs =>
    obtain ⟨_, _, _, _, hz, _⟩ := items_at hr ha hi
    exact .inr (wp_list hr ha hi fun y s' n => n.lst hr hz)

theorem op_tuple {a : V} {x : Value} (hr : HR am stack π Hc s.heap) (ha : VR am π s.heap a x) :
    JAt am stack A (call (.type "tuple") [x]) (R.opt (bf .tuple Hc a) Hc) (VR am) π s := by
  unfold bf
  cases hi : items Hc a with
  | none => exact .inl rfl
  | some vs =>
    obtain ⟨l, xs, rfl, hl, hz, hv⟩ := items_at hr ha hi
    have e := hv.len
    rcases hl with hl | hl
    · refine .inr (call_tuple_list hl (fun h' k => ?_) (by simp only [List.size_toArray]; have := mil_le_line; omega))
      have k' : ∀ b o, s.heap.get? b = some o → (h'.push { cls := .type "tuple", data := .seq (List.toArray xs) }).get? b = some o := fun b o q => Heap.get?_push_of_some _ (k b o q)
      have hn : s.heap.get? h'.objs.size = none := by
        cases q : s.heap.get? h'.objs.size with
        | none => rfl
        | some o => have := k _ o q; rw [size_none] at this; cases this
      refine OkP.keeps (tk := s.toks) hr k' ?_
      simp only [VR]
      exact ⟨_, xs, rfl, ⟨fresh_pi hr hn, fresh_res hr hn⟩, ⟨_, Heap.get?_push_size _ rfl, rfl, 0, rfl⟩, hz, hv.keeps k'⟩
    · refine .inr (call_tuple_same hl (OkP.here hr ?_))
      cases a with
      | tup ws => simp only [items, Option.some.injEq] at hi; subst hi; exact ha
      | lst ws =>
        simp only [VR] at ha
        obtain ⟨_, _, q, _, ⟨o, ho, hc, _⟩, _⟩ := ha
        cases q
        obtain ⟨o', ho', hc', _⟩ := hl
        rw [ho] at ho'; cases ho'; rw [hc] at hc'; exact absurd hc' (by decide)
      | ref i =>
        obtain ⟨l', xs', q, ⟨o, ho, hc, _⟩, _⟩ := litems_at hr ha (vs := vs) hi
        cases q
        obtain ⟨o', ho', hc', _⟩ := hl
        rw [ho] at ho'; cases ho'; rw [hc] at hc'; exact absurd hc' (by decide)
      | _ => simp [items] at hi

theorem op_int {a : V} {x : Value} (hr : HR am stack π Hc s.heap) (ha : VR am π s.heap a x) :
    JAt am stack A (call (.type "int") [x]) (R.opt (bf .int Hc a) Hc) (VR am) π s := by
  unfold bf
  cases a with
  | bool b => simp only [VR] at ha; subst ha; exact .inr (call_int_bool (OkP.tok hr ⟨_, rfl⟩))
  | _ => exact .inl rfl

theorem op_str {a : V} {x : Value} (hr : HR am stack π Hc s.heap) (ha : VR am π s.heap a x) :
    JAt am stack A (call (.type "str") [x]) (R.opt (bf .str Hc a) Hc) (VR am) π s := by
  unfold bf
  cases a with
  | int i =>
    simp only
    split
    · rename_i h
      simp only [VR] at ha; obtain ⟨t, rfl⟩ := ha
      refine .inr (PySem.P.str_of_int ?_ (OkP.tok hr ⟨_, rfl⟩))
      by_cases h0 : i.natAbs = 0
      · rw [h0]; decide
      · have := (Nat.log2_lt h0 (k := 7)).mpr (by omega); omega
    · exact .inl rfl
  | _ => exact .inl rfl

theorem asBools_get : ∀ {vs : List V} {bs : List Bool}, asBools vs = some bs → vs = bs.map V.bool
  | [], bs, h => by simp only [asBools, Option.some.injEq] at h; subst h; rfl
  | v :: vs, bs, h => by
    cases v <;> simp only [asBools] at h <;> try cases h
    simp only [Option.map_eq_some_iff] at h
    obtain ⟨r, h1, rfl⟩ := h
    rw [List.map_cons, ← asBools_get h1]

theorem VRs_bools : ∀ {bs : List Bool} {xs : List Value}, VRs am π s.heap (bs.map V.bool) xs → xs = bs.map Value.bool
  | [], xs, h => by simpa [VRs] using h
  | b :: bs, xs, h => by
    simp only [List.map_cons, VRs] at h
    obtain ⟨x, xs', rfl, h1, h2⟩ := h
    simp only [VR] at h1
    rw [h1, VRs_bools h2]; rfl

theorem range_all (bs : List Bool) : (List.range bs.length).all (fun i => bs.getD i false) = bs.all id := by
  induction bs with
  | nil => rfl
  | cons b bs ih => simp only [List.length_cons, List.range_succ_eq_map, List.all_cons, List.all_map]; rw [← ih]; rfl
theorem range_any (bs : List Bool) : (List.range bs.length).any (fun i => bs.getD i false) = bs.any id := by
  induction bs with
  | nil => rfl
  | cons b bs ih => simp only [List.length_cons, List.range_succ_eq_map, List.any_cons, List.any_map]; rw [← ih]; rfl

theorem walk_bools {l : Addr} {bs : List Bool} {P : Value → Shared → Prop} {E : Value → Shared → Prop} (hh : A.handled = none) (hl : s.heap.IsList l (List.toArray (bs.map Value.bool)))
    (hP : ∀ I fp wr n Pr St tr, n = bs.length → tr = (fun i => bs.getD i false) → Walks am.prog am.w A I fp wr n Pr St → (∀ s₂, s₂ = { s with heap := s.heap.push { cls := .type "list_iterator", data := .fields #[.ref l, .int 0 0] } } → St 0 s₂.heap) → TruthOf am.prog am.w A Pr tr → wr = [s.heap.objs.size] → I = s.heap.objs.size →
      P (.ref I) { s with heap := s.heap.push { cls := .type "list_iterator", data := .fields #[.ref l, .int 0 0] } }) :
    wpAny am.M A (pyIter (.ref l)) P E s := by
  refine wpAny_pyIter_list hl ?_
  obtain ⟨o, ho, _⟩ := id hl
  have hne : l ≠ s.heap.objs.size := Nat.ne_of_lt (Heap.lt_size ho)
  have W := Walks.list (prog := am.prog) (w := am.w) hh s.heap.objs.size l hne (List.toArray (bs.map Value.bool))
  refine hP _ _ _ _ _ _ _ (by simp) rfl W ?_ ?_ rfl rfl
  · rintro s₂ rfl
    exact ⟨⟨_, Heap.get?_push_size _ rfl, rfl, rfl⟩, hl.push _⟩
  · intro i v s' Q' E' hv hq
    simp only [List.getElem?_toArray, List.getElem?_map, Option.map_eq_some_iff] at hv
    obtain ⟨b, hb, rfl⟩ := hv
    refine wpAny_truthy_bool ?_
    have : bs.getD i false = b := by rw [List.getD_eq_getElem?_getD, hb]; rfl
    rw [← this]; exact hq

theorem op_all {a : V} {x : Value} (hh : A.handled = none) (hr : HR am stack π Hc s.heap) (ha : VR am π s.heap a x) :
    JAt am stack A (call (.builtin "all") [x]) (R.opt (bf .all Hc a) Hc) (VR am) π s := by
  unfold bf
  cases hi : litems Hc a with
  | none => exact .inl rfl
  | some vs =>
    cases hb : asBools vs with
    | none => exact .inl (by simp [hb])
    | some bs =>
      simp only [Option.bind_some, hb, Option.map_some, R.opt_some]
      obtain ⟨l, xs, rfl, hl, hz, hv⟩ := litems_at hr ha hi
      rw [asBools_get hb] at hv
      rw [VRs_bools hv] at hl
      refine .inr (call_all_walk (walk_bools (A := A.in1) hh hl fun I fp wr n Pr St tr e1 e2 W hst htr hwr hI => ⟨I, fp, wr, n, Pr, St, tr, rfl, W, hst _ rfl, htr, fun h' tk k => ?_⟩))
      subst e1 e2 hwr
      rw [range_all]
      exact OkP.keeps (h' := h') (tk := tk) hr (fun b o e => k b o (by simp only [List.mem_singleton]; exact Nat.ne_of_lt (Heap.lt_size e)) (Heap.get?_push_of_some _ e)) rfl

theorem op_any {a : V} {x : Value} (hh : A.handled = none) (hr : HR am stack π Hc s.heap) (ha : VR am π s.heap a x) :
    JAt am stack A (call (.builtin "any") [x]) (R.opt (bf .any Hc a) Hc) (VR am) π s := by
  unfold bf
  cases hi : litems Hc a with
  | none => exact .inl rfl
  | some vs =>
    cases hb : asBools vs with
    | none => exact .inl (by simp [hb])
    | some bs =>
      simp only [Option.bind_some, hb, Option.map_some, R.opt_some]
      obtain ⟨l, xs, rfl, hl, hz, hv⟩ := litems_at hr ha hi
      rw [asBools_get hb] at hv
      rw [VRs_bools hv] at hl
      refine .inr (call_any_walk (walk_bools (A := A.in1) hh hl fun I fp wr n Pr St tr e1 e2 W hst htr hwr hI => ⟨I, fp, wr, n, Pr, St, tr, rfl, W, hst _ rfl, htr, fun h' tk k => ?_⟩))
      subst e1 e2 hwr
      rw [range_any]
      exact OkP.keeps (h' := h') (tk := tk) hr (fun b o e => k b o (by simp only [List.mem_singleton]; exact Nat.ne_of_lt (Heap.lt_size e)) (Heap.get?_push_of_some _ e)) rfl
end

end Mine

namespace Mine
open PySem PySem.W PyProof.Rows

theorem sum_le : ∀ l : List Int, (∀ i ∈ l, 0 ≤ i ∧ i ≤ 1000000) → 0 ≤ l.sum ∧ l.sum ≤ 1000000 * l.length
  | [], _ => by simp
  | a :: l, h => by
    have h1 := h a (List.mem_cons_self ..)
    have h2 := sum_le l fun i hi => h i (List.mem_cons_of_mem _ hi)
    rw [List.sum_cons, List.length_cons, Int.natCast_add]
    omega

section
variable {am : Amb} {stack : List Env} {A : Around} {π : List Addr} {s : Shared} {Hc : H}

theorem ints_split {h : Heap} : ∀ {vs : List V} {is : List Int} {xs : List Value}, asInts vs = some is → VRs am π h vs xs → ∃ ps : List (Int × Tok), ps.map (·.1) = is ∧ xs = ps.map fun p => Value.int p.1 p.2
  | [], is, xs, e, r => by cases e; simp only [VRs] at r; subst r; exact ⟨[], rfl, rfl⟩
  | v :: vs, is, xs, e, r => by
    cases v with
    | int i =>
      simp only [asInts, Option.map_eq_some_iff] at e
      obtain ⟨a, ha, rfl⟩ := e
      simp only [VRs, VR] at r
      obtain ⟨x, xs', rfl, ⟨t, rfl⟩, r⟩ := r
      obtain ⟨ps, h1, h2⟩ := ints_split ha r
      exact ⟨(i, t) :: ps, by rw [List.map_cons, h1], by rw [List.map_cons, h2]⟩
    | _ => exact nomatch e

theorem op_sum {a : V} {x : Value} (hh : A.handled = none) (hr : HR am stack π Hc s.heap) (ha : VR am π s.heap a x) :
    JAt am stack A (call (.builtin "sum") [x]) (R.opt (bf .sum Hc a) Hc) (VR am) π s := by
  show JAt am stack A (call (.builtin "sum") [x]) (R.opt ((litems Hc a).bind fun vs => (asInts vs).bind sumI) Hc) (VR am) π s
  cases hi : litems Hc a with
  | none => exact .inl rfl
  | some vs =>
    cases hb : asInts vs with
    | none => exact .inl (by simp [hb])
    | some is =>
      simp only [Option.bind_some, hb]
      unfold sumI
      split
      · rename_i hok
        obtain ⟨l, xs, rfl, hl, hz, hv⟩ := litems_at hr ha hi
        obtain ⟨ps, rfl, rfl⟩ := ints_split hb hv
        have hl' : s.heap.IsList l (intItems ps.toArray) := by
          have : intItems ps.toArray = List.toArray (ps.map fun p => Value.int p.1 p.2) := by simp [intItems]
          rw [this]; exact hl
        have bound : ∀ j, InLong (preSum (numAt ps.toArray) j) := fun j => by
          rw [preSum_eq]
          show InLong ((ps.map (·.1)).take j).sum
          have := sum_le ((ps.map (·.1)).take j) fun i hi => hok.2 i (List.mem_of_mem_take hi)
          have h2 : ((ps.map (·.1)).take j).length ≤ 1000 := Nat.le_trans (by rw [List.length_take]; exact Nat.min_le_right _ _) hok.1
          unfold InLong
          omega
        refine .inr (sum_intList hh hl' (fun j hj => ⟨?_, bound _⟩) fun h' tk t' k => ?_)
        · have hj' : j < ps.length := by simpa using hj
          have e : numAt ps.toArray j = ps[j].1 := by simp [numAt, hj']
          rw [e]
          have := hok.2 ps[j].1 (List.mem_map.2 ⟨ps[j], List.getElem_mem hj', rfl⟩)
          unfold InLong
          omega
        · rw [preSum_eq]
          refine OkP.keeps hr k ?_
          simp only [VR]
          exact ⟨t', by simp [List.take_of_length_le]⟩
      · exact .inl rfl
end
end Mine

namespace Mine
open PySem PySem.W PyProof.Rows

set_option maxRecDepth 100000


section
variable {prog : Program} {w : World} {A : Around} {E : Value → Shared → Prop} {s : Shared}


end

section
variable {am : Amb} {stack : List Env} {A : Around} {π : List Addr} {s : Shared} {Hc : H}








end

end Mine

namespace Mine
open PySem PySem.W PyProof.Rows
set_option maxRecDepth 100000

theorem kit_none_int (K : Frag) : kitOne K (.type "NoneType") (.type "int") = some false := by kernel_rfl
theorem kit_none_bool (K : Frag) : kitOne K (.type "NoneType") (.type "bool") = some false := by kernel_rfl
theorem kit_none_list (K : Frag) : kitOne K (.type "NoneType") (.type "list") = some false := by kernel_rfl
theorem kit_none_tuple (K : Frag) : kitOne K (.type "NoneType") (.type "tuple") = some false := by kernel_rfl
theorem kit_bool_int (K : Frag) : kitOne K (.type "bool") (.type "int") = some true := by kernel_rfl
theorem kit_bool_bool (K : Frag) : kitOne K (.type "bool") (.type "bool") = some true := by kernel_rfl
theorem kit_bool_list (K : Frag) : kitOne K (.type "bool") (.type "list") = some false := by kernel_rfl
theorem kit_bool_tuple (K : Frag) : kitOne K (.type "bool") (.type "tuple") = some false := by kernel_rfl
theorem kit_int_int (K : Frag) : kitOne K (.type "int") (.type "int") = some true := by kernel_rfl
theorem kit_int_bool (K : Frag) : kitOne K (.type "int") (.type "bool") = some false := by kernel_rfl
theorem kit_int_list (K : Frag) : kitOne K (.type "int") (.type "list") = some false := by kernel_rfl
theorem kit_int_tuple (K : Frag) : kitOne K (.type "int") (.type "tuple") = some false := by kernel_rfl
theorem kit_str_int (K : Frag) : kitOne K (.type "str") (.type "int") = some false := by kernel_rfl
theorem kit_str_bool (K : Frag) : kitOne K (.type "str") (.type "bool") = some false := by kernel_rfl
theorem kit_str_list (K : Frag) : kitOne K (.type "str") (.type "list") = some false := by kernel_rfl
theorem kit_str_tuple (K : Frag) : kitOne K (.type "str") (.type "tuple") = some false := by kernel_rfl
theorem kit_tuple_int (K : Frag) : kitOne K (.type "tuple") (.type "int") = some false := by kernel_rfl
theorem kit_tuple_bool (K : Frag) : kitOne K (.type "tuple") (.type "bool") = some false := by kernel_rfl
theorem kit_tuple_list (K : Frag) : kitOne K (.type "tuple") (.type "list") = some false := by kernel_rfl
theorem kit_tuple_tuple (K : Frag) : kitOne K (.type "tuple") (.type "tuple") = some true := by kernel_rfl
theorem kit_list_int (K : Frag) : kitOne K (.type "list") (.type "int") = some false := by kernel_rfl
theorem kit_list_bool (K : Frag) : kitOne K (.type "list") (.type "bool") = some false := by kernel_rfl
theorem kit_list_list (K : Frag) : kitOne K (.type "list") (.type "list") = some true := by kernel_rfl
theorem kit_list_tuple (K : Frag) : kitOne K (.type "list") (.type "tuple") = some false := by kernel_rfl
theorem kit_dict_int (K : Frag) : kitOne K (.type "dict") (.type "int") = some false := by kernel_rfl
theorem kit_dict_bool (K : Frag) : kitOne K (.type "dict") (.type "bool") = some false := by kernel_rfl
theorem kit_dict_list (K : Frag) : kitOne K (.type "dict") (.type "list") = some false := by kernel_rfl
theorem kit_dict_tuple (K : Frag) : kitOne K (.type "dict") (.type "tuple") = some false := by kernel_rfl

noncomputable def tyVal : Ty → Value
  | .int => .type "int" | .bool => .type "bool" | .list => .type "list" | .tuple => .type "tuple" | .valueError => .type "ValueError"
  | .own _ => .none
noncomputable def Ty.plain : Ty → Bool
  | .int | .bool | .list | .tuple => true
  | _ => false

/-- what isinstance knows of a value -/
noncomputable def kindOf (Hc : H) : V → Option String
  | .none => some "NoneType"
  | .bool _ => some "bool"
  | .int _ => some "int"
  | .str _ => some "str"
  | .tup _ => some "tuple"
  | .lst _ => some "list"
  | .dct => some "dict"
  | .ref i => match Hc[i]? with
    | some (.list _) => some "list"
    | some (.dict _) => some "dict"
    | none => Option.none
  | _ => Option.none


theorem kit_all (K : Frag) {Hc : H} {a : V} {k : String} {t : Ty} (hk : kindOf Hc a = some k) (ht : t.plain = true) : ∃ b, isTy Hc a t = some b ∧ kitOne K (.type k) (tyVal t) = some b := by
  cases a <;> simp only [kindOf, Option.some.injEq] at hk <;> try cases hk

  · cases t <;> simp only [Ty.plain, Bool.false_eq_true] at ht <;> first | exact ⟨_, rfl, kit_none_int K⟩ | exact ⟨_, rfl, kit_none_bool K⟩ | exact ⟨_, rfl, kit_none_list K⟩ | exact ⟨_, rfl, kit_none_tuple K⟩
  · cases t <;> simp only [Ty.plain, Bool.false_eq_true] at ht <;> first | exact ⟨_, rfl, kit_bool_int K⟩ | exact ⟨_, rfl, kit_bool_bool K⟩ | exact ⟨_, rfl, kit_bool_list K⟩ | exact ⟨_, rfl, kit_bool_tuple K⟩
  · cases t <;> simp only [Ty.plain, Bool.false_eq_true] at ht <;> first | exact ⟨_, rfl, kit_int_int K⟩ | exact ⟨_, rfl, kit_int_bool K⟩ | exact ⟨_, rfl, kit_int_list K⟩ | exact ⟨_, rfl, kit_int_tuple K⟩
  · cases t <;> simp only [Ty.plain, Bool.false_eq_true] at ht <;> first | exact ⟨_, rfl, kit_str_int K⟩ | exact ⟨_, rfl, kit_str_bool K⟩ | exact ⟨_, rfl, kit_str_list K⟩ | exact ⟨_, rfl, kit_str_tuple K⟩
  · cases t <;> simp only [Ty.plain, Bool.false_eq_true] at ht <;> first | exact ⟨_, rfl, kit_tuple_int K⟩ | exact ⟨_, rfl, kit_tuple_bool K⟩ | exact ⟨_, rfl, kit_tuple_list K⟩ | exact ⟨_, rfl, kit_tuple_tuple K⟩
  · cases t <;> simp only [Ty.plain, Bool.false_eq_true] at ht <;> first | exact ⟨_, rfl, kit_list_int K⟩ | exact ⟨_, rfl, kit_list_bool K⟩ | exact ⟨_, rfl, kit_list_list K⟩ | exact ⟨_, rfl, kit_list_tuple K⟩
  · split at hk
    · rename_i vs hc
      cases hk
      cases t <;> simp only [Ty.plain, Bool.false_eq_true] at ht <;> simp only [isTy, hc] <;> first | exact ⟨_, rfl, kit_list_int K⟩ | exact ⟨_, rfl, kit_list_bool K⟩ | exact ⟨_, rfl, kit_list_list K⟩ | exact ⟨_, rfl, kit_list_tuple K⟩
    · rename_i es hc
      cases hk
      cases t <;> simp only [Ty.plain, Bool.false_eq_true] at ht <;> simp only [isTy, hc] <;> first | exact ⟨_, rfl, kit_dict_int K⟩ | exact ⟨_, rfl, kit_dict_bool K⟩ | exact ⟨_, rfl, kit_dict_list K⟩ | exact ⟨_, rfl, kit_dict_tuple K⟩
    · cases hk
  · cases t <;> simp only [Ty.plain, Bool.false_eq_true] at ht <;> first | exact ⟨_, rfl, kit_dict_int K⟩ | exact ⟨_, rfl, kit_dict_bool K⟩ | exact ⟨_, rfl, kit_dict_list K⟩ | exact ⟨_, rfl, kit_dict_tuple K⟩

section
variable {am : Amb} {stack : List Env} {A : Around} {π : List Addr} {s : Shared} {Hc : H}

theorem kitx_at {a : V} {x : Value} (hr : HR am stack π Hc s.heap) (ha : VR am π s.heap a x) (hne : kindOf Hc a ≠ Option.none) : ∃ k P, kindOf Hc a = some k ∧ KitX am.K x (.type k) P ∧ P s.heap ∧ x ≠ .builtin "__main__.__loader__#opaque" := by
  cases a <;> simp only [VR] at ha <;> try (exact ha.elim)
  · subst ha; exact ⟨_, _, rfl, kitx_none, trivial, by simp⟩
  · subst ha; exact ⟨_, _, rfl, kitx_bool, trivial, by simp⟩
  · obtain ⟨t, rfl⟩ := ha; exact ⟨_, _, rfl, kitx_int, trivial, by simp⟩
  · obtain ⟨t, rfl⟩ := ha; exact ⟨_, _, rfl, kitx_str, trivial, by simp⟩
  · obtain ⟨l, xs, rfl, _, ⟨o, ho, hc, _⟩, _⟩ := ha; exact ⟨_, _, rfl, kitx_tuple, ⟨o, ho, hc⟩, by simp⟩
  · obtain ⟨l, xs, rfl, _, ⟨o, ho, hc, _⟩, _⟩ := ha; exact ⟨_, _, rfl, kitx_list, ⟨o, ho, hc⟩, by simp⟩
  · rename_i i
    obtain ⟨l, rfl, hl⟩ := ha
    simp only [kindOf] at hne ⊢
    cases hc : Hc[i]? with
    | none => simp [hc] at hne
    | some c =>
      cases c with
      | list vs =>
        refine hold fun _ k_ => ?_
        obtain ⟨xs, ⟨o, n, ho, hcl, _⟩, _⟩ := (hr.cell i _ l hc hl).list
        refine k_ ?_
        exact ⟨"list", _, by simp, kitx_list, ⟨o, ho, hcl⟩, by simp⟩
      | dict es =>
        obtain ⟨o, xs, ho, ⟨_, arr, ep, hcl, _⟩, _⟩ := hr.cell i _ l hc hl
        exact ⟨"dict", _, by simp, kitx_dict, ⟨o, ho, hcl⟩, by simp⟩
  · obtain ⟨l, o, es, ep, rfl, _, ho, hc, _⟩ := ha; exact ⟨_, _, rfl, kitx_dict, ⟨o, ho, hc⟩, by simp⟩

theorem isTy_kind {a : V} {t : Ty} {b : Bool} (h : isTy Hc a t = some b) : kindOf Hc a ≠ Option.none := by
  cases a <;> simp only [isTy] at h <;> try (cases h)
  all_goals first | (simp [kindOf]; done) | skip
  rename_i i
  simp only [kindOf]
  split at h <;> simp_all

theorem op_isi {a : V} {x : Value} {t : Ty} (hK : Frag.In am.K am.B) (hr : HR am stack π Hc s.heap) (ha : VR am π s.heap a x) (ht : t.plain = true) :
    JAt am stack A (call (.builtin "isinstance") [x, tyVal t]) (R.opt ((isTys Hc a [t]).map V.bool) Hc) (VR am) π s := by
  cases hb : isTy Hc a t with
  | none => exact .inl (by simp [isTys, hb])
  | some b =>
    refine hold fun _ k_ => ?_
    obtain ⟨k, P, hk, Z, p, hx⟩ := kitx_at hr ha (isTy_kind hb)
    refine k_ ?_
    obtain ⟨b', h1, h2⟩ := kit_all am.K hk ht
    rw [hb] at h1; cases h1
    have e : isTys Hc a [t] = some b := by simp only [isTys, hb]; cases b <;> rfl
    rw [e]
    exact .inr (kia_one Z (hK.keeps hr.base) p h2 hx fun tk => OkP.tok hr rfl)

theorem op_isi2 {a : V} {x : Value} {ts : List Ty} {tp : Addr} {n : Nat} {dd : Option Addr} {sl : Array (Option Value)} (hK : Frag.In am.K am.B) (hr : HR am stack π Hc s.heap) (ha : VR am π s.heap a x) (ht : ts.all Ty.plain = true) (hts : ts ≠ []) (htp : s.heap.get? tp = some ⟨.type "tuple", dd, .seq (List.toArray (ts.map tyVal)) n, sl⟩) :
    JAt am stack A (call (.builtin "isinstance") [x, .ref tp]) (R.opt ((isTys Hc a ts).map V.bool) Hc) (VR am) π s := by
  cases hb : isTys Hc a ts with
  | none => exact .inl rfl
  | some b =>
    by_cases hne : kindOf Hc a = Option.none
    · cases ts with
      | nil => exact absurd rfl hts
      | cons t ts =>
        simp only [isTys] at hb
        cases hq : isTy Hc a t with
        | none => simp [hq] at hb
        | some b' => exact absurd hne (isTy_kind hq)
    · refine hold fun _ k_ => ?_
      obtain ⟨k, P, hk, Z, p, hx⟩ := kitx_at hr ha hne
      refine k_ ?_
      have key : ∀ ts : List Ty, ts.all Ty.plain = true → ∀ b, isTys Hc a ts = some b → kitAny am.K (.type k) (ts.map tyVal) = some b := by
        intro ts
        induction ts with
        | nil => intro _ b h; simpa [isTys, kitAny] using h
        | cons t ts ih =>
          intro ht b h
          simp only [List.all_cons, Bool.and_eq_true] at ht
          obtain ⟨b', h1, h2⟩ := kit_all am.K hk ht.1
          simp only [isTys, h1] at h
          simp only [List.map_cons, kitAny, h2]
          cases b' with
          | true => exact h
          | false => exact ih ht.2 b h
      exact .inr (kia_tup Z (hK.keeps hr.base) p htp (key ts ht b hb) hx fun tk => OkP.tok hr rfl)

theorem cut_clip (n : Nat) (i : Int) : clipAt n i = cut n i := by
  have h := clipAt_cast n i
  unfold cut
  split <;> rename_i hi
  · rw [if_pos hi] at h; omega
  · rw [if_neg hi] at h; omega

theorem slice_pick (xs : List Value) (lo hi : Option Int) : slicePick (List.toArray xs) lo hi none = List.toArray (slc xs lo hi) := by
  rw [slicePick_plain]
  unfold slc
  simp only [List.size_toArray]
  have e1 : (lo.elim 0 (clipAt xs.length)) = (match lo with | some i => cut xs.length i | none => 0) := by cases lo <;> simp [cut_clip]
  have e2 : (hi.elim xs.length (clipAt xs.length)) = (match hi with | some i => cut xs.length i | none => xs.length) := by cases hi <;> simp [cut_clip]
  rw [e1, e2]
  congr 1
  first | (rw [List.drop_take]; done) | (rw [List.drop_take]; rfl)

theorem VRs.slc {vs : List V} {xs : List Value} {h : Heap} (lo hi : Option Int) (e : VRs am π h vs xs) : VRs am π h (Mine.slc vs lo hi) (Mine.slc xs lo hi) := by
  unfold Mine.slc
  rw [e.len]
  exact (e.take _).drop _

theorem slc_len {α : Type} (xs : List α) (lo hi : Option Int) : (slc xs lo hi).length ≤ xs.length := by
  unfold slc
  simp only [List.length_drop, List.length_take]
  omega

/-- a part of a slice -/
noncomputable def PartR : Option V → Option Int → Value → Prop
  | none, lo, x => lo = none ∧ x = .none
  | some v, lo, x => ∃ i t, v = .int i ∧ lo = some i ∧ x = .int i t

theorem PartR.is {v : Option V} {lo : Option Int} {x : Value} (h : PartR v lo x) : IsPart x lo := by
  cases v with
  | none => obtain ⟨rfl, rfl⟩ := h; exact .none
  | some v => obtain ⟨i, t, _, rfl, rfl⟩ := h; exact .int i t

theorem wp_slice {value slice : Expr} {a : V} {x : Value} {vs : List V} {lo hi : Option Int} {vl vu : Value} {Q : Value → Shared → Prop} {E : Value → Shared → Prop} (hr : HR am stack π Hc s.heap) (ha : VR am π s.heap a x) (hi' : litems Hc a = some vs) (pl : IsPart vl lo) (pu : IsPart vu hi)
    (h : ∀ y s1 s', Step (Fs stack) π s π s1 → HR am stack π Hc s1.heap → (slc vs lo hi).length ≤ 1000000 → NewL am π s1 (slc vs lo hi) y s' → Q y s') :
    wpAny am.M A (newFields "slice" [vl, vu, .none]) (fun i s₁ => wpAny am.M A (subscriptTail value slice x i) Q E s₁) E s := by
  refine hold fun _ k_ => ?_
  obtain ⟨l, xs, rfl, hl, hz, hv⟩ := litems_at hr ha hi'
  refine k_ ?_
  have e := hv.len
  unfold newFields
  refine wpAny_newObj_type ?_
  have k : ∀ b o, s.heap.get? b = some o → (s.heap.push { cls := .type "slice", data := .fields #[vl, vu, .none] }).get? b = some o := fun b o q => Heap.get?_push_of_some _ q
  refine sub_tail (s := { s with heap := s.heap.push { cls := .type "slice", data := .fields #[vl, vu, .none] } }) (hl.push _).typeIs list_getitem_lookup
    (wpAny_getItem_list_slice (hl.push _) (Heap.IsSliceOf.new ..) pl pu .none (by simp) ?_ (by simp only [List.size_toArray]; have := mil_le_line; omega))
  rw [slice_pick]
  have n := NewL.push (am := am) (π := π) (s := { s with heap := s.heap.push { cls := .type "slice", data := .fields #[vl, vu, .none] } }) (o := { cls := .type "list", data := .seq (List.toArray (slc xs lo hi)) }) (n := 0) (tk := s.toks) ((hv.slc lo hi).keeps k) rfl rfl rfl
  exact h _ _ _ (Step.keeps (tk := s.toks) k) (hr.keeps k) (Nat.le_trans (slc_len _ _ _) hz) n

end

end Mine

namespace Mine
open PySem PySem.W PyProof.Rows

section
variable {N : Nat} {r : Nat → Nat}

/-- a tree of questions, answered by ranks -/
def KJ (N : Nat) (r : Nat → Nat) {α : Type} : KasT α → (α → Prop) → Prop
  | .ret a, P => P a
  | .ask i j k, P => i < N ∧ j < N ∧ KJ N r (k (decide (r i < r j))) P

theorem KJ.bind {α β : Type} {f : α → KasT β} {P : β → Prop} : ∀ {t : KasT α}, KJ N r t (fun a => KJ N r (f a) P) → KJ N r (t.bind f) P
  | .ret _, h => h
  | .ask _ _ k, h => ⟨h.1, h.2.1, KJ.bind (t := k _) h.2.2⟩
theorem KJ.mono {α : Type} {P P' : α → Prop} (hp : ∀ a, P a → P' a) : ∀ {t : KasT α}, KJ N r t P → KJ N r t P'
  | .ret _, h => hp _ h
  | .ask _ _ k, h => ⟨h.1, h.2.1, KJ.mono hp (t := k _) h.2.2⟩
theorem KJ.wp {α : Type} {P : α → Prop} {cmp : Nat → Nat → (Bool → Shared → Prop) → Shared → Prop} {Q : α → Shared → Prop} {s : Shared} (hc : ∀ i j C, i < N → j < N → C (decide (r i < r j)) s → cmp i j C s) (hq : ∀ a, P a → Q a s) : ∀ {t : KasT α}, KJ N r t P → t.kasWp cmp Q s
  | .ret _, h => hq _ h
  | .ask i j k, h => hc i j _ h.1 h.2.1 (KJ.wp hc hq (t := k _) h.2.2)

/-- an order of the numbers below N -/
structure Pm (N : Nat) (p : Array Nat) : Prop where
  size : p.size = N
  lt : ∀ k, p.getD k 0 < N
  perm : p.Perm (List.toArray (List.range N))
theorem Pm.of {p q : Array Nat} (h : Pm N p) (hp : q.Perm p) : Pm N q := by
  have hN : 0 < N := Nat.lt_of_le_of_lt (Nat.zero_le _) (h.lt 0)
  have pm := hp.trans h.perm
  refine ⟨hp.size_eq.trans h.size, fun k => ?_, pm⟩
  by_cases hk : k < q.size
  · have hm : q[k] ∈ q := Array.getElem_mem hk
    have : q[k] ∈ List.toArray (List.range N) := pm.mem_iff.1 hm
    simp at this
    simpa [Array.getD, hk] using this
  · simp [Array.getD, hk]; exact hN
theorem Pm.one (h : 0 < N) : Pm N (List.toArray (List.range N)) := by
  refine ⟨by simp, fun k => ?_, Array.Perm.refl _⟩
  by_cases hk : k < N
  · simp [Array.getD, hk]
  · simp [Array.getD, hk]; exact h
def Ky (r : Nat → Nat) (p : Array Nat) (k : Nat) : Nat := r (p.getD k 0)
theorem Ky_get {p q : Array Nat} {i j : Nat} (h : q[i]? = p[j]?) : Ky r q i = Ky r p j := by
  unfold Ky; rw [Array.getD_eq_getD_getElem?, Array.getD_eq_getD_getElem?, h]
theorem Ky_rev {p : Array Nat} {i j : Nat} (hj : j ≤ p.size) (k : Nat) : Ky r (kas_rev p i j) k = if i ≤ k ∧ k < j then Ky r p (i + j - 1 - k) else Ky r p k := by
  have := getElem?_mirror_all (i := i) hj k
  by_cases h : i ≤ k ∧ k < j
  · rw [if_pos h] at this ⊢; exact Ky_get this
  · rw [if_neg h] at this ⊢; exact Ky_get this
theorem rev_pm {p : Array Nat} (h : Pm N p) (i j : Nat) : Pm N (kas_rev p i j) := h.of (mirror_perm _ _ _ _)
/-- rising so far -/
def Up (r : Nat → Nat) (p : Array Nat) (k : Nat) : Prop := ∀ i j, i ≤ j → j < k → Ky r p i ≤ Ky r p j
def Dn (r : Nat → Nat) (p : Array Nat) (k : Nat) : Prop := ∀ i j, i ≤ j → j < k → Ky r p j ≤ Ky r p i

theorem snoc {R : Nat → Nat → Prop} (rf : ∀ a, R a a) (tr : ∀ {a b c}, R a b → R b c → R a c) {k : Nat → Nat} {n : Nat} (h : ∀ i j, i ≤ j → j < n → R (k i) (k j)) (hc : R (k (n - 1)) (k n)) : ∀ i j, i ≤ j → j < n + 1 → R (k i) (k j) := fun i j hij hj => by
  rcases Nat.lt_or_eq_of_le (Nat.le_of_lt_succ hj) with hjn | rfl
  · exact h i j hij hjn
  · rcases Nat.lt_or_eq_of_le hij with hi | rfl
    · exact tr (h i (j - 1) (Nat.le_sub_one_of_lt hi) (Nat.sub_lt (Nat.zero_lt_of_lt hi) Nat.one_pos)) hc
    · exact rf _
theorem Up.snoc {p : Array Nat} {n : Nat} (h : Up r p n) (hc : Ky r p (n - 1) ≤ Ky r p n) : Up r p (n + 1) := Mine.snoc (R := (· ≤ ·)) Nat.le_refl Nat.le_trans h hc
theorem Dn.snoc {p : Array Nat} {n : Nat} (h : Dn r p n) (hc : Ky r p n ≤ Ky r p (n - 1)) : Dn r p (n + 1) := Mine.snoc (R := fun a b => b ≤ a) Nat.le_refl (fun a b => Nat.le_trans b a) h hc

theorem asc_ok {p : Array Nat} (hp : Pm N p) : ∀ (f n : Nat), 1 ≤ n → Up r p n → KJ N r (kas_asc p f n) (fun m => n ≤ m ∧ m ≤ n + f ∧ Up r p m ∧ (m < n + f → Ky r p m < Ky r p (m - 1)))
  | 0, n, h1, hu => ⟨Nat.le_refl _, Nat.le_refl _, hu, fun h => absurd h (Nat.lt_irrefl _)⟩
  | f + 1, n, h1, hu => by
    refine ⟨hp.lt _, hp.lt _, ?_⟩
    show KJ N r (if decide (Ky r p n < Ky r p (n - 1)) = true then _ else _) _
    by_cases hc : Ky r p n < Ky r p (n - 1)
    · rw [if_pos (decide_eq_true hc)]
      exact ⟨Nat.le_refl _, Nat.le_add_right _ _, hu, fun _ => hc⟩
    · rw [if_neg fun e => hc (of_decide_eq_true e)]
      have ih := asc_ok hp f (n + 1) (Nat.le_add_left 1 n) (hu.snoc (Nat.le_of_not_lt hc))
      rw [Nat.add_right_comm n 1 f] at ih
      exact KJ.mono (fun m hm => ⟨Nat.le_of_succ_le hm.1, hm.2⟩) ih

/-- the last q + 1 are alike -/
def Al (r : Nat → Nat) (p : Array Nat) (n q : Nat) : Prop := ∀ k, n - (q + 1) ≤ k → k < n → Ky r p k = Ky r p (n - 1)
theorem Al.zero (p : Array Nat) (n : Nat) : Al r p (n + 1) 0 := fun k h1 h2 => congrArg (Ky r p) (Nat.le_antisymm (Nat.le_of_lt_succ h2) h1)
theorem Al.succ {p : Array Nat} {n q : Nat} (h : Al r p n q) (e : Ky r p n = Ky r p (n - 1)) : Al r p (n + 1) (q + 1) := fun k h1 h2 => by
  rw [Nat.add_sub_add_right] at h1
  rcases Nat.lt_or_eq_of_le (Nat.le_of_lt_succ h2) with hk | rfl
  · exact (h k h1 hk).trans e.symm
  · rfl
theorem Al.rev {p : Array Nat} {n q : Nat} (h : Al r p n q) (hn : n ≤ p.size) (k : Nat) : Ky r (kas_rev p (n - (q + 1)) n) k = Ky r p k := by
  rw [Ky_rev hn]
  by_cases hk : n - (q + 1) ≤ k ∧ k < n
  · rw [if_pos hk]
    exact (h _ (by clear h; omega) (by clear h; omega)).trans (h k hk.1 hk.2).symm
  · rw [if_neg hk]

/-- a falling run -/
structure Fa (N : Nat) (r : Nat → Nat) (n m : Nat) (p : Array Nat) (k q : Nat) : Prop where
  pm : Pm N p
  lo : n ≤ k
  hi : k ≤ m
  qk : q + 1 ≤ k
  dn : Dn r p k
  al : Al r p k q
theorem Fa.low {n m : Nat} {p : Array Nat} {k q : Nat} (x : Fa N r (n + 1) m p k q) : Fa N r n m p k q := ⟨x.pm, Nat.le_of_succ_le x.lo, x.hi, x.qk, x.dn, x.al⟩
theorem desc_ok : ∀ (f : Nat) (p : Array Nat) (n q : Nat), Pm N p → q + 1 ≤ n → n + f ≤ N → Dn r p n → Al r p n q → KJ N r (kas_desc f p n q) (fun x => Fa N r n (n + f) x.1 x.2.1 x.2.2)
  | 0, p, n, q, hp, hq, _, hd, he => ⟨hp, Nat.le_refl _, Nat.le_refl _, hq, hd, he⟩
  | f + 1, p, n, q, hp, hq, hN, hd, he => by
    refine ⟨hp.lt _, hp.lt _, ?_⟩
    show KJ N r (if decide (Ky r p n < Ky r p (n - 1)) = true then _ else _) _
    have step : ∀ p' q', Pm N p' → q' + 1 ≤ n + 1 → Dn r p' (n + 1) → Al r p' (n + 1) q' → KJ N r (kas_desc f p' (n + 1) q') (fun x => Fa N r n (n + (f + 1)) x.1 x.2.1 x.2.2) := fun p' q' a b c d => by
      have ih := desc_ok f p' (n + 1) q' a b (by rw [Nat.add_right_comm]; exact hN) c d
      rw [Nat.add_right_comm] at ih
      exact KJ.mono (fun x hx => hx.low) ih
    by_cases hc : Ky r p n < Ky r p (n - 1)
    · rw [if_pos (decide_eq_true hc)]
      have hd' := hd.snoc (Nat.le_of_lt hc)
      by_cases hq0 : q > 0
      · rw [if_pos hq0]
        have key := he.rev (by rw [hp.size]; exact Nat.le_trans (Nat.le_add_right _ _) hN)
        exact step _ 0 (rev_pm hp _ _) (Nat.le_add_left 1 n) (fun i j hij hj => by rw [key, key]; exact hd' i j hij hj) (Al.zero _ n)
      · rw [if_neg hq0]
        exact step p 0 hp (Nat.le_add_left 1 n) hd' (Al.zero _ n)
    · rw [if_neg fun e => hc (of_decide_eq_true e)]
      refine ⟨hp.lt _, hp.lt _, ?_⟩
      show KJ N r (if decide (Ky r p (n - 1) < Ky r p n) = true then _ else _) _
      by_cases hc2 : Ky r p (n - 1) < Ky r p n
      · rw [if_pos (decide_eq_true hc2)]
        exact ⟨hp, Nat.le_refl _, Nat.le_add_right _ _, hq, hd, he⟩
      · rw [if_neg fun e => hc2 (of_decide_eq_true e)]
        have heq := Nat.le_antisymm (Nat.le_of_not_lt hc2) (Nat.le_of_not_lt hc)
        exact step p (q + 1) hp (Nat.succ_le_succ hq) (hd.snoc (Nat.le_of_eq heq)) (he.succ heq)

/-- so many signs of it rise -/
structure Cn (N : Nat) (r : Nat → Nat) (p : Array Nat) (k : Nat) : Prop where
  pm : Pm N p
  lo : 1 ≤ k
  hi : k ≤ N
  up : Up r p k
theorem tail3_ok {p : Array Nat} {n : Nat} (hp : Pm N p) (h1 : 1 ≤ n) (hn : n ≤ N) (hd : Dn r p n) : KJ N r (kas_tail3 n N p) (fun x => Cn N r x.2 x.1) := by
  unfold kas_tail3
  have hp' := rev_pm hp 0 n
  have hu : Up r (kas_rev p 0 n) n := fun i j hij hj => by
    rw [Ky_rev (by rw [hp.size]; exact hn), Ky_rev (by rw [hp.size]; exact hn), if_pos ⟨Nat.zero_le _, Nat.lt_of_le_of_lt hij hj⟩, if_pos ⟨Nat.zero_le _, hj⟩]
    exact hd _ _ (Nat.sub_le_sub_left hij _) (Nat.lt_of_le_of_lt (Nat.sub_le _ _) (by rw [Nat.zero_add]; exact Nat.sub_lt h1 Nat.one_pos))
  have ih := asc_ok hp' (N - n) n h1 hu
  rw [Nat.add_sub_cancel' hn] at ih
  exact KJ.bind (KJ.mono (fun m hm => ⟨hp', Nat.le_trans h1 hm.1, hm.2.1, hm.2.2.1⟩) ih)

theorem descPart_ok {p : Array Nat} {n : Nat} (hp : Pm N p) (hn : n + 1 ≤ N) (hd : Dn r p n) (hc : Ky r p n < Ky r p (n - 1)) : KJ N r (kas_descPart n N p) (fun x => Cn N r x.2 x.1) := by
  unfold kas_descPart
  have ih := desc_ok (N - (n + 1)) p (n + 1) 0 hp (Nat.le_add_left 1 n) (Nat.le_of_eq (Nat.add_sub_cancel' hn)) (hd.snoc (Nat.le_of_lt hc)) (Al.zero p n)
  rw [Nat.add_sub_cancel' hn] at ih
  refine KJ.bind (KJ.mono (fun x hx => ?_) ih)
  have lo := Nat.le_trans (Nat.le_add_left 1 n) hx.lo
  by_cases hq : x.2.2 > 0
  · rw [if_pos hq]
    have key := hx.al.rev (by rw [hx.pm.size]; exact hx.hi)
    exact tail3_ok (rev_pm hx.pm _ _) lo hx.hi fun i j hij hj => by rw [key, key]; exact hx.dn i j hij hj
  · rw [if_neg hq]
    exact tail3_ok hx.pm lo hx.hi hx.dn

theorem count_ok {p : Array Nat} (hp : Pm N p) (h1 : 1 ≤ N) : KJ N r (kas_count N p) (fun x => Cn N r x.2 x.1) := by
  unfold kas_count
  have ih := asc_ok (r := r) hp (N - 1) 1 (Nat.le_refl _) (fun i j h1 h2 => by
    cases Nat.lt_one_iff.1 h2
    cases Nat.le_zero.1 h1
    exact Nat.le_refl _)
  rw [Nat.add_sub_cancel' h1] at ih
  refine KJ.bind (KJ.mono (fun n hn => ?_) ih)
  obtain ⟨a1, a2, a3, a4⟩ := hn
  by_cases hN : n = N
  · rw [if_pos (by simpa using hN)]
    exact ⟨hp, a1, a2, a3⟩
  · rw [if_neg (by simpa using hN)]
    have lt := Nat.lt_of_le_of_ne a2 hN
    have hc := a4 lt
    by_cases hn1 : n > 1
    · rw [if_pos hn1]
      refine ⟨hp.lt _, hp.lt _, ?_⟩
      show KJ N r (if decide (Ky r p 0 < Ky r p (n - 1)) = true then _ else _) _
      by_cases hr : Ky r p 0 < Ky r p (n - 1)
      · rw [if_pos (decide_eq_true hr)]
        exact ⟨hp, a1, a2, a3⟩
      · rw [if_neg fun e => hr (of_decide_eq_true e)]
        have all : Al r p n (n - 1) := fun k _ hk => Nat.le_antisymm (a3 k (n - 1) (Nat.le_sub_one_of_lt hk) (Nat.sub_lt a1 Nat.one_pos)) (Nat.le_trans (Nat.le_of_not_lt hr) (a3 0 k (Nat.zero_le _) hk))
        have rv := all.rev (by rw [hp.size]; exact a2)
        rw [Nat.sub_add_cancel a1, Nat.sub_self] at rv
        refine descPart_ok (rev_pm hp _ _) lt (fun i j hij hj => ?_) (by rw [rv, rv]; exact hc)
        rw [rv, rv, all i (by rw [Nat.sub_add_cancel a1, Nat.sub_self]; exact Nat.zero_le _) (Nat.lt_of_le_of_lt hij hj), all j (by rw [Nat.sub_add_cancel a1, Nat.sub_self]; exact Nat.zero_le _) hj]; exact Nat.le_refl _
    · rw [if_neg hn1]
      refine descPart_ok hp lt (fun i j hij hj => ?_) hc
      cases Nat.lt_one_iff.1 (Nat.lt_of_lt_of_le hj (Nat.le_of_not_lt hn1))
      cases Nat.le_zero.1 hij
      exact Nat.le_refl _

theorem place_ok {p : Array Nat} (hp : Pm N p) {k : Nat} (hu : Up r p k) : ∀ (f l e : Nat), l ≤ e → e ≤ k → e - l ≤ f → (∀ i, i < l → Ky r p i ≤ Ky r p k) → (∀ i, e ≤ i → i < k → Ky r p k < Ky r p i) →
    KJ N r (kas_place p k f l e) (fun m => m ≤ k ∧ (∀ i, i < m → Ky r p i ≤ Ky r p k) ∧ ∀ i, m ≤ i → i < k → Ky r p k < Ky r p i)
  | 0, l, e, h1, h2, h3, ha, hb => ⟨Nat.le_trans h1 h2, ha, fun i hi => hb i (Nat.le_trans (Nat.le_of_sub_eq_zero (Nat.le_zero.1 h3)) hi)⟩
  | f + 1, l, e, h1, h2, h3, ha, hb => by
    unfold kas_place
    by_cases hle : l ≥ e
    · rw [if_pos hle]
      exact ⟨Nat.le_trans h1 h2, ha, fun i hi => hb i (Nat.le_trans hle hi)⟩
    · rw [if_neg hle]
      refine ⟨hp.lt _, hp.lt _, ?_⟩
      show KJ N r (if decide (Ky r p k < Ky r p ((l + e) / 2)) = true then _ else _) _
      obtain ⟨m1, m2⟩ : l ≤ (l + e) / 2 ∧ (l + e) / 2 < e := by omega
      by_cases hc : Ky r p k < Ky r p ((l + e) / 2)
      · rw [if_pos (decide_eq_true hc)]
        exact place_ok hp hu f l _ m1 (Nat.le_trans (Nat.le_of_lt m2) h2) (Nat.le_of_lt_succ (Nat.lt_of_lt_of_le (Nat.sub_lt_sub_right m1 m2) h3)) ha fun i h4 h5 => Nat.lt_of_lt_of_le hc (hu _ _ h4 h5)
      · rw [if_neg fun e => hc (of_decide_eq_true e)]
        exact place_ok hp hu f _ e m2 h2 (Nat.le_of_lt_succ (Nat.lt_of_lt_of_le (Nat.sub_lt_sub_left (Nat.lt_of_not_le hle) (Nat.lt_succ_of_le m1)) h3)) (fun i h4 => Nat.le_trans (hu i ((l + e) / 2) (Nat.le_of_lt_succ h4) (Nat.lt_of_lt_of_le m2 h2)) (Nat.le_of_not_lt hc)) hb

theorem bin_ok : ∀ (f : Nat) (p : Array Nat) (k : Nat), Pm N p → k + f = N → Up r p k → KJ N r (kas_bin f p k) (fun p' => Pm N p' ∧ Up r p' N)
  | 0, p, k, hp, hk, hu => by
    have : k = N := hk
    subst this; exact ⟨hp, hu⟩
  | f + 1, p, k, hp, hk, hu => by
    unfold kas_bin
    refine KJ.bind (KJ.mono (fun l hl => ?_) (place_ok hp hu k 0 k (Nat.zero_le _) (Nat.le_refl _) (Nat.sub_le k 0) (fun i h => absurd h (Nat.not_lt_zero _)) (fun i h1 h2 => absurd h2 (Nat.not_lt_of_le h1))))
    obtain ⟨h1, h2, h3⟩ := hl
    have kb : ∀ i, Ky r (bubble p k (k - l)) i = if i = l then Ky r p k else if l < i ∧ i ≤ k then Ky r p (i - 1) else Ky r p i := fun i => by
      have := getElem?_bubble (xs := p) (src := k) (by rw [hp.size, ← hk]; exact Nat.lt_add_of_pos_right (Nat.succ_pos f)) (k - l) (Nat.sub_le _ _) i
      rw [Nat.sub_sub_self h1] at this
      split at this
      · rename_i h; rw [if_pos h]; exact Ky_get this
      · rename_i h
        rw [if_neg h]
        split at this
        · rename_i h'; rw [if_pos h']; exact Ky_get this
        · rename_i h'; rw [if_neg h']; exact Ky_get this
    refine bin_ok f _ (k + 1) (hp.of (bubble_perm _ _ _)) (by rw [Nat.add_right_comm]; exact hk) ?_
    have vlt : ∀ i, i < l → Ky r (bubble p k (k - l)) i = Ky r p i := fun i h => by rw [kb, if_neg (Nat.ne_of_lt h), if_neg fun x => Nat.lt_asymm h x.1]
    have veq : Ky r (bubble p k (k - l)) l = Ky r p k := by rw [kb, if_pos rfl]
    have vgt : ∀ i, l < i → i ≤ k → Ky r (bubble p k (k - l)) i = Ky r p (i - 1) := fun i h h' => by rw [kb, if_neg (Nat.ne_of_gt h), if_pos ⟨h, h'⟩]
    clear kb
    intro i j hij hj
    have hjk := Nat.le_of_lt_succ hj
    rcases Nat.lt_trichotomy j l with hjl | rfl | hjl
    · rw [vlt j hjl, vlt i (Nat.lt_of_le_of_lt hij hjl)]
      exact hu i j hij (Nat.lt_of_lt_of_le hjl h1)
    · rw [veq]
      rcases Nat.lt_or_eq_of_le hij with hi | rfl
      · rw [vlt i hi]; exact h2 i hi
      · rw [veq]; exact Nat.le_refl _
    · have lt : j - 1 < k := Nat.lt_of_lt_of_le (Nat.sub_lt (Nat.zero_lt_of_lt hjl) Nat.one_pos) hjk
      have le : l ≤ j - 1 := Nat.le_sub_one_of_lt hjl
      rw [vgt j hjl hjk]
      rcases Nat.lt_trichotomy i l with hil | rfl | hil
      · rw [vlt i hil]; exact hu i _ (Nat.le_trans (Nat.le_of_lt hil) le) lt
      · rw [veq]; exact Nat.le_of_lt (h3 _ le lt)
      · rw [vgt i hil (Nat.le_trans hij hjk)]; exact hu _ _ (Nat.sub_le_sub_right hij 1) lt

theorem sort_ok (h2 : 1 ≤ N) : KJ N r (kas_sort N) (fun p => Pm N p ∧ Up r p N) := by
  unfold kas_sort
  refine KJ.bind (KJ.mono (fun x hx => ?_) (count_ok (Pm.one h2) h2))
  by_cases h : x.1 < N
  · rw [if_pos h, Nat.max_eq_left hx.lo]
    exact bin_ok _ _ _ hx.pm (Nat.add_sub_cancel' hx.hi) hx.up
  · rw [if_neg h]
    exact ⟨hx.pm, Nat.le_antisymm hx.hi (Nat.le_of_not_lt h) ▸ hx.up⟩
end

end Mine

namespace Mine
open PySem PySem.W PyProof.Rows PySem.MeetsSeq PySem.MeetsSeq3
open AutoSeq1 (wpAny_loadPart')

theorem ints_at {xs : List Value} {is : List Int} (h : IntsAre xs is) : ∀ {i : Nat}, i < xs.length → ∃ n t, xs[i]? = some (.int n t) ∧ is.drop i = n :: is.drop (i + 1) := by
  induction h with
  | nil => intro i hi; simp at hi
  | @cons n t vs ns _ ih =>
    intro i hi
    cases i with
    | zero => exact ⟨n, t, rfl, rfl⟩
    | succ i =>
      obtain ⟨m, u, h1, h2⟩ := ih (i := i) (by simpa using hi)
      exact ⟨m, u, by simpa using h1, by simpa using h2⟩
theorem ints_len {xs : List Value} {is : List Int} (h : IntsAre xs is) : is.length = xs.length := by
  induction h with
  | nil => rfl
  | cons _ _ _ ih => simp [ih]
theorem ints_end {xs : List Value} {is : List Int} (h : IntsAre xs is) {i : Nat} (hi : xs.length ≤ i) : is.drop i = [] := by
  have := ints_len h
  exact List.drop_of_length_le (by omega)

/-- two lists of numbers, from a place on -/
theorem lt_loop (l b : Addr) (d1 d2 : Option Addr) (s1 s2 : Array (Option Value)) (xs ys : List Value) (is js : List Int) (n n2 : Nat) (h1 : IntsAre xs is) (h2 : IntsAre ys js) (k : Nat) :
    ∀ i : Nat, i ≤ ys.length → i + k = xs.length → Meets (Builtin.«list.__eq__.loop» ⟨[.ref l, .ref b, rawInt i, rawInt 0], []⟩)
      (fun _ R s => s.heap.get? l = some { cls := .type "list", dict := d1, data := .seq xs.toArray n, slots := s1 } ∧ s.heap.get? b = some { cls := .type "list", dict := d2, data := .seq ys.toArray n2, slots := s2 } ∧
        R (.ok (.ret (.bool (lexLt (is.drop i) (js.drop i))))) s) := by
  have fin : ∀ {R : Result → Shared → Prop} {s : Shared} {v : Bool}, R (.ok (.ret (.bool v))) s → v = decide (xs.length < ys.length) → R (.ok (.ret (.bool (decide (xs.toArray.size < ys.toArray.size))))) s := fun h e => by
    rw [List.size_toArray, List.size_toArray, ← e]; exact h
  induction k with
  | zero =>
    intro i hj hk prog w A R s h
    obtain ⟨hp, g, d, tk, os⟩ := s; obtain ⟨hl, hb, h⟩ := h
    wp_walk using wpAny_loadPart' hl, wpAny_loadPart' hb
    have hi1 : xs.toArray[((i : Nat) : Int).toNat]? = none := by simp; omega
    rw [hi1]
    rw [ints_end h1 (i := i) (by omega)] at h
    cases hy : ys.toArray[((i : Nat) : Int).toNat]? with
    | none =>
      have hy' : ys.length ≤ i := by simpa using hy
      wp_walk using wpAny_loadPart' hl, wpAny_loadPart' hb
      rw [ints_end h2 hy'] at h
      exact fin h (decide_eq_false (by omega)).symm
    | some y =>
      have hy' : i < ys.length := by
        have := (Array.getElem?_eq_some_iff.1 hy).1
        simpa using this
      obtain ⟨m, u, _, e2⟩ := ints_at h2 hy'
      rw [e2] at h
      wp_walk using wpAny_loadPart' hl, wpAny_loadPart' hb
      exact fin h (decide_eq_true (by omega)).symm
  | succ k ih =>
    intro i hj hk prog w A R s h
    obtain ⟨hp, g, d, tk, os⟩ := s; obtain ⟨hl, hb, h⟩ := h
    wp_walk using wpAny_loadPart' hl, wpAny_loadPart' hb
    obtain ⟨x, t, hx, ex⟩ := ints_at h1 (i := i) (by omega)
    have hi1 : xs.toArray[((i : Nat) : Int).toNat]? = some (.int x t) := by simpa using hx
    rw [hi1]
    rw [ex] at h
    rcases Nat.lt_or_ge i ys.length with hlt | hge
    · obtain ⟨y, u, hy, ey⟩ := ints_at h2 hlt
      have hi2 : ys.toArray[((i : Nat) : Int).toNat]? = some (.int y u) := by simpa using hy
      rw [hi2]
      rw [ey] at h
      refine wpAny_bind (wpAny_eqBool_int ?_)
      have hc : ((i : Int) + 1) = ((i + 1 : Nat) : Int) := by push_cast; rfl
      by_cases hxy : x = y
      · rw [if_pos (by simpa using hxy), hc]
        rw [lexLt, if_pos hxy] at h
        wp_walk
        exact ⟨plainId_quiet plain_eq_loop _, codeAny_builtin entry_eq_loop (by
          rw [Around.under_plainId plain_eq_loop _]
          exact ih (i + 1) (by omega) (by omega) prog w A R _ ⟨hl, hb, h⟩)⟩
      · rw [if_neg (by simpa using hxy)]
        rw [lexLt, if_neg hxy] at h
        wp_walk using wpAny_loadPart' hl, wpAny_loadPart' hb
        rw [hi1, hi2]
        refine wpAny_bind (PyProof.Rows.lt_int ?_)
        exact wpAny_pure h
    · have hi2 : ys.toArray[((i : Nat) : Int).toNat]? = none := by simpa using hge
      rw [hi2]
      wp_walk using wpAny_loadPart' hl, wpAny_loadPart' hb
      rw [ints_end h2 hge] at h
      exact fin h (decide_eq_false (by omega)).symm

end Mine

namespace Mine
open PySem PySem.W PyProof.Rows

section
variable {prog : Program} {w : World} {A : Around} {E : Value → Shared → Prop} {s : Shared}

theorem lt_meets (l b : Addr) (d1 d2 : Option Addr) (s1 s2 : Array (Option Value)) (xs ys : List Value) (is js : List Int) (n1 n2 : Nat) (I1 : IntsAre xs is) (I2 : IntsAre ys js) : Meets (Builtin.«list.__lt__» ⟨[.ref l, .ref b], []⟩)
    (fun _ R s => s.heap.get? l = some ⟨.type "list", d1, .seq xs.toArray n1, s1⟩ ∧ s.heap.get? b = some ⟨.type "list", d2, .seq ys.toArray n2, s2⟩ ∧ R (.ok (.ret (.bool (lexLt is js)))) s) := by
  intro prog w A R s h
  obtain ⟨hp, g, d, tk, os⟩ := s; obtain ⟨hl, hb, h⟩ := h
  have f3 := AutoSeq1.sub_list_list
  wp_walk using AutoSeq1.wpAny_loadPart' hl, AutoSeq1.wpAny_loadPart' hb
  exact ⟨plainId_quiet MeetsSeq3.plain_eq_loop _, codeAny_builtin MeetsSeq3.entry_eq_loop (by
    rw [Around.under_plainId MeetsSeq3.plain_eq_loop _]
    exact lt_loop l b d1 d2 s1 s2 xs ys is js n1 n2 I1 I2 xs.length 0 (Nat.zero_le _) (by omega) prog w A R _ ⟨hl, hb, by simpa using h⟩)⟩
theorem oneLt_list {l b : Addr} {xs ys : List Value} {is js : List Int} {Q : Bool → Shared → Prop} (hu : A.units < cLine) (h1 : s.heap.IsList l xs.toArray) (h2 : s.heap.IsList b ys.toArray) (I1 : IntsAre xs is) (I2 : IntsAre ys js) (h : Q (lexLt is js) s) :
    wpAny (model prog w) A (keyLt' oneType' (.ref l) (.ref b)) Q E s := by
  obtain ⟨⟨k1, d1, u1, s1⟩, ho1, c1, n1, e1⟩ := h1
  obtain ⟨⟨k2, d2, u2, s2⟩, ho2, c2, n2, e2⟩ := h2
  simp only at c1 c2 e1 e2
  subst c1 c2 e1 e2
  rw [keyLt'_oneType, oneLt'_eq]
  simp only [if_true]
  refine wpAny_bind (wpAny_cRoomFor hu ?_)
  exact wpAny_bind (wpAny_callSpecialIfBound?_slot ⟨_, ho1, rfl⟩ F.slot_list_lt (call_meets F.slot_list_lt ⟨_, ho1, rfl⟩ F.entry_list_lt (F.args_list_lt_2 _ _) (lt_meets l b d1 d2 s1 s2 xs ys is js n1 n2 I1 I2) ⟨ho1, ho2, wpAny_truthy_bool h⟩))

/-- a list that is sorted; r: the ranks of its things -/
theorem list_sort_any {a : Addr} {vs : List Value} {n : Nat} {κ : SortKind} {r : Nat → Nat} {P : PySem.Fin → Shared → Prop} (ho : s.heap.get? a = some (seqObj "list" vs.toArray n)) (h2 : 2 ≤ vs.length) (h64 : vs.length < 64)
    (hk : ∀ {Q : SortKind → Shared → Prop}, Q κ { s with heap := ((s.heap.update a (Obj.mapSeq fun _ => #[])).push (seqObj "tuple" vs.toArray 0)).push (seqObj "list" #[] 0) } → wpAny (model prog w) A (keyKind' vs.toArray) Q E { s with heap := ((s.heap.update a (Obj.mapSeq fun _ => #[])).push (seqObj "tuple" vs.toArray 0)).push (seqObj "list" #[] 0) })
    (hc : ∀ i j C, i < vs.length → j < vs.length → C (decide (r i < r j)) { s with heap := ((s.heap.update a (Obj.mapSeq fun _ => #[])).push (seqObj "tuple" vs.toArray 0)).push (seqObj "list" #[] 0) } → kas_ask prog w A κ vs i j C { s with heap := ((s.heap.update a (Obj.mapSeq fun _ => #[])).push (seqObj "tuple" vs.toArray 0)).push (seqObj "list" #[] 0) })
    (h : ∀ p, Pm vs.length p → Up r p vs.length → P (.done (.ret .none)) { s with heap := sortedHeap s.heap a vs (p.toList.map fun i => vs.getD i Value.none).toArray }) :
    wpAny (model prog w) A (Builtin.«list.sort» ⟨[.ref a], []⟩) P E s := by
  rw [list_sort_plain]
  have ha : a < s.heap.objs.size := Heap.lt_size ho
  have hle : vs.length ≤ sizeLine := by rw [sizeLine_eq]; omega
  refine wpAny_bind (listItems_at ho rfl (wpAny_bind (listUpdate_at ho rfl ?_ (by rw [List.size_toArray]; exact hle) (Nat.zero_le _))))
  obtain ⟨e1, ho1⟩ : ∃ e1, (s.heap.update a (Obj.mapSeq fun _ => #[])).get? a = some (seqObj "list" #[] e1) := ⟨_, get?_update_seq ho (fun _ => #[])⟩
  refine wpAny_bind (seqEpoch_at ho1 rfl (wpAny_bind (wpAny_newTuple (wpAny_bind (wpAny_newList (wpAny_holding ?_) (Nat.zero_le _))) hle)))
  have ho6 : (((s.heap.update a (Obj.mapSeq fun _ => #[])).push (seqObj "tuple" vs.toArray 0)).push (seqObj "list" #[] 0)).get? a = some (seqObj "list" #[] e1) :=
    Heap.get?_push_of_some _ (Heap.get?_push_of_some _ ho1)
  show wpAny (model prog w) A _ P E { s with heap := ((s.heap.update a (Obj.mapSeq fun _ => #[])).push (seqObj "tuple" vs.toArray 0)).push (seqObj "list" #[] 0) }
  dsimp only
  have hn2 : ¬ vs.toArray.size < 2 := by rw [List.size_toArray]; omega
  rw [if_neg hn2, if_neg hn2]
  refine wpAny_bind (hk ?_)
  have est : SortSt.mk' κ (vs.toArray.zip vs.toArray) #[] 7 none = kas_st κ (pairsOf vs) (List.toArray (List.range vs.length)) := by
    have e := kas_range (pairsOf vs)
    rw [pairsOf_size] at e
    show SortSt.mk' κ (pairsOf vs) #[] 7 none = SortSt.mk' κ ((List.toArray (List.range vs.length)).map (kas_item (pairsOf vs))) #[] 7 none
    rw [e]
  have run := kas_runs (E := E) (prog := prog) (w := w) (A := A) (κ := κ) (it := pairsOf vs) (s := { s with heap := ((s.heap.update a (Obj.mapSeq fun _ => #[])).push (seqObj "tuple" vs.toArray 0)).push (seqObj "list" #[] 0) })
    (Q := fun _ st' s' => ∃ p : Array Nat, arrOf st' = p.map (kas_item (pairsOf vs)) ∧ failedOf st' = none ∧ s' = { s with heap := ((s.heap.update a (Obj.mapSeq fun _ => #[])).push (seqObj "tuple" vs.toArray 0)).push (seqObj "list" #[] 0) } ∧ Pm vs.length p ∧ Up r p vs.length)
    (G := fun p s' => s' = { s with heap := ((s.heap.update a (Obj.mapSeq fun _ => #[])).push (seqObj "tuple" vs.toArray 0)).push (seqObj "list" #[] 0) } ∧ Pm vs.length p ∧ Up r p vs.length)
    h2 h64 (fun p' st' s' _ a2 a3 a4 => ⟨p', a2, a3, a4⟩) (by
      rw [← kas_ask_eq]
      exact KJ.wp hc (fun p hp => ⟨rfl, hp⟩) (sort_ok (by omega)))
  rw [← est] at run
  refine wpAny_bind (wpAny_mono run ?_ fun _ _ e => e)
  rintro ⟨⟨⟩, st'⟩ s' ⟨p, har, hf, rfl, hp, hu⟩
  dsimp only
  have hout : (arrOf st').map (·.2) = (p.toList.map fun i => vs.getD i Value.none).toArray := by
    apply Array.toList_inj.mp
    rw [har, Array.map_map, Array.toList_map]
    exact List.map_congr_left fun i _ => by show (kas_item (pairsOf vs) i).2 = _; rw [kas_item_eq]
  rw [hout]
  refine wpAny_bind (seqEpoch_at ho6 rfl (wpAny_bind (listUpdate_at ho6 rfl ?_ (Nat.zero_le _) (by
    show ((p.toList.map fun i => vs.getD i Value.none).toArray).size ≤ _
    rw [List.size_toArray, List.length_map, Array.length_toList, hp.size]; omega))))
  rw [hf]
  simp only [bne_self_eq_false, Bool.false_eq_true, if_false]
  exact wpAny_pure (h p hp hu)
end

end Mine

namespace Mine
structure Ord {α : Type} (lt : α → α → Bool) : Prop where
  irr : ∀ a, lt a a = false
  tr : ∀ a b c, lt a b = true → lt b c = true → lt a c = true
  tot : ∀ a b, lt a b = false → lt b a = false → a = b

theorem countP_lt {β : Type} {p q : β → Bool} : ∀ {l : List β}, (∀ x ∈ l, p x = true → q x = true) → (∃ x ∈ l, p x = false ∧ q x = true) → l.countP p < l.countP q
  | [], _, ⟨_, h, _⟩ => nomatch h
  | a :: l, hpq, ⟨x, hx, h1, h2⟩ => by
    have hl : ∀ x ∈ l, p x = true → q x = true := fun x hx => hpq x (List.mem_cons_of_mem _ hx)
    have hle : l.countP p ≤ l.countP q := List.countP_mono_left hl
    rw [List.countP_cons, List.countP_cons]
    rcases List.mem_cons.1 hx with rfl | hx
    · rw [h1, h2]; simp; omega
    · have := countP_lt hl ⟨x, hx, h1, h2⟩
      have ha := hpq a (List.mem_cons_self ..)
      cases hpa : p a with
      | true => rw [ha hpa]; omega
      | false => cases q a <;> simp <;> omega

section
variable {α : Type} {lt : α → α → Bool}
def rank (lt : α → α → Bool) (key : Nat → α) (n i : Nat) : Nat := (List.range n).countP fun j => lt (key j) (key i)
theorem rank_lt (o : Ord lt) {key : Nat → α} {n i j : Nat} (hi : i < n) (hj : j < n) : lt (key i) (key j) = decide (rank lt key n i < rank lt key n j) := by
  have up : ∀ i j, i < n → lt (key i) (key j) = true → rank lt key n i < rank lt key n j := fun i j hi h =>
    countP_lt (fun x _ hx => o.tr _ _ _ hx h) ⟨i, List.mem_range.2 hi, o.irr _, h⟩
  cases h : lt (key i) (key j) with
  | true => exact (decide_eq_true (up i j hi h)).symm
  | false =>
    cases h' : lt (key j) (key i) with
    | true => exact (decide_eq_false (Nat.lt_asymm (up j i hj h'))).symm
    | false =>
      have := o.tot _ _ h h'
      refine (decide_eq_false ?_).symm
      unfold rank; rw [this]; exact Nat.lt_irrefl _

theorem ins_perm (x : α) : ∀ l : List α, (isort.insertBy' lt x l).Perm (x :: l)
  | [] => List.Perm.refl _
  | y :: ys => by
    rw [isort.insertBy']
    split
    · exact ((ins_perm x ys).cons y).trans (List.Perm.swap ..)
    · exact List.Perm.refl _
theorem isort_perm : ∀ l : List α, (isort lt l).Perm l
  | [] => List.Perm.refl _
  | x :: xs => (ins_perm x _).trans ((isort_perm xs).cons x)
theorem ins_up {le : α → α → Prop} (h1 : ∀ a b, lt a b = true → le a b) (h2 : ∀ a b, lt a b = false → le b a) (ht : ∀ a b c, le a b → le b c → le a c) (x : α) : ∀ l : List α, l.Pairwise le → (isort.insertBy' lt x l).Pairwise le
  | [], _ => List.pairwise_singleton ..
  | y :: ys, h => by
    obtain ⟨h3, h4⟩ := List.pairwise_cons.1 h
    rw [isort.insertBy']
    split
    · rename_i hc
      refine List.pairwise_cons.2 ⟨fun z hz => ?_, ins_up h1 h2 ht x ys h4⟩
      rcases List.mem_cons.1 ((ins_perm x ys).mem_iff.1 hz) with rfl | hz
      · exact h1 _ _ hc
      · exact h3 z hz
    · rename_i hc
      have hle := h2 y x (by simpa using hc)
      refine List.pairwise_cons.2 ⟨fun z hz => ?_, h⟩
      rcases List.mem_cons.1 hz with rfl | hz
      · exact hle
      · exact ht _ _ _ hle (h3 z hz)
theorem isort_up {le : α → α → Prop} (h1 : ∀ a b, lt a b = true → le a b) (h2 : ∀ a b, lt a b = false → le b a) (ht : ∀ a b c, le a b → le b c → le a c) : ∀ l : List α, (isort lt l).Pairwise le
  | [] => List.Pairwise.nil
  | x :: xs => ins_up h1 h2 ht x _ (isort_up h1 h2 ht xs)

theorem Ord.asymm (o : Ord lt) {a b : α} (h : lt a b = true) : lt b a = false := by
  cases h' : lt b a with
  | false => rfl
  | true => have := o.tr _ _ _ h h'; rw [o.irr] at this; cases this
/-- what is not less, on and on -/
theorem Ord.le_tr (o : Ord lt) {a b c : α} (h1 : lt b a = false) (h2 : lt c b = false) : lt c a = false := by
  cases h : lt c a with
  | false => rfl
  | true =>
    cases h3 : lt a b with
    | true => have := o.tr _ _ _ h h3; rw [h2] at this; cases this
    | false => have e := o.tot _ _ h3 h1; subst e; rw [h2] at h; cases h

end

theorem ord_int : Ord fun a b : Int => decide (a < b) := ⟨fun a => decide_eq_false (Int.lt_irrefl a), fun a b c h1 h2 => by simp at h1 h2 ⊢; omega, fun a b h1 h2 => by simp at h1 h2; omega⟩
theorem lex_irr : ∀ a : List Int, lexLt a a = false
  | [] => rfl
  | x :: a => by rw [lexLt, if_pos rfl]; exact lex_irr a
theorem lex_tr : ∀ a b c : List Int, lexLt a b = true → lexLt b c = true → lexLt a c = true
  | [], [], _, h, _ => by cases h
  | [], _ :: _, [], _, h => by cases h
  | [], _ :: _, _ :: _, _, _ => rfl
  | _ :: _, [], _, h, _ => by cases h
  | _ :: _, _ :: _, [], _, h => by cases h
  | x :: a, y :: b, z :: c, h1, h2 => by
    rw [lexLt] at h1 h2 ⊢
    by_cases e1 : x = y
    · subst e1
      rw [if_pos rfl] at h1
      by_cases e2 : x = z
      · subst e2
        rw [if_pos rfl] at h2 ⊢
        exact lex_tr a b c h1 h2
      · rw [if_neg e2] at h2 ⊢; exact h2
    · rw [if_neg e1] at h1
      have h1 := of_decide_eq_true h1
      by_cases e2 : y = z
      · subst e2
        rw [if_neg e1]; exact decide_eq_true h1
      · rw [if_neg e2] at h2
        have h2 := of_decide_eq_true h2
        rw [if_neg (by omega)]; exact decide_eq_true (by omega)
theorem lex_tot : ∀ a b : List Int, lexLt a b = false → lexLt b a = false → a = b
  | [], [], _, _ => rfl
  | [], _ :: _, h, _ => by cases h
  | _ :: _, [], _, h => by cases h
  | x :: a, y :: b, h1, h2 => by
    rw [lexLt] at h1 h2
    by_cases e : x = y
    · subst e
      rw [if_pos rfl] at h1 h2
      rw [lex_tot a b h1 h2]
    · rw [if_neg e] at h1
      rw [if_neg (Ne.symm e)] at h2
      have h1 := of_decide_eq_false h1
      have h2 := of_decide_eq_false h2
      omega
theorem ord_lex : Ord lexLt := ⟨lex_irr, lex_tr, lex_tot⟩
end Mine

namespace Mine
open PySem PySem.W PyProof.Rows
section
variable {α : Type} {lt : α → α → Bool}
theorem sorted_unique (o : Ord lt) {β : Type} {L : List (α × β)} {d : α × β} (det : ∀ p ∈ L, ∀ q ∈ L, p.1 = q.1 → p.2 = q.2) {p : Array Nat} (hp : Pm L.length p) (hu : Up (rank lt (fun i => (L.getD i d).1) L.length) p L.length) :
    p.toList.map (fun i => L.getD i d) = isort (fun a b => lt a.1 b.1) L := by
  have pm : (p.toList.map fun i => L.getD i d).Perm L := by
    have h1 : p.toList.Perm (List.range L.length) := by simpa using hp.perm.toList
    have h2 := h1.map fun i => L.getD i d
    have h3 : (List.range L.length).map (fun i => L.getD i d) = L := List.ext_getElem (by simp) fun i h1 h2 => by simp [h2]
    rwa [h3] at h2
  refine List.Perm.eq_of_pairwise (le := fun a b => lt b.1 a.1 = false) (fun a b ha hb h1 h2 => ?_) ?_ (isort_up (lt := fun a b : α × β => lt a.1 b.1) (le := fun a b => lt b.1 a.1 = false) (fun a b h => o.asymm h) (fun a b h => h) (fun a b c h1 h2 => o.le_tr h1 h2) L) (pm.trans (isort_perm L).symm)
  · have ha := pm.mem_iff.1 ha
    have hb := (isort_perm L).mem_iff.1 hb
    have e1 := o.tot _ _ h2 h1
    exact Prod.ext e1 (det a ha b hb e1)
  · rw [List.pairwise_iff_getElem]
    intro i j hi hj hij
    simp only [List.length_map, Array.length_toList, hp.size] at hi hj
    have hk := hu i j (Nat.le_of_lt hij) hj
    have e : ∀ k, (hk : k < L.length) → p.toList[k]'(by rw [Array.length_toList, hp.size]; exact hk) = p.getD k 0 := fun k hk => by
      simp [Array.getD, hp.size, hk]
    rw [List.getElem_map, List.getElem_map, e i hi, e j hj]
    rw [rank_lt o (key := fun i => (L.getD i d).1) (hp.lt j) (hp.lt i)]
    exact decide_eq_false (Nat.not_lt.2 hk)
end

end Mine

namespace Mine
open PySem PySem.W PyProof.Rows

section
variable {prog : Program} {w : World} {A : Around} {E : Value → Shared → Prop} {s : Shared}

theorem list_sort_small {a : Addr} {vs : List Value} {n : Nat} {P : PySem.Fin → Shared → Prop} (ho : s.heap.get? a = some (seqObj "list" vs.toArray n)) (h2 : vs.length < 2)
    (h : P (.done (.ret .none)) { s with heap := sortedHeap s.heap a vs vs.toArray }) : wpAny (model prog w) A (Builtin.«list.sort» ⟨[.ref a], []⟩) P E s := by
  rw [list_sort_plain]
  have hle : vs.length ≤ sizeLine := by rw [sizeLine_eq]; omega
  refine wpAny_bind (listItems_at ho rfl (wpAny_bind (listUpdate_at ho rfl ?_ (by rw [List.size_toArray]; exact hle) (Nat.zero_le _))))
  obtain ⟨e1, ho1⟩ : ∃ e1, (s.heap.update a (Obj.mapSeq fun _ => #[])).get? a = some (seqObj "list" #[] e1) := ⟨_, get?_update_seq ho (fun _ => #[])⟩
  refine wpAny_bind (seqEpoch_at ho1 rfl (wpAny_bind (wpAny_newTuple (wpAny_bind (wpAny_newList (wpAny_holding ?_) (Nat.zero_le _))) hle)))
  have ho6 : (((s.heap.update a (Obj.mapSeq fun _ => #[])).push (seqObj "tuple" vs.toArray 0)).push (seqObj "list" #[] 0)).get? a = some (seqObj "list" #[] e1) :=
    Heap.get?_push_of_some _ (Heap.get?_push_of_some _ ho1)
  show wpAny (model prog w) A _ P E { s with heap := ((s.heap.update a (Obj.mapSeq fun _ => #[])).push (seqObj "tuple" vs.toArray 0)).push (seqObj "list" #[] 0) }
  dsimp only
  have hn2 : vs.toArray.size < 2 := by rw [List.size_toArray]; omega
  rw [if_pos hn2, if_pos hn2]
  refine wpAny_bind (wpAny_pure ?_)
  rw [StateT.run_pure]
  refine wpAny_bind (wpAny_pure ?_)
  dsimp only
  have hout : (vs.toArray.zip vs.toArray).map (·.2) = vs.toArray := by
    apply Array.toList_inj.mp
    rw [Array.toList_map]
    show List.map _ (pairsOf vs).toList = vs
    rw [pairsOf_toList]
    exact List.map_snd_zip (Nat.le_refl _)
  rw [show arrOf (SortSt.mk' general' (vs.toArray.zip vs.toArray) #[] 7 none) = vs.toArray.zip vs.toArray from rfl, hout]
  refine wpAny_bind (seqEpoch_at ho6 rfl (wpAny_bind (listUpdate_at ho6 rfl ?_ (Nat.zero_le _) (by show vs.toArray.size ≤ _; rw [List.size_toArray]; omega))))
  simp only [bne_self_eq_false, Bool.false_eq_true, if_false]
  exact wpAny_pure h

/-- sorted(l), r: the ranks -/
theorem sorted_any {l : Addr} {vs : List Value} {κ : SortKind} {r : Nat → Nat} {Q : Value → Shared → Prop} (hl : s.heap.IsList l vs.toArray) (h64 : vs.length < 64)
    (hk : 2 ≤ vs.length → ∀ {A : Around} {E : Value → Shared → Prop} {h' : Heap} {Q : SortKind → Shared → Prop}, (∀ b o, s.heap.get? b = some o → h'.get? b = some o) → Q κ { s with heap := h' } → wpAny (model prog w) A (keyKind' vs.toArray) Q E { s with heap := h' })
    (hc : ∀ i j C h', i < vs.length → j < vs.length → (∀ b o, s.heap.get? b = some o → h'.get? b = some o) → C (decide (r i < r j)) { s with heap := h' } → kas_ask prog w A.in1.in1 κ vs i j C { s with heap := h' })
    (h1 : vs.length < 2 → Q (.ref (s.heap.objs.size + 1)) { s with heap := sortedAll s.heap vs vs.toArray })
    (h : ∀ p, Pm vs.length p → Up r p vs.length → Q (.ref (s.heap.objs.size + 1)) { s with heap := sortedAll s.heap vs (p.toList.map fun i => vs.getD i Value.none).toArray }) :
    wpAny (model prog w) A (call (.builtin "sorted") [.ref l]) Q E s := by
  have hle : vs.length ≤ sizeLine := by rw [sizeLine_eq]; omega
  refine Calls.call_function_entry kind_sorted plain_sorted entry_sorted (args_sorted1 _) ?_
  unfold Builtin.«sorted»
  refine wpAny_bind (m := checkCount "sorted" 1 1 _) (wpAny_pure (wpAny_bind (collect_list hl (wpAny_bind (wpAny_newList ?_ hle)) hle)))
  have hsz : ((s.heap.push (seqObj "list" #[] 0)).update s.heap.objs.size (Obj.mapSeq (· ++ vs.toArray))).objs.size = s.heap.objs.size + 1 := by
    rw [Heap.size_update, size_push']
  have hoL : (((s.heap.push (seqObj "list" #[] 0)).update s.heap.objs.size (Obj.mapSeq (· ++ vs.toArray))).push (seqObj "list" vs.toArray 0)).get? (s.heap.objs.size + 1) = some (seqObj "list" vs.toArray 0) := by
    rw [← hsz]; exact Heap.get?_push_size _ rfl
  have keep : ∀ b o, s.heap.get? b = some o → (((s.heap.push (seqObj "list" #[] 0)).update s.heap.objs.size (Obj.mapSeq (· ++ vs.toArray))).push (seqObj "list" vs.toArray 0)).get? b = some o := fun b o q => by
    have hlt : b < s.heap.objs.size := Heap.lt_size q
    refine Heap.get?_push_of_some _ ?_
    rw [Heap.get?_update_ne _ _ _ _ (Nat.ne_of_lt hlt)]
    exact Heap.get?_push_of_some _ q
  show wpAny _ _ _ _ _ { s with heap := ((s.heap.push (seqObj "list" #[] 0)).update s.heap.objs.size (Obj.mapSeq (· ++ vs.toArray))).push (seqObj "list" vs.toArray 0) }
  rw [hsz]
  refine wpAny_bind (wpAny_holding (wpAny_call_entry slot_list_sort ⟨_, hoL, rfl⟩ entry_list_sort ?_ (args_list_sort _)))
  have keep2 : ∀ b o, s.heap.get? b = some o → ((((((s.heap.push (seqObj "list" #[] 0)).update s.heap.objs.size (Obj.mapSeq (· ++ vs.toArray))).push (seqObj "list" vs.toArray 0)).update (s.heap.objs.size + 1) (Obj.mapSeq fun _ => #[])).push (seqObj "tuple" vs.toArray 0)).push (seqObj "list" #[] 0)).get? b = some o := fun b o q => by
    have hlt : b < s.heap.objs.size := Heap.lt_size q
    refine Heap.get?_push_of_some _ (Heap.get?_push_of_some _ ?_)
    rw [Heap.get?_update_ne _ _ _ _ (Nat.ne_of_lt (Nat.lt_succ_of_lt hlt))]
    exact keep b o q
  rcases Nat.lt_or_ge vs.length 2 with h2 | h2
  · exact list_sort_small (s := { s with heap := ((s.heap.push (seqObj "list" #[] 0)).update s.heap.objs.size (Obj.mapSeq (· ++ vs.toArray))).push (seqObj "list" vs.toArray 0) }) hoL h2 ⟨_, rfl, wpAny_pure ⟨_, rfl, h1 h2⟩⟩
  · exact list_sort_any (s := { s with heap := ((s.heap.push (seqObj "list" #[] 0)).update s.heap.objs.size (Obj.mapSeq (· ++ vs.toArray))).push (seqObj "list" vs.toArray 0) }) hoL h2 h64 (fun hq => hk h2 keep2 hq) (fun i j C hi hj hC => hc i j C _ hi hj keep2 hC)
      fun p hp hu => ⟨_, rfl, wpAny_pure ⟨_, rfl, h p hp hu⟩⟩
end

end Mine

namespace Mine
open PySem PySem.W PyProof.Rows

theorem keyed_get {α : Type} {f : V → Option α} : ∀ {vs : List V} {L : List (α × V)}, keyed f vs = some L → L.length = vs.length ∧ ∀ (i : Nat) (v : V), vs[i]? = some v → ∃ a, L[i]? = some (a, v) ∧ f v = some a
  | [], L, h => by cases h; exact ⟨rfl, fun i v h => by simp at h⟩
  | v :: vs, L, h => by
    simp only [keyed, Option.bind_eq_some_iff, Option.map_eq_some_iff] at h
    obtain ⟨a, ha, L', hL, rfl⟩ := h
    obtain ⟨h1, h2⟩ := keyed_get hL
    refine ⟨by simp [h1], fun i w hw => ?_⟩
    cases i with
    | zero => simp only [List.getElem?_cons_zero, Option.some.injEq] at hw; subst hw; exact ⟨a, rfl, ha⟩
    | succ i => exact h2 i w (by simpa using hw)

theorem VRs_idx {am : Amb} {π : List Addr} {h : Heap} {vs : List V} {xs : List Value} (hv : VRs am π h vs xs) : ∀ (is : List Nat), (∀ i ∈ is, i < vs.length) → VRs am π h (is.map fun i => vs.getD i .none) (is.map fun i => xs.getD i Value.none)
  | [], _ => rfl
  | i :: is, hi => by
    have h1 := hi i (List.mem_cons_self ..)
    have e : vs[i]? = some (vs.getD i .none) := by simp [h1]
    obtain ⟨x, hx, hvx⟩ := hv.get i _ e
    have ex : xs.getD i Value.none = x := by simp [List.getD_eq_getElem?_getD, hx]
    exact ⟨x, _, by rw [List.map_cons, ex], hvx, VRs_idx hv is fun j hj => hi j (List.mem_cons_of_mem _ hj)⟩

theorem isort_small {α : Type} (lt : α → α → Bool) : ∀ (L : List α), L.length < 2 → isort lt L = L
  | [], _ => rfl
  | [_], _ => rfl
  | _ :: _ :: _, h => absurd h (by simp)

section
variable {am : Amb} {stack : List Env} {A : Around} {π : List Addr} {s : Shared} {Hc : H}

/-- the things of a list, sorted into a new one -/
theorem newL_sorted {vs : List V} {xs : List Value} {ws : List V} {out : List Value} (hv : VRs am π s.heap ws out) : NewL am π s ws (.ref (s.heap.objs.size + 1)) { s with heap := sortedAll s.heap xs out.toArray } := by
  obtain ⟨e, he⟩ := sortedAll_at s.heap xs out.toArray
  have hn : s.heap.get? (s.heap.objs.size + 1) = none := Heap.get?_none_of_le (Nat.le_succ _)
  exact ⟨_, out, _, s.toks, rfl, rfl, fun b o h => sortedAll_old h, hn, ⟨_, _, he, rfl, rfl, rfl⟩, (hv.held hn).keeps fun b o h => sortedAll_old h⟩

theorem pm_mem {N : Nat} {p : Array Nat} (hp : Pm N p) : ∀ i ∈ p.toList, i < N := fun i hi => by
  have : i ∈ List.toArray (List.range N) := hp.perm.mem_iff.1 (Array.mem_toList_iff.1 hi)
  simpa using this

/-- by keys -/
theorem wp_sortBy {α : Type} [DecidableEq α] {lt : α → α → Bool} (o : Ord lt) {f : V → Option α} {l : Addr} {vs ws : List V} {xs : List Value} {L : List (α × V)} {T : Value} (dflt : α) (hl : s.heap.IsList l xs.toArray) (hv : VRs am π s.heap vs xs) (hL : keyed f vs = some L) (hw : sortBy lt L = some ws)
    (hT : ∀ v ∈ xs, ∀ h', (∀ b o, s.heap.get? b = some o → h'.get? b = some o) → Looks am.M h' (typeOf v) T) (hT1 : (T != Value.type "tuple") = true) (hT2 : (T == T) = true)
    (hc : ∀ v x u y a b h', VR am π s.heap v x → VR am π s.heap u y → f v = some a → f u = some b → (∀ b o, s.heap.get? b = some o → h'.get? b = some o) → ∀ C : Bool → Shared → Prop, C (lt a b) { s with heap := h' } → wpAny am.M A.in1.in1 (keyLt' oneType' x y) C (fun _ _ => False) { s with heap := h' })
    {Q : Value → Shared → Prop} {E : Value → Shared → Prop} (h : ∀ y s', NewL am π s ws y s' → Q y s') : wpAny am.M A (call (.builtin "sorted") [.ref l]) Q E s := by
  obtain ⟨hlen, hget⟩ := keyed_get hL
  have hx := hv.len
  unfold sortBy at hw
  split at hw
  · rename_i hcond
    simp only [Bool.and_eq_true, decide_eq_true_eq, List.all_eq_true] at hcond
    obtain ⟨h64, det⟩ := hcond
    cases hw
    have at' : ∀ i, i < xs.length → ∃ v a, vs[i]? = some v ∧ L[i]? = some (a, v) ∧ f v = some a ∧ VR am π s.heap v (xs.getD i Value.none) ∧ (L.getD i (dflt, .none)).1 = a := fun i hi => by
      have e : vs[i]? = some (vs.getD i .none) := by
        have : i < vs.length := by omega
        simp [this]
      obtain ⟨a, e1, e2⟩ := hget i _ e
      obtain ⟨x, e3, e4⟩ := hv.get i _ e
      have ex : xs.getD i Value.none = x := by simp [List.getD_eq_getElem?_getD, e3]
      exact ⟨_, a, e, e1, e2, by rw [ex]; exact e4, by simp [List.getD_eq_getElem?_getD, e1]⟩
    refine sorted_any (κ := oneType') (r := rank lt (fun i => (L.getD i (dflt, .none)).1) xs.length) hl (by omega) (fun h2 A' E' h' Q' k hq => kas_kind h2 (fun v hv => hT v hv h' k) hT1 hT2 hq) ?_ ?_ ?_
    · intro i j C h' hi hj k hC
      obtain ⟨v, a, _, _, e3, e4, e5⟩ := at' i hi
      obtain ⟨u, b, _, _, f3, f4, f5⟩ := at' j hj
      refine hc v _ u _ a b h' e4 f4 e3 f3 k C ?_
      rw [← rank_lt o hi hj, e5, f5] at hC
      exact hC
    · intro h2
      refine h _ _ (newL_sorted (vs := vs) ?_)
      have : (isort (fun a b => lt a.1 b.1) L).map (·.2) = vs := by
        have e : L.map (·.2) = vs := List.ext_getElem? fun i => by
          rw [List.getElem?_map]
          cases hvi : vs[i]? with
          | none => rw [List.getElem?_eq_none (by rw [hlen]; simpa using hvi)]; rfl
          | some v => obtain ⟨a, e1, _⟩ := hget i v hvi; rw [e1]; rfl
        rw [isort_small _ L (by omega), e]
      rw [this]; exact hv
    · intro p hp hu
      refine h _ _ (newL_sorted (vs := vs) ?_)
      have exl : xs.length = L.length := by omega
      rw [exl] at hp hu
      rw [← sorted_unique o (d := (dflt, V.none)) (fun p hp q hq => det p hp q hq) hp hu, List.map_map]
      have e := VRs_idx hv p.toList (fun i hi => by have := pm_mem hp i hi; omega)
      have e2 : (p.toList.map ((fun x : α × V => x.2) ∘ fun i => L.getD i (dflt, V.none))) = p.toList.map fun i => vs.getD i .none := List.map_congr_left fun i hi => by
        have := pm_mem hp i hi
        obtain ⟨v, a, e1, e2, _⟩ := at' i (by omega)
        simp [List.getD_eq_getElem?_getD, e1, e2]
      rw [e2]; exact e
  · cases hw
end

end Mine

namespace Mine
open PySem PySem.W PyProof.Rows

section
variable {am : Amb} {stack : List Env} {A : Around} {π : List Addr} {s : Shared} {Hc : H}

theorem asInts_are {am : Amb} {π : List Addr} {h : Heap} : ∀ {vs : List V} {is : List Int} {xs : List Value}, asInts vs = some is → VRs am π h vs xs → IntsAre xs is
  | [], is, xs, e, hv => by cases e; simp only [VRs] at hv; subst hv; exact .nil
  | v :: vs, is, xs, e, hv => by
    cases v <;> first | (cases e; done) | skip
    simp only [asInts, Option.map_eq_some_iff] at e
    obtain ⟨js, e, rfl⟩ := e
    obtain ⟨x, xs', rfl, ⟨t, rfl⟩, r⟩ := hv
    exact .cons _ _ (asInts_are e r)

theorem keyL_at (hr : HR am stack π Hc s.heap) {v : V} {x : Value} {is : List Int} (hvx : VR am π s.heap v x) (hk : keyL Hc v = some is) : ∃ b ys, x = .ref b ∧ s.heap.IsList b ys.toArray ∧ IntsAre ys is := by
  unfold keyL at hk
  obtain ⟨us, e1, e2⟩ := Option.bind_eq_some_iff.1 hk
  obtain ⟨b, ys, rfl, hb, _, hvs⟩ := litems_at hr hvx e1
  exact ⟨b, ys, rfl, hb, asInts_are e2 hvs⟩
theorem wp_sorted {n : Nat} {a : V} {x : Value} {vs ws : List V} (as : AS n stack A) (hr : HR am stack π Hc s.heap) (ha : VR am π s.heap a x) (hi : litems Hc a = some vs) (hs : sortVs Hc vs = some ws)
    {Q : Value → Shared → Prop} {E : Value → Shared → Prop} (h : ∀ y s', NewL am π s ws y s' → Q y s') : wpAny am.M A (call (.builtin "sorted") [x]) Q E s := by
  obtain ⟨l, xs, rfl, hl, hz, hv⟩ := litems_at hr ha hi
  have hu : (A.in1.in1).units < cLine := by
    have := as.units
    show A.units + 1 + 1 < 9900
    omega
  unfold sortVs at hs
  cases h1 : keyed keyI vs with
  | some L =>
    rw [h1] at hs
    refine wp_sortBy ord_int 0 (T := .type "int") hl hv h1 hs (fun v hm h' k => ?_) rfl rfl ?_ h
    · obtain ⟨i, hi⟩ := List.mem_iff_getElem?.1 hm
      have hlt := (List.getElem?_eq_some_iff.1 hi).1
      have hlen := hv.len
      have e : vs[i]? = some (vs.getD i .none) := by simp [show i < vs.length by omega]
      obtain ⟨k', _, e2⟩ := (keyed_get h1).2 i _ e
      obtain ⟨y, e3, e4⟩ := hv.get i _ e
      rw [hi] at e3; cases e3
      cases hv' : vs.getD i .none <;> rw [hv'] at e2 e4 <;> first | (cases e2; done) | skip
      obtain ⟨t, rfl⟩ := e4
      exact Looks.of_pure rfl
    · intro v x u y a b h' e1 e2 f1 f2 k C hC
      cases v <;> first | (cases f1; done) | skip
      cases u <;> first | (cases f2; done) | skip
      cases f1; cases f2
      obtain ⟨t, rfl⟩ := e1
      obtain ⟨t', rfl⟩ := e2
      rw [keyLt'_oneType]
      exact oneLt_int hC
  | none =>
    rw [h1] at hs
    cases h2 : keyed (keyL Hc) vs with
    | none => rw [h2] at hs; cases hs
    | some L =>
      rw [h2] at hs
      refine wp_sortBy ord_lex [] (T := .type "list") hl hv h2 hs (fun v hm h' k => ?_) rfl rfl ?_ h
      · obtain ⟨i, hi⟩ := List.mem_iff_getElem?.1 hm
        have hlt := (List.getElem?_eq_some_iff.1 hi).1
        have hlen := hv.len
        have e : vs[i]? = some (vs.getD i .none) := by simp [show i < vs.length by omega]
        obtain ⟨k', _, e2⟩ := (keyed_get h2).2 i _ e
        obtain ⟨y, e3, e4⟩ := hv.get i _ e
        rw [hi] at e3; cases e3
        obtain ⟨b, ys, rfl, ⟨o, ho, hc, r⟩, _⟩ := keyL_at hr e4 e2
        exact fun A' Q' E' s' k' q => wpAny_typeOf ⟨o, k' _ _ (k _ _ ho), hc⟩ q
      · intro v x u y a b h' e1 e2 f1 f2 k C hC
        obtain ⟨l1, ys, rfl, ⟨o, ho, r⟩, i1⟩ := keyL_at hr e1 f1
        obtain ⟨l2, zs, rfl, ⟨o', ho', r'⟩, i2⟩ := keyL_at hr e2 f2
        exact oneLt_list hu ⟨o, k _ _ ho, r⟩ ⟨o', k _ _ ho', r'⟩ i1 i2 hC

theorem sortVs_len {h : H} {vs ws : List V} (e : sortVs h vs = some ws) : ws.length ≤ 1000000 := by
  have by' : ∀ {α : Type} [DecidableEq α] {lt : α → α → Bool} {L : List (α × V)}, sortBy lt L = some ws → ws.length ≤ 1000000 := fun {α _ lt L} e => by
    unfold sortBy at e
    split at e
    · rename_i hc
      simp only [Bool.and_eq_true, decide_eq_true_eq] at hc
      cases e
      rw [List.length_map, (isort_perm L).length_eq]; omega
    · cases e
  unfold sortVs at e
  cases h1 : keyed keyI vs with
  | some L => rw [h1] at e; exact by' e
  | none =>
    rw [h1] at e
    cases h2 : keyed (keyL h) vs with
    | some L => rw [h2] at e; exact by' e
    | none => rw [h2] at e; cases e
theorem op_sorted {n : Nat} {a : V} {x : Value} (as : AS n stack A) (hr : HR am stack π Hc s.heap) (ha : VR am π s.heap a x) :
    JAt am stack A (call (.builtin "sorted") [x]) (R.opt (bf .sorted Hc a) Hc) (VR am) π s := by
  unfold bf
  dsimp only
  cases hi : litems Hc a with
  | none => exact .inl rfl
  | some vs =>
    rw [Option.bind_some]
    cases hs : sortVs Hc vs with
    | none => exact .inl rfl
    | some ws => exact .inr (wp_sorted as hr ha hi hs fun y s' hn => hn.lst hr (sortVs_len hs))
end

end Mine

namespace Mine
open PySem PySem.W

noncomputable def Amb.at (am : Amb) (res : List Addr) : Amb := { am with res := res }

/-- the builtins that are named -/
noncomputable def bTab : List (Str × Value) :=
  [("len", .builtin "len"), ("all", .builtin "all"), ("any", .builtin "any"), ("isinstance", .builtin "isinstance"), ("sorted", .builtin "sorted"), ("min", .builtin "min"), ("sum", .builtin "sum"),
   ("list", .type "list"), ("tuple", .type "tuple"), ("int", .type "int"), ("str", .type "str"), ("bool", .type "bool"), ("range", .type "range"), ("reversed", .type "reversed"),
   ("enumerate", .type "enumerate"), ("ValueError", .type "ValueError")]

def btOk : Value → Bool
  | .builtin _ => true
  | .type _ => true
  | _ => false
theorem bt_all : bTab.all (fun p => btOk p.2) = true := by kernel_rfl
theorem btOk_inv {v : Value} (h : btOk v = true) : (∃ id, v = .builtin id) ∨ ∃ T, v = .type T := by
  cases v <;> first | exact .inl ⟨_, rfl⟩ | exact .inr ⟨_, rfl⟩ | exact noB h
theorem bt_kind {x : Str} {v : Value} (h : (x, v) ∈ bTab) : (∃ id, v = .builtin id) ∨ ∃ T, v = .type T := btOk_inv (List.all_eq_true.mp bt_all _ h)
theorem bt_mem {x : Str} {v : Value} (h : bTab.contains (x, v) = true) : (x, v) ∈ bTab := List.contains_iff_mem.mp h

/-- an exception class of the text's own: what isinstance asks of it -/
structure ExcCls (am : Amb) (c : String) (C : Addr) : Prop where
  name : am.mg (Str.ofString c) = some (.ref C)
  get : findIn am.K (.ref C) "__getattribute__" = some (some (.builtin "BaseException.__getattribute__")) ∧ findIn am.K (.ref C) "__getattr__" = some none
  cls : (clsIn am.K C).isSome = true
  find : findIn am.K (.ref C) "__class__" = some (some (.builtin "object.__class__"))
  spec : specialIn am.K (.builtin "object.__class__") "__get__" = some (some (.builtin "getset_descriptor.__get__"))
  takes : takesIn am.K (.builtin "object.__class__") = some true
  mro : mroIn am.K C (.type "object") = some true
  val : kitOne am.K (.ref C) (.type "ValueError") = some true

/-- a class whose exceptions are raised -/
noncomputable def RaiseAt (B : Heap) (C : Addr) : Prop := ∃ nm q N bs bm hdct sn sub ab col dd k0 k1 k2 k3 k5 mN,
  B.get? C = some (excClassObj nm q C N bs bm hdct sn sub ab col dd k0 k1 k2 k3 k5 "ValueError.__new__") ∧ B.Ns N mN ∧ (∀ n ∈ quietNames, mN n = none) ∧
    OwnTailQ B [.type "ValueError", .type "Exception", .type "BaseException", .type "object"] bm

structure AmbX (am : Amb) : Prop extends AmbOK am where
  K : Frag.In am.K am.B
  bt : ∀ p ∈ bTab, am.mg p.1 = none ∧ am.mb p.1 = some p.2
  exc : ∀ c ∈ excNames, ∃ C, ExcCls am c C
  sub : ∀ c ∈ excNames, ∀ d ∈ excNames, ∀ C D, am.mg (Str.ofString c) = some (.ref C) → am.mg (Str.ofString d) = some (.ref D) → kitOne am.K (.ref C) (.ref D) = some (c == d || d == "RingError")
  exm : ∀ c ∈ excNames, ∀ C D, am.mg (Str.ofString c) = some (.ref C) → am.mg (Str.ofString "RingError") = some (.ref D) → exmOne am.K (.ref C) (.ref D) = some true
  rs : ∀ c ∈ excNames, ∀ C, am.mg (Str.ofString c) = some (.ref C) → RaiseAt am.B C

theorem AmbX.at {am : Amb} (x : AmbX am) (res : List Addr) : AmbX (am.at res) := ⟨⟨x.g, x.b, x.nolimit, x.noseer, x.tree⟩, x.K, x.bt, fun c hc => let ⟨C, e⟩ := x.exc c hc; ⟨C, e.name, e.get, e.cls, e.find, e.spec, e.takes, e.mro, e.val⟩, x.sub, x.exm, x.rs⟩

noncomputable def FunAt (am : Amb) (f : String) (a : Addr) : Prop := am.mg (Str.ofString f) = some (.ref a) ∧ ∃ o fd, am.B.get? a = some o ∧ o.data = .func fd

structure CkR (am : Amb) (c : Ck) (cx : Cx) : Prop where
  ctx : cx.ctx = c.ctx
  names : cx.env.scope.names = c.names
  fns : ∀ f ∈ c.fns, ∃ a, FunAt am f a
  nums : ∀ p ∈ c.nums, ∃ t, am.mg (Str.ofString p.1) = some (.int p.2 t)

noncomputable def ArgR (am : Amb) (q : Bool) (π : List Addr) (h : Heap) (vs : List V) (xs : List Value) : Prop :=
  VRs am π h vs xs ∨ (q = false ∧ ∃ c a, vs = [.exc c] ∧ xs = [.ref a] ∧ a ∉ π ∧ ExcAt am h c a)

structure FnOK (am : Amb) (n : Nat) (F : Fn) : Prop where
  call : ∀ res q f a vs xs stack A π Hc s, FunAt am f a → AS n stack A → HR (am.at res) stack π Hc s.heap → Hd q A π (Fs stack) s.heap → ArgR (am.at res) q π s.heap vs xs →
    JAt (am.at res) stack A (PySem.call (.ref a) xs []) (F q f vs Hc) (VR (am.at res)) π s

/-- all that an expression's walk stands on -/
structure Base (am : Amb) (n : Nat) (q : Bool) (F : Fn) (c : Ck) (cx : Cx) (ρ : List V) (A : Around) : Prop where
  ok : AmbX am
  fn : FnOK am n F
  ck : CkR am c cx
  cxk : CxOK cx
  as : AS n cx.stack A
  ne : q = true → NoExc ρ

section
variable {am : Amb} {n : Nat} {q : Bool} {F : Fn} {c : Ck} {cx : Cx} {ρ : List V} {A : Around} {res π : List Addr} {Hc : H} {s : Shared}

theorem ns_stays {B h : Heap} (k : B.StaysIn h) {a : Addr} {m : Str → Option Value} (hn : B.Ns a m) : h.Ns a m := let ⟨o, es, ep, ho, r⟩ := hn; ⟨o, es, ep, k a o ho, r⟩

theorem HR.gns {am : Amb} {stack : List Env} (ok : AmbX am) (hr : HR (am.at res) stack π Hc s.heap) : s.heap.Ns mainGlobals am.mg := ns_stays hr.base ok.g
theorem HR.bns {am : Amb} {stack : List Env} (ok : AmbX am) (hr : HR (am.at res) stack π Hc s.heap) : s.heap.Ns builtinsNs am.mb := ns_stays hr.base ok.b

theorem kind_is (b : CkR am c cx) (x : Str) : cx.env.kindOf x = c.names.lookup x := by unfold Env.kindOf; rw [b.names]

/-- a global name -/
theorem wp_glob (b : Base am n q F c cx ρ A) (hr : HR (am.at res) cx.stack π Hc s.heap) {x : Str} {p : Pos} {v : Value} {Q : Value → Shared → Prop} {E : Value → Shared → Prop} (hx : c.glob x = true) (hv : am.mg x = some v) (h : Q v s) :
    wpAny am.M A (eval (.Name x p) cx.env) Q E s := by
  unfold Ck.glob at hx
  simp only [Bool.and_eq_true, beq_iff_eq, Bool.not_eq_true'] at hx
  refine Calls.Name_function_global b.cxk.kind (by rw [kind_is b.ck]; exact hx.1) (Calls.loadGlobal_global (mg := am.mg) ?_ hv h) hx.2
  rw [b.cxk.globals]; exact HR.gns b.ok hr
/-- a builtin's name -/
theorem wp_bt (b : Base am n q F c cx ρ A) (hr : HR (am.at res) cx.stack π Hc s.heap) {x : Str} {p : Pos} {v : Value} {Q : Value → Shared → Prop} {E : Value → Shared → Prop} (hx : c.glob x = true) (hv : (x, v) ∈ bTab) (h : Q v s) :
    wpAny am.M A (eval (.Name x p) cx.env) Q E s := by
  unfold Ck.glob at hx
  simp only [Bool.and_eq_true, beq_iff_eq, Bool.not_eq_true'] at hx
  obtain ⟨h1, h2⟩ := b.ok.bt _ hv
  refine Calls.Name_function_global b.cxk.kind (by rw [kind_is b.ck]; exact hx.1) (Calls.loadGlobal_builtin (mg := am.mg) (mb := am.mb) ?_ h1 ?_ h2 h) hx.2
  · rw [b.cxk.globals]; exact HR.gns b.ok hr
  · rw [b.cxk.builtins]; exact HR.bns b.ok hr

/-- a name of the frame -/
theorem wp_var (b : Base am n q F c cx ρ A) (st : St (am.at res) q cx ρ π Hc A s) {x : Str} {i : Nat} {p : Pos} {v : V} {Q : Value → Shared → Prop} {E : Value → Shared → Prop} (hx : c.var x i = true) (hv : ρ[i]? = some v) (hu : v ≠ .undef)
    (h : ∀ v', SR (am.at res) π s.heap v v' → Q v' s) : wpAny am.M A (eval (.Name x p) cx.env) Q E s := by
  unfold Ck.var at hx
  simp only [Bool.and_eq_true, beq_iff_eq, Bool.not_eq_true'] at hx
  refine hold fun _ k_ => ?_
  obtain ⟨⟨⟨h1, h2⟩, h3⟩, h4⟩ := hx
  refine k_ ?_
  have hvis : Vis cx.env x := by
    unfold Vis; rw [kind_is b.ck]
    unfold visible at h2
    simp only [Bool.or_eq_true, beq_iff_eq] at h2
    rcases h2 with (h2 | h2) | h2 <;> simp [h2]
  obtain ⟨v', h5, h6⟩ := st.er.var x i v (by rw [b.ck.ctx]; exact h1) hv hu hvis
  refine wpAny_Name ?_ h3
  rcases h5 with ⟨k, m, h7, h8⟩ | ⟨k, cc, h7, h8⟩
  · exact wpAny_loadName_local b.cxk.kind k h7 h8 (h v' h6)
  · rcases k with k | k
    · exact wpAny_loadName_cell b.cxk.kind k h7 h8 (h v' h6)
    · exact wpAny_loadName_free b.cxk.kind k h7 h8 (h v' h6) h4

theorem ev_var (b : Base am n q F c cx ρ A) (st : St (am.at res) q cx ρ π Hc A s) {x : Str} {i : Nat} {p : Pos} (hx : c.var x i = true) :
    JAt (am.at res) cx.stack A (eval (.Name x p) cx.env) (evE q F ρ (.var i) Hc) (VR (am.at res)) π s := by
  simp only [qE_1, qE_2, qE_3, qE_4, qE_5, qE_6, qE_7, qE_8, qE_9, qE_10, qE_11, qE_12, qE_13, qE_14, qE_15, qE_16, qE_17, qE_18, qE_19, qE_20, qE_21, qE_22, qE_23, qE_24, qE_25, qE_26, qE_27, qE_28, qE_29, qE_30, qE_31, qE_32, qE_33, qE_34, qE_35, qE_36, qE_37, qE_38]
  cases hv : ρ[i]? with
  | none => exact .inl rfl
  | some v =>
    have go : (∀ c, v ≠ .exc c) → v ≠ .undef → JAt (am.at res) cx.stack A (eval (.Name x p) cx.env) (.ok v Hc) (VR (am.at res)) π s :=
      fun h1 h2 => .inr (wp_var b st hx hv h2 fun v' h => OkP.here st.hr (h.vr h1))
    cases v with
    | undef => exact .inl rfl
    | exc c => exact .inl rfl
    | _ => exact go (by simp) (by simp)

/-- the value of a test -/
noncomputable def tr (r : R V) : R Bool := r.bind fun x h => match truthy x with
  | some b => .ok b h
  | none => .bad

noncomputable def BR (_ : List Addr) (_ : Heap) (b : Bool) (a : Bool) : Prop := b = a

theorem wp_truthy {am : Amb} {stack : List Env} {x : Value} {v : V} (hr : HR am stack π Hc s.heap) (hv : VR am π s.heap v x) :
    JAt am stack A (PySem.truthy x) ((match truthy v with | some b => R.ok b Hc | none => R.bad)) BR π s := by
  cases v with
  | bool b => simp only [VR] at hv; subst hv; exact .inr (wpAny_truthy_bool (OkP.here hr rfl))
  | _ => exact .inl rfl

theorem bind_tr {α : Type} (r : R α) (f : α → H → R V) : tr (r.bind f) = r.bind fun a h => tr (f a h) := by cases r <;> rfl
theorem tr_bind {α : Type} (r : R V) (f : Bool → H → R α) : (tr r).bind f = r.bind fun x h => match truthy x with
  | some b => f b h
  | none => .bad := by
  cases r with
  | ok v h => simp only [tr, R.bind]; cases truthy v <;> rfl
  | _ => rfl

end

end Mine

namespace Mine
open PySem PySem.W PyProof.Rows

section
variable {am : Amb} {stack : List Env} {A : Around} {α β γ δ : Type} {Rel : List Addr → Heap → β → α → Prop} {Rel' : List Addr → Heap → δ → γ → Prop} {π : List Addr} {s : Shared}

/-- one thing behind another, where the library says so in one rule -/
theorem JAt.seqP {m : Sem α} {t : Sem γ} {f : α → Sem γ} {r : R β} {g : β → H → R δ} {P : α → Shared → Prop}
    (K : ∀ (Q : γ → Shared → Prop) (E : Value → Shared → Prop), wpAny am.M A m (fun a s₁ => P a s₁ ∧ wpAny am.M A (f a) Q E s₁) E s → wpAny am.M A t Q E s) (h1 : JAt am stack A m r Rel π s)
    (h2 : ∀ a b H' π' s', r = .ok b H' → Step (Fs stack) π s π' s' → HR am stack π' H' s'.heap → Rel π' s'.heap b a → P a s' ∧ JAt am stack A (f a) (g b H') Rel' π' s') :
    JAt am stack A t (r.bind g) Rel' π s := by
  rcases h1 with rfl | h1
  · exact .inl rfl
  · cases r with
    | bad => exact .inl rfl
    | err c H' =>
      refine .inr (K _ _ (wpAny_mono h1 (fun a s' h => ?_) fun e s' h => ?_))
      · obtain ⟨_, _, _, h, _⟩ := h; cases h
      · refine hold fun _ k_ => ?_
        obtain ⟨c', H'', π', e', C, fl, h, r2, r3, r4, r5, r6⟩ := h
        refine k_ ?_
        cases h
        exact ⟨c, H', π', e', C, fl, rfl, r2, r3, r4, r5, r6⟩
    | ok b H' =>
      by_cases hb : g b H' = .bad
      · exact .inl hb
      · refine .inr (K _ _ (wpAny_mono h1 (fun a s' h => ?_) fun e s' h => ?_))
        · refine hold fun _ k_ => ?_
          obtain ⟨b', H'', π', h, h3, h4, h5⟩ := h
          refine k_ ?_
          cases h
          obtain ⟨hp, h2⟩ := h2 a b H' π' s' rfl h3 h4 h5
          rcases h2 with h6 | h6
          · exact absurd h6 hb
          · exact ⟨hp, wpAny_mono h6 (fun _ _ y => OkP.step h3 y) fun _ _ y => ErP.step h3 y⟩
        · obtain ⟨_, _, _, _, _, _, h, _⟩ := h; cases h

theorem JAt.seq {m : Sem α} {t : Sem γ} {f : α → Sem γ} {r : R β} {g : β → H → R δ}
    (K : ∀ (Q : γ → Shared → Prop) (E : Value → Shared → Prop), wpAny am.M A m (fun a s₁ => wpAny am.M A (f a) Q E s₁) E s → wpAny am.M A t Q E s) (h1 : JAt am stack A m r Rel π s)
    (h2 : ∀ a b H' π' s', r = .ok b H' → Step (Fs stack) π s π' s' → HR am stack π' H' s'.heap → Rel π' s'.heap b a → JAt am stack A (f a) (g b H') Rel' π' s') :
    JAt am stack A t (r.bind g) Rel' π s :=
  JAt.seqP (P := fun _ _ => True) (fun Q E h => K Q E (wpAny_mono h (fun _ _ x => x.2) fun _ _ x => x)) h1 fun a b H' π' s' e1 e2 e3 e4 => ⟨trivial, h2 a b H' π' s' e1 e2 e3 e4⟩
end

section
variable (am : Amb) (n : Nat) (q : Bool) (F : Fn) (c : Ck)

noncomputable def EJ (e : PE) (ex : Expr) : Prop := ∀ {cx : Cx} {ρ : List V} {A : Around} {res π : List Addr} {Hc : H} {s : Shared}, Base am n q F c cx ρ A → St (am.at res) q cx ρ π Hc A s →
  JAt (am.at res) cx.stack A (eval ex cx.env) (evE q F ρ e Hc) (VR (am.at res)) π s
noncomputable def TJ (e : PE) (ex : Expr) : Prop := ∀ {cx : Cx} {ρ : List V} {A : Around} {res π : List Addr} {Hc : H} {s : Shared}, Base am n q F c cx ρ A → St (am.at res) q cx ρ π Hc A s →
  JAt (am.at res) cx.stack A (isTrue ex cx.env (eval ex cx.env)) (tr (evE q F ρ e Hc)) BR π s

noncomputable def AllJ : List PE → List Expr → Prop
  | [], [] => True
  | e :: es, x :: xs => (isStar x = false ∧ EJ am n q F c e x ∧ TJ am n q F c e x) ∧ AllJ es xs
  | _, _ => False
end

noncomputable def plainTest (e : Expr) : Bool := @Expr.casesOn (fun _ => Bool) e (fun _ _ _ => false) (fun _ _ _ => true) (fun _ _ _ _ => true) (fun o _ _ => decide (o ≠ .Not)) (fun _ _ _ _ => true) (fun _ _ _ _ => false) (fun _ _ _ => true) (fun _ _ _ => true) (fun _ _ _ _ => true) (fun _ _ _ _ => true) (fun _ _ _ _ _ => true) (fun _ _ _ _ => true) (fun _ _ => true) (fun _ _ => true) (fun _ _ => true) (fun _ _ _ _ => false) (fun _ _ _ _ => true) (fun _ _ _ _ => true) (fun _ _ => true) (fun _ _ _ => true) (fun _ _ _ => true) (fun _ _ _ => true) (fun _ _ => true) (fun _ _ => true) (fun _ _ => true) (fun _ _ _ => true) (fun _ _ _ _ => true)

theorem isTrue_plain {ex : Expr} (h : plainTest ex = true) (env : Env) (whole : Sem Value) : isTrue ex env whole = (do let v ← whole; standAt ex.pos; holding [v] (PySem.truthy v)) := by
  cases ex <;> first | rfl | exact noB h | skip
  rename_i op x pos
  cases op <;> first | rfl | exact noB h

section
variable {am : Amb} {n : Nat} {q : Bool} {F : Fn} {c : Ck}

theorem EJ.test {e : PE} {ex : Expr} (h : EJ am n q F c e ex) (hp : plainTest ex = true) : TJ am n q F c e ex := by
  intro cx ρ A res π Hc s b st
  refine JAt.congr (isTrue_plain hp _ _) rfl ?_
  unfold tr
  refine JAt.bind (h b st) fun x v H1 π1 s1 _ hs1 hr1 hv1 => JAt.standAt (JAt.holding (wp_truthy hr1 hv1))

theorem bop_of {op : Bop} {o : Operator} (h : bopIs op o = true) : o = bopM op := (of_decide_eq_true h).symm
theorem cop_of {op : Cop} {o : CmpOp} (h : copIs op o = true) : o = copM op := (of_decide_eq_true h).symm

theorem ej_none {k : Nat} {p : Pos} : EJ am n q F c .none (.Constant .none k p) := fun _ st => by
  simp only [qE_1, qE_2, qE_3, qE_4, qE_5, qE_6, qE_7, qE_8, qE_9, qE_10, qE_11, qE_12, qE_13, qE_14, qE_15, qE_16, qE_17, qE_18, qE_19, qE_20, qE_21, qE_22, qE_23, qE_24, qE_25, qE_26, qE_27, qE_28, qE_29, qE_30, qE_31, qE_32, qE_33, qE_34, qE_35, qE_36, qE_37, qE_38]; exact .inr (wpAny_Constant_none (OkP.here st.hr rfl))
theorem ej_bool {b : Bool} {k : Nat} {p : Pos} : EJ am n q F c (.bool b) (.Constant (.bool b) k p) := fun _ st => by
  simp only [qE_1, qE_2, qE_3, qE_4, qE_5, qE_6, qE_7, qE_8, qE_9, qE_10, qE_11, qE_12, qE_13, qE_14, qE_15, qE_16, qE_17, qE_18, qE_19, qE_20, qE_21, qE_22, qE_23, qE_24, qE_25, qE_26, qE_27, qE_28, qE_29, qE_30, qE_31, qE_32, qE_33, qE_34, qE_35, qE_36, qE_37, qE_38]; exact .inr (wpAny_Constant_bool (OkP.here st.hr rfl))
theorem ej_int {i : Int} {k : Nat} {p : Pos} : EJ am n q F c (.int i) (.Constant (.int i) k p) := fun _ st => by
  simp only [qE_1, qE_2, qE_3, qE_4, qE_5, qE_6, qE_7, qE_8, qE_9, qE_10, qE_11, qE_12, qE_13, qE_14, qE_15, qE_16, qE_17, qE_18, qE_19, qE_20, qE_21, qE_22, qE_23, qE_24, qE_25, qE_26, qE_27, qE_28, qE_29, qE_30, qE_31, qE_32, qE_33, qE_34, qE_35, qE_36, qE_37, qE_38]; exact .inr (wpAny_Constant_int (OkP.tok st.hr ⟨_, rfl⟩))
theorem ej_str {t : String} {k : Nat} {p : Pos} : EJ am n q F c (.str t) (.Constant (.str (Str.ofString t)) k p) := fun _ st => by
  simp only [qE_1, qE_2, qE_3, qE_4, qE_5, qE_6, qE_7, qE_8, qE_9, qE_10, qE_11, qE_12, qE_13, qE_14, qE_15, qE_16, qE_17, qE_18, qE_19, qE_20, qE_21, qE_22, qE_23, qE_24, qE_25, qE_26, qE_27, qE_28, qE_29, qE_30, qE_31, qE_32, qE_33, qE_34, qE_35, qE_36, qE_37, qE_38]; exact .inr (wpAny_Constant_str (OkP.tok st.hr ⟨_, rfl⟩))
theorem ej_var {i : Nat} {x : Str} {p : Pos} (h : c.var x i = true) : EJ am n q F c (.var i) (.Name x p) := fun b st => ev_var b st h
theorem ej_glob {g : String} {i : Int} {p : Pos} (h : c.glob (Str.ofString g) = true) (hm : (g, i) ∈ c.nums) : EJ am n q F c (.glob g i) (.Name (Str.ofString g) p) := fun b st => by
  simp only [qE_1, qE_2, qE_3, qE_4, qE_5, qE_6, qE_7, qE_8, qE_9, qE_10, qE_11, qE_12, qE_13, qE_14, qE_15, qE_16, qE_17, qE_18, qE_19, qE_20, qE_21, qE_22, qE_23, qE_24, qE_25, qE_26, qE_27, qE_28, qE_29, qE_30, qE_31, qE_32, qE_33, qE_34, qE_35, qE_36, qE_37, qE_38]
  obtain ⟨t, ht⟩ := b.ck.nums _ hm
  exact .inr (wp_glob b st.hr h ht (OkP.here st.hr ⟨t, rfl⟩))
theorem ej_neg {i : Int} {k : Nat} {p p' : Pos} : EJ am n q F c (.neg i) (.UnaryOp .USub (.Constant (.int i) k p) p') := fun {cx ρ A res π Hc s} b st => by
  simp only [qE_1, qE_2, qE_3, qE_4, qE_5, qE_6, qE_7, qE_8, qE_9, qE_10, qE_11, qE_12, qE_13, qE_14, qE_15, qE_16, qE_17, qE_18, qE_19, qE_20, qE_21, qE_22, qE_23, qE_24, qE_25, qE_26, qE_27, qE_28, qE_29, qE_30, qE_31, qE_32, qE_33, qE_34, qE_35, qE_36, qE_37, qE_38]
  refine .inr (wpAny_UnaryOp (wpAny_Constant_int ?_))
  exact neg_int (OkP.step (Step.tok _) (OkP.tok (st.hr.keeps fun _ _ e => e) ⟨_, rfl⟩))

theorem ej_bin {op : Bop} {o : Operator} {a b : PE} {l r : Expr} {p : Pos} (ho : bopIs op o = true) (ha : EJ am n q F c a l) (hb : EJ am n q F c b r) : EJ am n q F c (.bin op a b) (.BinOp l o r p) := fun {cx ρ A res π Hc s} B st => by
  rw [bop_of ho]
  simp only [qE_1, qE_2, qE_3, qE_4, qE_5, qE_6, qE_7, qE_8, qE_9, qE_10, qE_11, qE_12, qE_13, qE_14, qE_15, qE_16, qE_17, qE_18, qE_19, qE_20, qE_21, qE_22, qE_23, qE_24, qE_25, qE_26, qE_27, qE_28, qE_29, qE_30, qE_31, qE_32, qE_33, qE_34, qE_35, qE_36, qE_37, qE_38]
  refine JAt.congr (arm_eval_BinOp ..) rfl (JAt.bind (ha B st) fun x v H1 π1 s1 _ hs1 hr1 hv1 => ?_)
  refine JAt.bind (JAt.holding (hb B (st.step hs1 hr1))) fun y w H2 π2 s2 _ hs2 hr2 hv2 => ?_
  exact JAt.standAt (JAt.operate (op_bin (B.ok.at res).toAmbOK B.cxk.stackOK B.as hr2 (hv1.step hs2) hv2))

theorem ej_not {a : PE} {x : Expr} {p : Pos} (ha : EJ am n q F c a x) : EJ am n q F c (.not a) (.UnaryOp .Not x p) := fun {cx ρ A res π Hc s} B st => by
  simp only [qE_1, qE_2, qE_3, qE_4, qE_5, qE_6, qE_7, qE_8, qE_9, qE_10, qE_11, qE_12, qE_13, qE_14, qE_15, qE_16, qE_17, qE_18, qE_19, qE_20, qE_21, qE_22, qE_23, qE_24, qE_25, qE_26, qE_27, qE_28, qE_29, qE_30, qE_31, qE_32, qE_33, qE_34, qE_35, qE_36, qE_37, qE_38]
  refine JAt.congr (arm_eval_UnaryOp ..) rfl (JAt.bind (ha B st) fun x v H1 π1 s1 _ hs1 hr1 hv1 => ?_)
  exact JAt.standAt (JAt.holding (op_not hr1 hv1))
theorem tj_not {a : PE} {x : Expr} {p : Pos} (ha : TJ am n q F c a x) : TJ am n q F c (.not a) (.UnaryOp .Not x p) := fun {cx ρ A res π Hc s} B st => by
  have e : tr (evE q F ρ (.not a) Hc) = (tr (evE q F ρ a Hc)).bind fun b h => .ok (!b) h := by
    simp only [qE_1, qE_2, qE_3, qE_4, qE_5, qE_6, qE_7, qE_8, qE_9, qE_10, qE_11, qE_12, qE_13, qE_14, qE_15, qE_16, qE_17, qE_18, qE_19, qE_20, qE_21, qE_22, qE_23, qE_24, qE_25, qE_26, qE_27, qE_28, qE_29, qE_30, qE_31, qE_32, qE_33, qE_34, qE_35, qE_36, qE_37, qE_38, tr]
    cases evE q F ρ a Hc with
    | ok v h => simp only [R.bind_ok]; cases truthy v <;> rfl
    | _ => rfl
  rw [e]
  refine JAt.congr (arm_isTrue_UnaryOp ..) rfl (JAt.bind (ha B st) fun x v H1 π1 s1 _ hs1 hr1 hv1 => ?_)
  exact JAt.pure hr1 (congrArg _ hv1)


theorem marks_of {op : CmpOp} {r : Expr} (h : isSet r = false) (t : Sem Value) : markedBehindIn op r t = t := by
  have : behindInMarks op r = false := by cases r <;> first | rfl | exact noB h.symm
  unfold markedBehindIn; rw [this]

theorem ej_cmp {op : Cop} {o : CmpOp} {a b : PE} {l r : Expr} {p : Pos} (ho : copIs op o = true) (hs : isSet r = false) (ha : EJ am n q F c a l) (hb : EJ am n q F c b r) : EJ am n q F c (.cmp op a b) (.Compare l [o] [r] p) := fun {cx ρ A res π Hc s} B st => by
  rw [cop_of ho]
  simp only [qE_1, qE_2, qE_3, qE_4, qE_5, qE_6, qE_7, qE_8, qE_9, qE_10, qE_11, qE_12, qE_13, qE_14, qE_15, qE_16, qE_17, qE_18, qE_19, qE_20, qE_21, qE_22, qE_23, qE_24, qE_25, qE_26, qE_27, qE_28, qE_29, qE_30, qE_31, qE_32, qE_33, qE_34, qE_35, qE_36, qE_37, qE_38]
  refine JAt.congr (eval_Compare1 ..) rfl (JAt.bind (ha B st) fun x v H1 π1 s1 _ hs1 hr1 hv1 => ?_)
  rw [marks_of hs]
  refine JAt.bind (JAt.holding (hb B (st.step hs1 hr1))) fun y w H2 π2 s2 _ hs2 hr2 hv2 => ?_
  exact JAt.standAt (JAt.operate (op_cmp B.as hr2 (hv1.step hs2) hv2))
theorem tj_cmp {op : Cop} {o : CmpOp} {a b : PE} {l r : Expr} {p : Pos} (ho : copIs op o = true) (hs : isSet r = false) (ha : EJ am n q F c a l) (hb : EJ am n q F c b r) : TJ am n q F c (.cmp op a b) (.Compare l [o] [r] p) := fun {cx ρ A res π Hc s} B st => by
  rw [cop_of ho]
  simp only [qE_1, qE_2, qE_3, qE_4, qE_5, qE_6, qE_7, qE_8, qE_9, qE_10, qE_11, qE_12, qE_13, qE_14, qE_15, qE_16, qE_17, qE_18, qE_19, qE_20, qE_21, qE_22, qE_23, qE_24, qE_25, qE_26, qE_27, qE_28, qE_29, qE_30, qE_31, qE_32, qE_33, qE_34, qE_35, qE_36, qE_37, qE_38, bind_tr]
  refine JAt.congr (isTrue_Compare1 ..) rfl (JAt.bind (ha B st) fun x v H1 π1 s1 _ hs1 hr1 hv1 => ?_)
  rw [marks_of hs]
  refine JAt.bind (JAt.holding (hb B (st.step hs1 hr1))) fun y w H2 π2 s2 _ hs2 hr2 hv2 => ?_
  refine JAt.standAt ?_
  unfold tr
  exact JAt.bind (JAt.operate (op_cmp B.as hr2 (hv1.step hs2) hv2)) fun x v H3 π3 s3 _ hs3 hr3 hv3 => JAt.holding (wp_truthy hr3 hv3)

theorem JAt.release {am : Amb} {stack : List Env} {A : Around} {α β : Type} {Rel : List Addr → Heap → β → α → Prop} {π : List Addr} {s : Shared} {vs keep : List Value} {f : Unit → Sem α} {r : R β} (h : JAt am stack A (f ()) r Rel π s) : JAt am stack A (PySem.release vs keep >>= f) r Rel π s :=
  h.rule fun _ _ x => wpAny_bind (release_wp x)

theorem ej_cmp2 {op1 op2 : Cop} {o1 o2 : CmpOp} {a b d : PE} {l r1 r2 : Expr} {p : Pos} (ho1 : copIs op1 o1 = true) (ho2 : copIs op2 o2 = true) (hs : isSet r2 = false) (ha : EJ am n q F c a l) (hb : EJ am n q F c b r1) (hd : EJ am n q F c d r2) :
    EJ am n q F c (.cmp2 op1 op2 a b d) (.Compare l [o1, o2] [r1, r2] p) := fun {cx ρ A res π Hc s} B st => by
  rw [cop_of ho1, cop_of ho2]
  simp only [qE_1, qE_2, qE_3, qE_4, qE_5, qE_6, qE_7, qE_8, qE_9, qE_10, qE_11, qE_12, qE_13, qE_14, qE_15, qE_16, qE_17, qE_18, qE_19, qE_20, qE_21, qE_22, qE_23, qE_24, qE_25, qE_26, qE_27, qE_28, qE_29, qE_30, qE_31, qE_32, qE_33, qE_34, qE_35, qE_36, qE_37, qE_38]
  refine JAt.congr (arm_eval_Compare ..) rfl (JAt.bind (ha B st) fun x v H1 π1 s1 _ hs1 hr1 hv1 => ?_)
  have st1 := st.step hs1 hr1
  show JAt _ _ _ (compareChain p x [copM op1, copM op2] [eval r1 cx.env, markedBehindIn (copM op2) r2 (eval r2 cx.env)]) _ _ _ _
  rw [marks_of hs]
  refine JAt.bind (JAt.holding (hb B st1)) fun y w H2 π2 s2 _ hs2 hr2 hv2 => JAt.standAt ?_
  have st2 := st1.step hs2 hr2
  have hv1' := hv1.step hs2
  have e : ∀ (k : H → R V), (match pyCmp op1 H2 v w with | some true => k H2 | some false => .ok (.bool false) H2 | none => .bad) = (R.opt ((pyCmp op1 H2 v w).map V.bool) H2).bind fun x h => match truthy x with | some true => k h | some false => .ok (.bool false) h | none => .bad := by
    intro k
    cases pyCmp op1 H2 v w with
    | none => rfl
    | some b => cases b <;> rfl
  refine JAt.congr rfl (e fun h => (evE q F ρ d h).bind fun z h => R.opt ((pyCmp op2 h w z).map V.bool) h) ?_
  refine JAt.bind (JAt.holding (op_cmp B.as hr2 hv1' hv2)) fun z u H3 π3 s3 _ hs3 hr3 hv3 => JAt.release ?_
  have st3 := st2.step hs3 hr3
  cases u with
  | bool t =>
    simp only [VR] at hv3; subst hv3
    refine JAt.rule (fun Q E h => wpAny_bind (wpAny_holding (wpAny_truthy_bool h))) ?_
    cases t with
    | false => exact JAt.pure hr3 rfl
    | true =>
      refine JAt.bind (JAt.holding (hd B st3)) fun y' w' H4 π4 s4 _ hs4 hr4 hv4 => ?_
      exact JAt.standAt (JAt.operate (op_cmp B.as hr4 ((hv2.step hs3).step hs4) hv4))
  | _ => exact .inl rfl
theorem tj_cmp2 {op1 op2 : Cop} {o1 o2 : CmpOp} {a b d : PE} {l r1 r2 : Expr} {p : Pos} (ho1 : copIs op1 o1 = true) (ho2 : copIs op2 o2 = true) (hs : isSet r2 = false) (ha : EJ am n q F c a l) (hb : EJ am n q F c b r1) (hd : EJ am n q F c d r2) :
    TJ am n q F c (.cmp2 op1 op2 a b d) (.Compare l [o1, o2] [r1, r2] p) := fun {cx ρ A res π Hc s} B st => by
  rw [cop_of ho1, cop_of ho2]
  simp only [qE_1, qE_2, qE_3, qE_4, qE_5, qE_6, qE_7, qE_8, qE_9, qE_10, qE_11, qE_12, qE_13, qE_14, qE_15, qE_16, qE_17, qE_18, qE_19, qE_20, qE_21, qE_22, qE_23, qE_24, qE_25, qE_26, qE_27, qE_28, qE_29, qE_30, qE_31, qE_32, qE_33, qE_34, qE_35, qE_36, qE_37, qE_38, bind_tr]
  refine JAt.congr (arm_isTrue_Compare ..) rfl (JAt.bind (ha B st) fun x v H1 π1 s1 _ hs1 hr1 hv1 => ?_)
  have st1 := st.step hs1 hr1
  show JAt _ _ _ (testChain p x [copM op1, copM op2] [eval r1 cx.env, markedBehindIn (copM op2) r2 (eval r2 cx.env)]) _ _ _ _
  rw [marks_of hs]
  refine JAt.bind (JAt.holding (hb B st1)) fun y w H2 π2 s2 _ hs2 hr2 hv2 => JAt.standAt ?_
  have st2 := st1.step hs2 hr2
  have hv1' := hv1.step hs2
  have e : ∀ (k : H → R V), tr (match pyCmp op1 H2 v w with | some true => k H2 | some false => .ok (.bool false) H2 | none => .bad) = (R.opt ((pyCmp op1 H2 v w).map V.bool) H2).bind fun x h => match truthy x with | some true => tr (k h) | some false => .ok false h | none => .bad := by
    intro k
    cases pyCmp op1 H2 v w with
    | none => rfl
    | some b => cases b <;> rfl
  refine JAt.congr rfl (e fun h => (evE q F ρ d h).bind fun z h => R.opt ((pyCmp op2 h w z).map V.bool) h) ?_
  refine JAt.bind (JAt.holding (op_cmp B.as hr2 hv1' hv2)) fun z u H3 π3 s3 _ hs3 hr3 hv3 => JAt.release ?_
  have st3 := st2.step hs3 hr3
  cases u with
  | bool t =>
    simp only [VR] at hv3; subst hv3
    refine JAt.rule (fun Q E h => wpAny_bind (wpAny_holding (wpAny_truthy_bool h))) ?_
    cases t with
    | false => exact JAt.pure hr3 rfl
    | true =>
      simp only [Mine.truthy, bind_tr]
      refine JAt.bind (JAt.holding (hd B st3)) fun y' w' H4 π4 s4 _ hs4 hr4 hv4 => ?_
      refine JAt.standAt ?_
      unfold tr
      exact JAt.bind (JAt.operate (op_cmp B.as hr4 ((hv2.step hs3).step hs4) hv4)) fun x v H5 π5 s5 _ hs5 hr5 hv5 => JAt.holding (wp_truthy hr5 hv5)
  | _ => exact .inl rfl
end

end Mine

namespace Mine
open PySem PySem.W PyProof.Rows

/-- predicate transformers in place of programs -/
abbrev PT (γ : Type) := (γ → Shared → Prop) → (Value → Shared → Prop) → Shared → Prop
noncomputable def PT.Mono {γ : Type} (T : PT γ) : Prop := ∀ Q Q' E E' s, (∀ a s, Q a s → Q' a s) → (∀ e s, E e s → E' e s) → T Q E s → T Q' E' s
noncomputable def JT (am : Amb) (stack : List Env) {α β : Type} (T : PT α) (r : R β) (Rel : List Addr → Heap → β → α → Prop) (π : List Addr) (s : Shared) : Prop :=
  r = .bad ∨ T (OkP am stack Rel π s r) (ErP am stack π s r) s

section
variable {am : Amb} {stack : List Env} {A : Around} {α β γ δ : Type} {Rel : List Addr → Heap → β → α → Prop} {Rel' : List Addr → Heap → δ → γ → Prop} {π : List Addr} {s : Shared}
theorem PT.wp (M : Model) (m : Sem α) : PT.Mono (fun Q E s => wpAny M A m Q E s) := fun _ _ _ _ _ h1 h2 h => wpAny_mono h h1 h2
theorem PT.seq (M : Model) (m : Sem α) {T : α → PT γ} (hT : ∀ a, PT.Mono (T a)) : PT.Mono (fun Q E s => wpAny M A m (fun a s₁ => T a Q E s₁) E s) :=
  fun Q Q' E E' _ h1 h2 h => wpAny_mono h (fun a s₁ x => hT a Q Q' E E' s₁ h1 h2 x) h2
theorem JT.bind {m : Sem α} {T : α → PT γ} (hT : ∀ a, PT.Mono (T a)) {r : R β} {g : β → H → R δ} (h1 : JAt am stack A m r Rel π s)
    (h2 : ∀ a b H' π' s', r = .ok b H' → Step (Fs stack) π s π' s' → HR am stack π' H' s'.heap → Rel π' s'.heap b a → JT am stack (T a) (g b H') Rel' π' s') :
    JT am stack (fun Q E s => wpAny am.M A m (fun a s₁ => T a Q E s₁) E s) (r.bind g) Rel' π s := by
  rcases h1 with rfl | h1
  · exact .inl rfl
  · cases r with
    | bad => exact .inl rfl
    | err c H' =>
      refine .inr (wpAny_mono h1 (fun a s' h => ?_) fun e s' h => ?_)
      · obtain ⟨_, _, _, h, _⟩ := h; cases h
      · refine hold fun _ k_ => ?_
        obtain ⟨c', H'', π', e', C, fl, h, r2, r3, r4, r5, r6⟩ := h
        refine k_ ?_
        cases h
        exact ⟨c, H', π', e', C, fl, rfl, r2, r3, r4, r5, r6⟩
    | ok b H' =>
      by_cases hb : g b H' = .bad
      · exact .inl hb
      · refine .inr (wpAny_mono h1 (fun a s' h => ?_) fun e s' h => ?_)
        · refine hold fun _ k_ => ?_
          obtain ⟨b', H'', π', h, h3, h4, h5⟩ := h
          refine k_ ?_
          cases h
          rcases h2 a b H' π' s' rfl h3 h4 h5 with h6 | h6
          · exact absurd h6 hb
          · exact hT a _ _ _ _ _ (fun _ _ y => OkP.step h3 y) (fun _ _ y => ErP.step h3 y) h6
        · obtain ⟨_, _, _, _, _, _, h, _⟩ := h; cases h
theorem JT.rule {T T' : PT α} {r : R β} (h : JT am stack T r Rel π s) (k : ∀ Q E, T Q E s → T' Q E s) : JT am stack T' r Rel π s := by
  rcases h with h | h
  · exact .inl h
  · exact .inr (k _ _ h)
theorem JT.at {T : PT α} {m : Sem α} {r : R β} (h : JT am stack T r Rel π s) (k : ∀ Q E, T Q E s → wpAny am.M A m Q E s) : JAt am stack A m r Rel π s := by
  rcases h with h | h
  · exact .inl h
  · exact .inr (k _ _ h)
theorem JAt.pt {m : Sem α} {r : R β} (h : JAt am stack A m r Rel π s) : JT am stack (fun Q E s => wpAny am.M A m Q E s) r Rel π s := h
end

theorem ck_star (c : Ck) (e : PE) (x : Expr) (p : Pos) : ckE c e (.Starred x p) = false := by
  cases e with
  | own a =>
    cases a with
    | bf f b => cases f <;> rfl
    | bin op a b => cases op <;> rfl
    | _ => rfl
  | none => rfl
  | bool b => rfl
  | int b => rfl
  | str b => rfl
  | _ => rfl
theorem ck_isStar {c : Ck} {e : PE} {x : Expr} (h : ckE c e x = true) : isStar x = false := by
  cases x <;> first | rfl | (rw [ck_star] at h; cases h)

noncomputable def plainArgs (xs : List Expr) (env : Env) : List (Bool × Sem Value) := xs.map fun e => (false, eval e env)

theorem starEach_plain (env : Env) : ∀ {xs : List Expr}, (∀ x ∈ xs, isStar x = false) → ∀ pos : Pos, backTo pos (starEach xs env) = plainArgs xs env
  | [], _, _ => rfl
  | x :: xs, h, pos => by
    have ih := starEach_plain env (fun y hy => h y (List.mem_cons_of_mem _ hy)) pos
    have hx := h x List.mem_cons_self
    have e : starEach (x :: xs) env = (false, eval x env) :: starEach xs env := by
      cases x <;> first | rfl | exact noB hx.symm
    rw [e]
    show (false, eval x env) :: backTo pos (starEach xs env) = _
    rw [ih]; rfl

section
variable {am : Amb} {n : Nat} {q : Bool} {F : Fn} {c : Ck}

theorem AllJ.stars : ∀ {es : List PE} {xs : List Expr}, AllJ am n q F c es xs → ∀ x ∈ xs, isStar x = false
  | [], [], _ => by simp
  | e :: es, x :: xs, h => by
    intro y hy
    rcases List.mem_cons.mp hy with rfl | hy
    · exact h.1.1
    · exact AllJ.stars h.2 y hy
  | [], _ :: _, h => h.elim
  | _ :: _, [], h => h.elim

theorem AllJ.args {cx : Cx} {ρ : List V} {A : Around} {res : List Addr} : ∀ {es : List PE} {xs : List Expr} {π : List Addr} {Hc : H} {s : Shared}, AllJ am n q F c es xs → Base am n q F c cx ρ A → St (am.at res) q cx ρ π Hc A s →
    JAt (am.at res) cx.stack A (spliced (plainArgs xs cx.env)) (evEs q F ρ es Hc) (VRs (am.at res)) π s
  | [], [], π, Hc, s, _, _, st => by
    simp only [qEs_1, qEs_2]
    exact .inr (wpAny_pure (OkP.here st.hr (by simp [VRs])))
  | e :: es, x :: xs, π, Hc, s, h, B, st => by
    simp only [qEs_1, qEs_2]
    refine JAt.congr (m' := eval x cx.env >>= fun v => (pure [v] : Sem (List Value)) >>= fun here => holding here (spliced (plainArgs xs cx.env)) >>= fun tl => pure (here ++ tl)) (by
      show spliced ((false, eval x cx.env) :: plainArgs xs cx.env) = _
      rw [spliced]; rfl) rfl ?_
    refine JAt.bind (h.1.2.1 B st) fun x v H1 π1 s1 _ hs1 hr1 hv1 => ?_
    refine JAt.rule (fun Q E h => wpAny_bind (wpAny_pure h)) ?_
    refine JAt.bind (JAt.holding (AllJ.args h.2 B (st.step hs1 hr1))) fun ys ws H2 π2 s2 _ hs2 hr2 hv2 => ?_
    exact JAt.pure hr2 (by simp only [VRs]; exact ⟨_, _, rfl, hv1.step hs2, hv2⟩)
  | [], _ :: _, _, _, _, h, _, _ => h.elim
  | _ :: _, [], _, _, _, h, _, _ => h.elim
theorem ej_and : ∀ {es : List PE} {xs : List Expr} {p : Pos}, AllJ am n q F c es xs → EJ am n q F c (.and es) (.BoolOp .And xs p)
  | [], [], _, _, cx, ρ, A, res, π, Hc, s, _, _ => .inl (by simp [qE_1, qE_2, qE_3, qE_4, qE_5, qE_6, qE_7, qE_8, qE_9, qE_10, qE_11, qE_12, qE_13, qE_14, qE_15, qE_16, qE_17, qE_18, qE_19, qE_20, qE_21, qE_22, qE_23, qE_24, qE_25, qE_26, qE_27, qE_28, qE_29, qE_30, qE_31, qE_32, qE_33, qE_34, qE_35, qE_36, qE_37, qE_38, qA_1, qA_2, qA_3])
  | [e], [x], _, h, cx, ρ, A, res, π, Hc, s, B, st => by
    simp only [qE_1, qE_2, qE_3, qE_4, qE_5, qE_6, qE_7, qE_8, qE_9, qE_10, qE_11, qE_12, qE_13, qE_14, qE_15, qE_16, qE_17, qE_18, qE_19, qE_20, qE_21, qE_22, qE_23, qE_24, qE_25, qE_26, qE_27, qE_28, qE_29, qE_30, qE_31, qE_32, qE_33, qE_34, qE_35, qE_36, qE_37, qE_38, qA_1, qA_2, qA_3]
    exact h.1.2.1 B st
  | e :: e2 :: es, x :: x2 :: xs, p, h, cx, ρ, A, res, π, Hc, s, B, st => by
    simp only [qE_1, qE_2, qE_3, qE_4, qE_5, qE_6, qE_7, qE_8, qE_9, qE_10, qE_11, qE_12, qE_13, qE_14, qE_15, qE_16, qE_17, qE_18, qE_19, qE_20, qE_21, qE_22, qE_23, qE_24, qE_25, qE_26, qE_27, qE_28, qE_29, qE_30, qE_31, qE_32, qE_33, qE_34, qE_35, qE_36, qE_37, qE_38, qA_1, qA_2, qA_3]
    refine JAt.congr (m' := eval x cx.env >>= fun v => standAt p >>= fun _ => holding [v] (PySem.truthy v) >>= fun t => (match BoolOp.And, t with | .And, false | .Or, true => pure v | _, _ => boolOp p .And (evalEach (x2 :: xs) cx.env))) rfl rfl ?_
    refine JAt.bind (h.1.2.1 B st) fun y v H1 π1 s1 _ hs1 hr1 hv1 => JAt.standAt ?_
    cases v with
    | bool b =>
      simp only [VR] at hv1; subst hv1
      refine JAt.rule (fun Q E h => wpAny_bind (wpAny_holding (wpAny_truthy_bool h))) ?_
      cases b with
      | false => exact JAt.pure hr1 rfl
      | true =>
        have := ej_and (p := p) h.2 B (st.step hs1 hr1)
        simp only [qE_1, qE_2, qE_3, qE_4, qE_5, qE_6, qE_7, qE_8, qE_9, qE_10, qE_11, qE_12, qE_13, qE_14, qE_15, qE_16, qE_17, qE_18, qE_19, qE_20, qE_21, qE_22, qE_23, qE_24, qE_25, qE_26, qE_27, qE_28, qE_29, qE_30, qE_31, qE_32, qE_33, qE_34, qE_35, qE_36, qE_37, qE_38] at this
        exact this
    | _ => exact .inl rfl
  | [], _ :: _, _, h, _, _, _, _, _, _, _, _, _ => h.elim
  | _ :: _, [], _, h, _, _, _, _, _, _, _, _, _ => h.elim
  | [_], _ :: _ :: _, _, h, _, _, _, _, _, _, _, _, _ => h.2.elim
  | _ :: _ :: _, [_], _, h, _, _, _, _, _, _, _, _, _ => h.2.elim

theorem ej_or : ∀ {es : List PE} {xs : List Expr} {p : Pos}, AllJ am n q F c es xs → EJ am n q F c (.or es) (.BoolOp .Or xs p)
  | [], [], _, _, cx, ρ, A, res, π, Hc, s, _, _ => .inl (by simp [qE_1, qE_2, qE_3, qE_4, qE_5, qE_6, qE_7, qE_8, qE_9, qE_10, qE_11, qE_12, qE_13, qE_14, qE_15, qE_16, qE_17, qE_18, qE_19, qE_20, qE_21, qE_22, qE_23, qE_24, qE_25, qE_26, qE_27, qE_28, qE_29, qE_30, qE_31, qE_32, qE_33, qE_34, qE_35, qE_36, qE_37, qE_38, qR_1, qR_2, qR_3])
  | [e], [x], _, h, cx, ρ, A, res, π, Hc, s, B, st => by
    simp only [qE_1, qE_2, qE_3, qE_4, qE_5, qE_6, qE_7, qE_8, qE_9, qE_10, qE_11, qE_12, qE_13, qE_14, qE_15, qE_16, qE_17, qE_18, qE_19, qE_20, qE_21, qE_22, qE_23, qE_24, qE_25, qE_26, qE_27, qE_28, qE_29, qE_30, qE_31, qE_32, qE_33, qE_34, qE_35, qE_36, qE_37, qE_38, qR_1, qR_2, qR_3]
    exact h.1.2.1 B st
  | e :: e2 :: es, x :: x2 :: xs, p, h, cx, ρ, A, res, π, Hc, s, B, st => by
    simp only [qE_1, qE_2, qE_3, qE_4, qE_5, qE_6, qE_7, qE_8, qE_9, qE_10, qE_11, qE_12, qE_13, qE_14, qE_15, qE_16, qE_17, qE_18, qE_19, qE_20, qE_21, qE_22, qE_23, qE_24, qE_25, qE_26, qE_27, qE_28, qE_29, qE_30, qE_31, qE_32, qE_33, qE_34, qE_35, qE_36, qE_37, qE_38, qR_1, qR_2, qR_3]
    refine JAt.congr (m' := eval x cx.env >>= fun v => standAt p >>= fun _ => holding [v] (PySem.truthy v) >>= fun t => (match BoolOp.Or, t with | .And, false | .Or, true => pure v | _, _ => boolOp p .Or (evalEach (x2 :: xs) cx.env))) rfl rfl ?_
    refine JAt.bind (h.1.2.1 B st) fun y v H1 π1 s1 _ hs1 hr1 hv1 => JAt.standAt ?_
    cases v with
    | bool b =>
      simp only [VR] at hv1; subst hv1
      refine JAt.rule (fun Q E h => wpAny_bind (wpAny_holding (wpAny_truthy_bool h))) ?_
      cases b with
      | true => exact JAt.pure hr1 rfl
      | false =>
        have := ej_or (p := p) h.2 B (st.step hs1 hr1)
        simp only [qE_1, qE_2, qE_3, qE_4, qE_5, qE_6, qE_7, qE_8, qE_9, qE_10, qE_11, qE_12, qE_13, qE_14, qE_15, qE_16, qE_17, qE_18, qE_19, qE_20, qE_21, qE_22, qE_23, qE_24, qE_25, qE_26, qE_27, qE_28, qE_29, qE_30, qE_31, qE_32, qE_33, qE_34, qE_35, qE_36, qE_37, qE_38] at this
        exact this
    | _ => exact .inl rfl
  | [], _ :: _, _, h, _, _, _, _, _, _, _, _, _ => h.elim
  | _ :: _, [], _, h, _, _, _, _, _, _, _, _, _ => h.elim
  | [_], _ :: _ :: _, _, h, _, _, _, _, _, _, _, _, _ => h.2.elim
  | _ :: _ :: _, [_], _, h, _, _, _, _, _, _, _, _, _ => h.2.elim

theorem tr_and2 (ρ : List V) (e e2 : PE) (es : List PE) (Hc : H) : tr (evAnd q F ρ (e :: e2 :: es) Hc) = (tr (evE q F ρ e Hc)).bind fun b h => if b then tr (evAnd q F ρ (e2 :: es) h) else .ok false h := by
  simp only [qA_1, qA_2, qA_3, bind_tr]; rw [tr_bind]; congr 1; funext x h
  cases hx : truthy x with
  | none => rfl
  | some b =>
    cases b with
    | true => rfl
    | false => simp [tr, hx]
theorem tr_or2 (ρ : List V) (e e2 : PE) (es : List PE) (Hc : H) : tr (evOr q F ρ (e :: e2 :: es) Hc) = (tr (evE q F ρ e Hc)).bind fun b h => if b then .ok true h else tr (evOr q F ρ (e2 :: es) h) := by
  simp only [qR_1, qR_2, qR_3, bind_tr]; rw [tr_bind]; congr 1; funext x h
  cases hx : truthy x with
  | none => rfl
  | some b =>
    cases b with
    | false => rfl
    | true => simp [tr, hx]

theorem tj_and : ∀ {es : List PE} {xs : List Expr} {p : Pos}, AllJ am n q F c es xs → TJ am n q F c (.and es) (.BoolOp .And xs p)
  | [], [], _, _, cx, ρ, A, res, π, Hc, s, _, _ => .inl (by simp [qE_1, qE_2, qE_3, qE_4, qE_5, qE_6, qE_7, qE_8, qE_9, qE_10, qE_11, qE_12, qE_13, qE_14, qE_15, qE_16, qE_17, qE_18, qE_19, qE_20, qE_21, qE_22, qE_23, qE_24, qE_25, qE_26, qE_27, qE_28, qE_29, qE_30, qE_31, qE_32, qE_33, qE_34, qE_35, qE_36, qE_37, qE_38, qA_1, qA_2, qA_3, tr])
  | [e], [x], p, h, cx, ρ, A, res, π, Hc, s, B, st => by
    simp only [qE_1, qE_2, qE_3, qE_4, qE_5, qE_6, qE_7, qE_8, qE_9, qE_10, qE_11, qE_12, qE_13, qE_14, qE_15, qE_16, qE_17, qE_18, qE_19, qE_20, qE_21, qE_22, qE_23, qE_24, qE_25, qE_26, qE_27, qE_28, qE_29, qE_30, qE_31, qE_32, qE_33, qE_34, qE_35, qE_36, qE_37, qE_38, qA_1, qA_2, qA_3]
    have := h.1.2.2 B st
    refine JAt.rule (m' := isTrue x cx.env (eval x cx.env)) (fun Q E h => wpAny_isTrue_BoolOp (wpAny_allTrue_And_cons (wpAny_mono h (fun b s1 h1 => ?_) fun _ _ x => x))) this
    cases b with
    | true => exact wpAny_allTrue_And_nil h1
    | false => exact h1
  | e :: e2 :: es, x :: x2 :: xs, p, h, cx, ρ, A, res, π, Hc, s, B, st => by
    simp only [qE_1, qE_2, qE_3, qE_4, qE_5, qE_6, qE_7, qE_8, qE_9, qE_10, qE_11, qE_12, qE_13, qE_14, qE_15, qE_16, qE_17, qE_18, qE_19, qE_20, qE_21, qE_22, qE_23, qE_24, qE_25, qE_26, qE_27, qE_28, qE_29, qE_30, qE_31, qE_32, qE_33, qE_34, qE_35, qE_36, qE_37, qE_38]
    rw [tr_and2]
    refine JAt.congr (m' := isTrue x cx.env (eval x cx.env) >>= fun b => (match BoolOp.And, b with | .And, false => pure false | .Or, true => pure true | _, _ => allTrue .And (x2 :: xs) cx.env)) rfl rfl ?_
    refine JAt.bind (h.1.2.2 B st) fun y v H1 π1 s1 _ hs1 hr1 hv1 => ?_
    unfold BR at hv1; subst hv1
    cases v with
    | false => exact JAt.pure hr1 rfl
    | true =>
      have := tj_and (p := p) h.2 B (st.step hs1 hr1)
      simp only [qE_1, qE_2, qE_3, qE_4, qE_5, qE_6, qE_7, qE_8, qE_9, qE_10, qE_11, qE_12, qE_13, qE_14, qE_15, qE_16, qE_17, qE_18, qE_19, qE_20, qE_21, qE_22, qE_23, qE_24, qE_25, qE_26, qE_27, qE_28, qE_29, qE_30, qE_31, qE_32, qE_33, qE_34, qE_35, qE_36, qE_37, qE_38] at this
      exact this
  | [], _ :: _, _, h, _, _, _, _, _, _, _, _, _ => h.elim
  | _ :: _, [], _, h, _, _, _, _, _, _, _, _, _ => h.elim
  | [_], _ :: _ :: _, _, h, _, _, _, _, _, _, _, _, _ => h.2.elim
  | _ :: _ :: _, [_], _, h, _, _, _, _, _, _, _, _, _ => h.2.elim
theorem tj_or : ∀ {es : List PE} {xs : List Expr} {p : Pos}, AllJ am n q F c es xs → TJ am n q F c (.or es) (.BoolOp .Or xs p)
  | [], [], _, _, cx, ρ, A, res, π, Hc, s, _, _ => .inl (by simp [qE_1, qE_2, qE_3, qE_4, qE_5, qE_6, qE_7, qE_8, qE_9, qE_10, qE_11, qE_12, qE_13, qE_14, qE_15, qE_16, qE_17, qE_18, qE_19, qE_20, qE_21, qE_22, qE_23, qE_24, qE_25, qE_26, qE_27, qE_28, qE_29, qE_30, qE_31, qE_32, qE_33, qE_34, qE_35, qE_36, qE_37, qE_38, qR_1, qR_2, qR_3, tr])
  | [e], [x], p, h, cx, ρ, A, res, π, Hc, s, B, st => by
    simp only [qE_1, qE_2, qE_3, qE_4, qE_5, qE_6, qE_7, qE_8, qE_9, qE_10, qE_11, qE_12, qE_13, qE_14, qE_15, qE_16, qE_17, qE_18, qE_19, qE_20, qE_21, qE_22, qE_23, qE_24, qE_25, qE_26, qE_27, qE_28, qE_29, qE_30, qE_31, qE_32, qE_33, qE_34, qE_35, qE_36, qE_37, qE_38, qR_1, qR_2, qR_3]
    have := h.1.2.2 B st
    refine JAt.rule (m' := isTrue x cx.env (eval x cx.env)) (fun Q E h => wpAny_isTrue_BoolOp (wpAny_allTrue_Or_cons (wpAny_mono h (fun b s1 h1 => ?_) fun _ _ x => x))) this
    cases b with
    | true => exact h1
    | false => exact wpAny_allTrue_Or_nil h1
  | e :: e2 :: es, x :: x2 :: xs, p, h, cx, ρ, A, res, π, Hc, s, B, st => by
    simp only [qE_1, qE_2, qE_3, qE_4, qE_5, qE_6, qE_7, qE_8, qE_9, qE_10, qE_11, qE_12, qE_13, qE_14, qE_15, qE_16, qE_17, qE_18, qE_19, qE_20, qE_21, qE_22, qE_23, qE_24, qE_25, qE_26, qE_27, qE_28, qE_29, qE_30, qE_31, qE_32, qE_33, qE_34, qE_35, qE_36, qE_37, qE_38]
    rw [tr_or2]
    refine JAt.congr (m' := isTrue x cx.env (eval x cx.env) >>= fun b => (match BoolOp.Or, b with | .And, false => pure false | .Or, true => pure true | _, _ => allTrue .Or (x2 :: xs) cx.env)) rfl rfl ?_
    refine JAt.bind (h.1.2.2 B st) fun y v H1 π1 s1 _ hs1 hr1 hv1 => ?_
    unfold BR at hv1; subst hv1
    cases v with
    | true => exact JAt.pure hr1 rfl
    | false =>
      have := tj_or (p := p) h.2 B (st.step hs1 hr1)
      simp only [qE_1, qE_2, qE_3, qE_4, qE_5, qE_6, qE_7, qE_8, qE_9, qE_10, qE_11, qE_12, qE_13, qE_14, qE_15, qE_16, qE_17, qE_18, qE_19, qE_20, qE_21, qE_22, qE_23, qE_24, qE_25, qE_26, qE_27, qE_28, qE_29, qE_30, qE_31, qE_32, qE_33, qE_34, qE_35, qE_36, qE_37, qE_38] at this
      exact this
  | [], _ :: _, _, h, _, _, _, _, _, _, _, _, _ => h.elim
  | _ :: _, [], _, h, _, _, _, _, _, _, _, _, _ => h.elim
  | [_], _ :: _ :: _, _, h, _, _, _, _, _, _, _, _, _ => h.2.elim
  | _ :: _ :: _, [_], _, h, _, _, _, _, _, _, _, _, _ => h.2.elim

/-- a subscript -/
theorem ej_idx {a i : PE} {v t : Expr} {p : Pos} (ha : EJ am n q F c a v) (hi : EJ am n q F c i t) : EJ am n q F c (.idx a i) (.Subscript v t p) := fun {cx ρ A res π Hc s} B st => by
  simp only [qE_1, qE_2, qE_3, qE_4, qE_5, qE_6, qE_7, qE_8, qE_9, qE_10, qE_11, qE_12, qE_13, qE_14, qE_15, qE_16, qE_17, qE_18, qE_19, qE_20, qE_21, qE_22, qE_23, qE_24, qE_25, qE_26, qE_27, qE_28, qE_29, qE_30, qE_31, qE_32, qE_33, qE_34, qE_35, qE_36, qE_37, qE_38]
  refine JAt.congr (m' := eval v cx.env >>= fun o => holding [o] (eval t cx.env) >>= fun i => standAt p >>= fun _ => subscriptTail v t o i) rfl rfl ?_
  refine JAt.bind (ha B st) fun x v' H1 π1 s1 _ hs1 hr1 hv1 => ?_
  refine JAt.bind (JAt.holding (hi B (st.step hs1 hr1))) fun y w H2 π2 s2 _ hs2 hr2 hv2 => ?_
  exact JAt.standAt (op_idx B.as hr2 (hv1.step hs2) hv2)

noncomputable def OptJ (am : Amb) (n : Nat) (q : Bool) (F : Fn) (c : Ck) : Option PE → Option Expr → Prop
  | none, none => True
  | some e, some x => EJ am n q F c e x
  | _, _ => False

noncomputable def OVR (am : Amb) (π : List Addr) (h : Heap) : Option V → Value → Prop
  | none, x => x = .none
  | some v, x => VR am π h v x
theorem OVR.step {am : Amb} {Fs π π' : List Addr} {s s' : Shared} (x : Step Fs π s π' s') {v : Option V} {y : Value} (e : OVR am π s.heap v y) : OVR am π' s'.heap v y := by
  cases v with
  | none => exact e
  | some v => exact VR.step x e

theorem OptJ.ev {e : Option PE} {x : Option Expr} (h : OptJ am n q F c e x) {cx : Cx} {ρ : List V} {A : Around} {res π : List Addr} {Hc : H} {s : Shared} (B : Base am n q F c cx ρ A) (st : St (am.at res) q cx ρ π Hc A s) :
    JAt (am.at res) cx.stack A (valueOrNone (evalOpt x cx.env)) (evO q F ρ e Hc) (OVR (am.at res)) π s := by
  cases e with
  | none => cases x with
    | none => simp only [qO_1, qO_2]; exact .inr (wpAny_pure (OkP.here st.hr rfl))
    | some x => exact h.elim
  | some e => cases x with
    | none => exact h.elim
    | some x =>
      simp only [qO_1, qO_2]
      have h1 : JAt (am.at res) cx.stack A (eval x cx.env) (evE q F ρ e Hc) (VR (am.at res)) π s := h B st
      rcases h1 with h1 | h1
      · exact .inl (by rw [h1]; rfl)
      · refine .inr (wpAny_mono h1 (fun a s' h2 => ?_) fun a s' h2 => ?_)
        · refine hold fun _ k_ => ?_
          obtain ⟨b, H', π', h3, h4, h5, h6⟩ := h2
          refine k_ ?_
          exact ⟨some b, H', π', by rw [h3]; rfl, h4, h5, h6⟩
        · refine hold fun _ k_ => ?_
          obtain ⟨c', H'', π', e', C, fl, h, r2, r3, r4, r5, r6⟩ := h2
          refine k_ ?_
          exact ⟨c', H'', π', e', C, fl, by rw [h]; rfl, r2, r3, r4, r5, r6⟩

end
end Mine

namespace Mine
open PySem PySem.W PyProof.Rows

section
variable {am : Amb} {n : Nat} {q : Bool} {F : Fn} {c : Ck}

theorem HR.unhold {am : Amb} {stack : List Env} {π : List Addr} {Hc : H} {h : Heap} {l : Addr} (x : HR (am.hold l) stack π Hc h) : HR am stack π Hc h :=
  ⟨x.base, x.frames, x.len, x.nodup, fun a ha => x.res a (List.mem_cons_of_mem _ ha), x.off, fun i c a h1 h2 => by
    obtain ⟨o, xs, e0, e1, e2, e3⟩ := x.cell i c a h1 h2
    exact ⟨o, xs, e0, e1, e2, e3.reserve.2⟩⟩

/-- a good end that made a new list: nothing bears it yet -/
noncomputable def FrP (am : Amb) (stack : List Env) (π : List Addr) (s : Shared) (r : R V) (x : Value) (s' : Shared) : Prop :=
  ∃ vs H1 π1 l xs, r = .ok (.lst vs) H1 ∧ x = .ref l ∧ vs.length ≤ 1000000 ∧ s.heap.get? l = none ∧ (l ∉ π1 ∧ l ∉ Fs stack ∧ l ∉ am.res ∧ am.B.get? l = none) ∧ Step (Fs stack) π s π1 s' ∧ HR (am.hold l) stack π1 H1 s'.heap ∧ PL s'.heap l xs ∧ VRs (am.hold l) π1 s'.heap vs xs

/-- all that stood knows nothing of a thing made now -/
theorem HR.held {am : Amb} {stack : List Env} {π : List Addr} {Hc : H} {h h' : Heap} {l : Addr} (hr : HR am stack π Hc h) (hl : h.get? l = none) (k : ∀ b o, h.get? b = some o → h'.get? b = some o) (ho : ∃ o, h'.get? l = some o ∧ ∀ us, o.data ≠ .fields us) :
    HR (am.hold l) stack π Hc h' := by
  have hr' := hr.keeps k
  refine ⟨hr'.base, hr'.frames, hr'.len, hr'.nodup, fun a ha => ?_, hr'.off, fun i c a h1 h2 => ?_⟩
  · rcases List.mem_cons.mp ha with rfl | ha
    · exact ho
    · exact hr'.res a ha
  · obtain ⟨o, xs, e0, e1, e2, e3⟩ := hr.cell i c a h1 h2
    exact ⟨o, xs, k _ _ e0, e1, e2, (e3.held hl).keeps k⟩

theorem FrP.new {am : Amb} {stack : List Env} {π : List Addr} {s : Shared} {r : R V} {x : Value} {s1 s' : Shared} {vs : List V} {H1 : H} {π1 : List Addr} (h1 : r = .ok (.lst vs) H1) (h2 : Step (Fs stack) π s π1 s1) (h3 : HR am stack π1 H1 s1.heap) (h4 : vs.length ≤ 1000000) (h5 : NewL am π1 s1 vs x s') :
    FrP am stack π s r x s' := by
  refine hold fun _ k_ => ?_
  obtain ⟨l, xs, h', tk, rfl, rfl, k, e1, e2, e3⟩ := h5
  refine k_ ?_
  refine ⟨vs, H1, π1, l, xs, h1, rfl, h4, ?_, ⟨fresh_pi h3 e1, fresh_fs h3 e1, fresh_res h3 e1, none_of_stays h3.base e1⟩, h2.trans (Step.keeps k), ?_, e2, e3⟩
  · cases hq : s.heap.get? l with
    | none => rfl
    | some o => obtain ⟨o', h6⟩ := h2.ext.alive l o hq; rw [e1] at h6; cases h6
  · refine h3.held e1 k ?_
    refine hold fun _ k_ => ?_
    obtain ⟨o, n, ho, _, _, hd⟩ := e2
    refine k_ ?_
    exact ⟨o, ho, fun us q => by rw [hd] at q; cases q⟩

theorem FrP.lst {am : Amb} {stack : List Env} {π : List Addr} {s : Shared} {r : R V} {x : Value} {s' : Shared} (h : FrP am stack π s r x s') : OkP am stack (VR am) π s r x s' := by
  refine hold fun _ k_ => ?_
  obtain ⟨vs, H1, π1, l, xs, rfl, rfl, h3, h4, h5, h6, h7, h8, h9⟩ := h
  refine k_ ?_
  refine ⟨_, H1, π1, rfl, h6, h7.unhold, ?_⟩
  simp only [VR]
  exact ⟨l, xs, rfl, ⟨h5.1, h5.2.2.1⟩, h8.is, h3, h9.reserve.2⟩

theorem FrP.cell {am : Amb} {stack : List Env} {π : List Addr} {s : Shared} {r : R V} {x : Value} {s' : Shared} (h : FrP am stack π s r x s') :
    OkP am stack (VR am) π s (r.bind fun x h => match x with | .lst vs => .ok (.ref h.length) (h ++ [.list vs]) | _ => .bad) x s' := by
  refine hold fun _ k_ => ?_
  obtain ⟨vs, H1, π1, l, xs, rfl, rfl, h3, h4, h5, h6, h7, h8, h9⟩ := h
  refine k_ ?_
  refine ⟨_, _, π1 ++ [l], rfl, ⟨h6.same, h6.ext, ?_⟩, ⟨h7.base, h7.frames, by simp [h7.len], ?_, h7.unhold.res, ?_, ?_⟩, ?_⟩
  · obtain ⟨δ, rfl, hδ⟩ := h6.grow
    refine ⟨δ ++ [l], by simp, fun a ha => ?_⟩
    rcases List.mem_append.mp ha with ha | ha
    · exact hδ a ha
    · rw [List.mem_singleton.mp ha]; exact h4
  · rw [List.nodup_append]
    exact ⟨h7.nodup, by simp, fun a ha b hb => by rw [List.mem_singleton.mp hb]; exact fun q => h5.1 (q ▸ ha)⟩
  · intro a ha
    rcases List.mem_append.mp ha with ha | ha
    · exact h7.off a ha
    · rw [List.mem_singleton.mp ha]; exact ⟨h5.2.2.2, h5.2.1⟩
  · intro i c a hi ha
    by_cases hlt : i < H1.length
    · rw [List.getElem?_append_left hlt] at hi
      rw [List.getElem?_append_left (by rw [h7.len]; exact hlt)] at ha
      obtain ⟨o, ys, q0, q1, q2, q3⟩ := h7.cell i c a hi ha
      exact ⟨o, ys, q0, q1, q2, q3.reserve.1⟩
    · have hi' : i = H1.length := by
        have := (List.getElem?_eq_some_iff.mp hi).1
        simp only [List.length_append, List.length_singleton] at this
        omega
      subst hi'
      simp only [List.getElem?_concat_length, Option.some.injEq] at hi
      rw [← h7.len] at ha
      simp only [List.getElem?_concat_length, Option.some.injEq] at ha
      subst hi ha
      exact .ofList h8 h3 h9.reserve.1
  · simp only [VR]
    exact ⟨l, rfl, by rw [← h7.len]; simp⟩

noncomputable def JF (am : Amb) (stack : List Env) (T : PT Value) (r : R V) (π : List Addr) (s : Shared) : Prop := r = .bad ∨ T (FrP am stack π s r) (ErP am stack π s r) s

theorem FrP.step {am : Amb} {stack : List Env} {π π₁ : List Addr} {s s₁ : Shared} {r : R V} {a : Value} {s' : Shared}
    (x : Step (Fs stack) π s π₁ s₁) (y : FrP am stack π₁ s₁ r a s') : FrP am stack π s r a s' := by
  refine hold fun _ k_ => ?_
  obtain ⟨vs, H1, π1, l, xs, h1, h2, h3, h4, h5, h6, h7⟩ := y
  refine k_ ?_
  refine ⟨vs, H1, π1, l, xs, h1, h2, h3, ?_, h5, x.trans h6, h7⟩
  cases hq : s.heap.get? l with
  | none => rfl
  | some o => obtain ⟨o', h6⟩ := x.ext.alive l o hq; rw [h4] at h6; cases h6

section
variable {am : Amb} {stack : List Env} {A : Around} {α β γ δ : Type} {Rel : List Addr → Heap → β → α → Prop} {π : List Addr} {s : Shared}
theorem JF.bind {m : Sem α} {T : α → PT Value} (hT : ∀ a, PT.Mono (T a)) {r : R β} {g : β → H → R V} (h1 : JAt am stack A m r Rel π s)
    (h2 : ∀ a b H' π' s', r = .ok b H' → Step (Fs stack) π s π' s' → HR am stack π' H' s'.heap → Rel π' s'.heap b a → JF am stack (T a) (g b H') π' s') :
    JF am stack (fun Q E s => wpAny am.M A m (fun a s₁ => T a Q E s₁) E s) (r.bind g) π s := by
  rcases h1 with rfl | h1
  · exact .inl rfl
  · cases r with
    | bad => exact .inl rfl
    | err c H' =>
      refine .inr (wpAny_mono h1 (fun a s' h => ?_) fun e s' h => ?_)
      · obtain ⟨_, _, _, h, _⟩ := h; cases h
      · refine hold fun _ k_ => ?_
        obtain ⟨c', H'', π', e', C, fl, h, r2, r3, r4, r5, r6⟩ := h
        refine k_ ?_
        cases h
        exact ⟨c, H', π', e', C, fl, rfl, r2, r3, r4, r5, r6⟩
    | ok b H' =>
      by_cases hb : g b H' = .bad
      · exact .inl hb
      · refine .inr (wpAny_mono h1 (fun a s' h => ?_) fun e s' h => ?_)
        · refine hold fun _ k_ => ?_
          obtain ⟨b', H'', π', h, h3, h4, h5⟩ := h
          refine k_ ?_
          cases h
          rcases h2 a b H' π' s' rfl h3 h4 h5 with h6 | h6
          · exact absurd h6 hb
          · exact hT a _ _ _ _ _ (fun _ _ y => FrP.step h3 y) (fun _ _ y => ErP.step h3 y) h6
        · obtain ⟨_, _, _, _, _, _, h, _⟩ := h; cases h
theorem JF.rule {T T' : PT Value} {r : R V} (h : JF am stack T r π s) (k : ∀ Q E, T Q E s → T' Q E s) : JF am stack T' r π s := by
  rcases h with h | h
  · exact .inl h
  · exact .inr (k _ _ h)
/-- told by value -/
theorem JF.lst {T : PT Value} {m : Sem Value} {r : R V} (h : JF am stack T r π s) (k : ∀ Q E, T Q E s → wpAny am.M A m Q E s) : JAt am stack A m r (VR am) π s := by
  rcases h with h | h
  · exact .inl h
  · refine .inr (wpAny_mono (k _ _ h) (fun a s' h => ?_) fun _ _ h => h)
    exact h.lst
/-- as a cell -/
theorem JF.cell {T : PT Value} {m : Sem Value} {r : R V} (h : JF am stack T r π s) (k : ∀ Q E, T Q E s → wpAny am.M A m Q E s) :
    JAt am stack A m (r.bind fun x h => match x with | .lst vs => .ok (.ref h.length) (h ++ [.list vs]) | _ => .bad) (VR am) π s := by
  rcases h with rfl | h
  · exact .inl rfl
  · refine .inr (wpAny_mono (k _ _ h) (fun a s' h => ?_) fun _ _ h => ?_)
    · exact h.cell
    · refine hold fun _ k_ => ?_
      obtain ⟨c', H'', π', e', C, fl, rfl, r2, r3, r4, r5, r6⟩ := h
      refine k_ ?_
      exact ⟨c', H'', π', e', C, fl, rfl, r2, r3, r4, r5, r6⟩
end

/-- a form that makes a new list -/
noncomputable def FJ (am : Amb) (n : Nat) (q : Bool) (F : Fn) (c : Ck) (e : PE) (ex : Expr) : Prop := ∀ {cx : Cx} {ρ : List V} {A : Around} {res π : List Addr} {Hc : H} {s : Shared}, Base am n q F c cx ρ A → St (am.at res) q cx ρ π Hc A s →
  JF (am.at res) cx.stack (fun Q E s => wpAny am.M A (eval ex cx.env) Q E s) (evE q F ρ e Hc) π s
theorem FJ.ej {e : PE} {ex : Expr} (h : FJ am n q F c e ex) : EJ am n q F c e ex := fun {cx ρ A res π Hc s} B st => (h B st).lst fun _ _ x => x
theorem FJ.own {e : PE} {ex : Expr} (h : FJ am n q F c e ex) : EJ am n q F c (.own e) ex := fun {cx ρ A res π Hc s} B st => by
  simp only [qE_1, qE_2, qE_3, qE_4, qE_5, qE_6, qE_7, qE_8, qE_9, qE_10, qE_11, qE_12, qE_13, qE_14, qE_15, qE_16, qE_17, qE_18, qE_19, qE_20, qE_21, qE_22, qE_23, qE_24, qE_25, qE_26, qE_27, qE_28, qE_29, qE_30, qE_31, qE_32, qE_33, qE_34, qE_35, qE_36, qE_37, qE_38]
  exact (h B st).cell fun _ _ x => x

theorem fj_list {es : List PE} {xs : List Expr} {p : Pos} (h : AllJ am n q F c es xs) : FJ am n q F c (.list es) (.List xs p) := fun {cx ρ A res π Hc s} B st => by
  simp only [qE_1, qE_2, qE_3, qE_4, qE_5, qE_6, qE_7, qE_8, qE_9, qE_10, qE_11, qE_12, qE_13, qE_14, qE_15, qE_16, qE_17, qE_18, qE_19, qE_20, qE_21, qE_22, qE_23, qE_24, qE_25, qE_26, qE_27, qE_28, qE_29, qE_30, qE_31, qE_32, qE_33, qE_34, qE_35, qE_36, qE_37, qE_38]
  refine JF.rule (T := fun Q E s => wpAny am.M A (spliced (plainArgs xs cx.env)) (fun ys s₁ => wpAny am.M A (newList ys) Q E s₁) E s)
    (JF.bind (fun _ => PT.wp _ _) (h.args B st) fun ys vs H1 π1 s1 _ hs1 hr1 hv1 => ?_) fun Q E h' => ?_
  · unfold mkL
    split
    · rename_i hle
      exact .inr (wpAny_newList (FrP.new rfl (.refl ..) hr1 hle (NewL.push (n := 0) (tk := s1.toks) hv1 rfl rfl rfl)) (by rw [hv1.len]; have := mil_le_line; omega))
    · exact .inl rfl
  · rw [arm_eval_List, starEach_plain _ h.stars]
    exact wpAny_bind (wpAny_standAt (wpAny_bind h'))

theorem OVR.part {am : Amb} {π : List Addr} {h : Heap} {w : Option V} {lo : Option Int} {y : Value} (h1 : OVR am π h w y) (h2 : w.mapM asInt? = some lo) : IsPart y lo := by
  cases w with
  | none => cases h1; cases h2; exact .none
  | some v =>
    cases v with
    | int i => obtain ⟨t, rfl⟩ := h1; cases h2; exact .int i t
    | _ => cases h2

theorem fj_slice {a : PE} {lo hi : Option PE} {v : Expr} {l u : Option Expr} {p p' : Pos} (ha : EJ am n q F c a v) (hl : OptJ am n q F c lo l) (hu : OptJ am n q F c hi u) : FJ am n q F c (.slice a lo hi) (.Subscript v (.Slice l u none p') p) := fun {cx ρ A res π Hc s} B st => by
  simp only [qE_1, qE_2, qE_3, qE_4, qE_5, qE_6, qE_7, qE_8, qE_9, qE_10, qE_11, qE_12, qE_13, qE_14, qE_15, qE_16, qE_17, qE_18, qE_19, qE_20, qE_21, qE_22, qE_23, qE_24, qE_25, qE_26, qE_27, qE_28, qE_29, qE_30, qE_31, qE_32, qE_33, qE_34, qE_35, qE_36, qE_37, qE_38]
  refine JF.rule (T := fun Q E s => wpAny am.M A (eval v cx.env) (fun x s₀ => wpAny am.M A (valueOrNone (evalOpt l cx.env)) (fun a s₁ => wpAny am.M A (valueOrNone (evalOpt u cx.env)) (fun b s₂ => wpAny am.M A (newFields "slice" [a, b, .none]) (fun i s₃ => wpAny am.M A (subscriptTail v (.Slice l u none p') x i) Q E s₃) E s₂) E s₁) E s₀) E s)
    (JF.bind (fun x => PT.seq _ _ fun a => PT.seq _ _ fun b => PT.seq _ _ fun i => PT.wp _ _) (ha B st) fun x v' H1 π1 s1 _ hs1 hr1 hv1 => ?_) fun Q E h => ?_
  · have st1 := st.step hs1 hr1
    refine JF.bind (fun a => PT.seq _ _ fun b => PT.seq _ _ fun i => PT.wp _ _) (hl.ev B st1) fun y w H2 π2 s2 _ hs2 hr2 hv2 => ?_
    have st2 := st1.step hs2 hr2
    refine JF.bind (fun a => PT.seq _ _ fun i => PT.wp _ _) (hu.ev B st2) fun z w2 H3 π3 s3 _ hs3 hr3 hv3 => ?_
    unfold pySlice
    cases hlo : w.mapM asInt? with
    | none => exact .inl rfl
    | some lo => cases hhi : w2.mapM asInt? with
      | none => exact .inl rfl
      | some hi =>
        dsimp only
        cases hi' : litems H3 v' with
        | none => exact .inl rfl
        | some vs => exact .inr (wp_slice (am := am.at res) hr3 ((hv1.step hs2).step hs3) hi' ((hv2.step hs3).part hlo) (hv3.part hhi) fun y s1 s' h1 h2 h3 h4 => FrP.new rfl h1 h2 h3 h4)
  · have e : eval (.Subscript v (.Slice l u none p') p) cx.env = (eval v cx.env >>= fun o => holding [o] (valueOrNone (evalOpt l cx.env) >>= fun a => holding [a] (valueOrNone (evalOpt u cx.env)) >>= fun b => holding [a, b] (pure .none) >>= fun d => newFields "slice" [a, b, d]) >>= fun i => standAt p >>= fun _ => subscriptTail v (.Slice l u none p') o i) := rfl
    rw [e]
    exact wpAny_bind (wpAny_mono h (fun o s0 h0 => wpAny_bind (wpAny_holding (wpAny_bind (wpAny_mono h0 (fun a s1 h1 => wpAny_bind (wpAny_holding (wpAny_mono h1 (fun b s2 h2 => wpAny_bind (wpAny_holding (wpAny_pure (wpAny_mono h2 (fun i s3 h3 => wpAny_bind (wpAny_standAt h3)) fun _ _ x => x)))) fun _ _ x => x))) fun _ _ x => x)))) fun _ _ x => x)

theorem ej_tup {es : List PE} {xs : List Expr} {k : Nat} {p : Pos} (h : AllJ am n q F c es xs) : EJ am n q F c (.tup es) (.Tuple xs k p) := fun {cx ρ A res π Hc s} B st => by
  simp only [qE_1, qE_2, qE_3, qE_4, qE_5, qE_6, qE_7, qE_8, qE_9, qE_10, qE_11, qE_12, qE_13, qE_14, qE_15, qE_16, qE_17, qE_18, qE_19, qE_20, qE_21, qE_22, qE_23, qE_24, qE_25, qE_26, qE_27, qE_28, qE_29, qE_30, qE_31, qE_32, qE_33, qE_34, qE_35, qE_36, qE_37, qE_38]
  refine JAt.congr (arm_eval_Tuple ..) rfl (JAt.standAt ?_)
  rw [starEach_plain _ h.stars]
  refine JAt.bind (h.args B st) fun ys vs H1 π1 s1 _ hs1 hr1 hv1 => ?_
  unfold mkT
  split
  · rename_i hle
    exact .inr (wpAny_newTuple (OkP.tup (n := 0) hr1 hv1 hle rfl rfl) (by rw [hv1.len]; have := mil_le_line; omega))
  · exact .inl rfl

theorem ej_dict0 {p : Pos} : EJ am n q F c .dict0 (.Dict [] [] p) := fun {cx ρ A res π Hc s} B st => by
  simp only [qE_1, qE_2, qE_3, qE_4, qE_5, qE_6, qE_7, qE_8, qE_9, qE_10, qE_11, qE_12, qE_13, qE_14, qE_15, qE_16, qE_17, qE_18, qE_19, qE_20, qE_21, qE_22, qE_23, qE_24, qE_25, qE_26, qE_27, qE_28, qE_29, qE_30, qE_31, qE_32, qE_33, qE_34, qE_35, qE_36, qE_37, qE_38]
  refine .inr (wpAny_Dict_empty ?_)
  have k : ∀ b o', s.heap.get? b = some o' → (s.heap.push { cls := .type "dict", data := .dict #[] }).get? b = some o' := fun _ _ e => Heap.get?_push_of_some _ e
  refine OkP.keeps (tk := s.toks) st.hr k ?_
  simp only [VR]
  exact ⟨_, _, _, _, rfl, ⟨fresh_pi st.hr (size_none _), fresh_res st.hr (size_none _)⟩, Heap.get?_push_size _ rfl, rfl, rfl⟩

/-- a call of a builtin by its name -/
theorem wp_call_bt {cx : Cx} {ρ : List V} {A : Around} {res π : List Addr} {Hc : H} {s : Shared} (B : Base am n q F c cx ρ A) (hr : HR (am.at res) cx.stack π Hc s.heap) {x : Str} {v : Value} {y : Expr} {ys : List Expr} {p p' : Pos} {Q : Value → Shared → Prop} {E : Value → Shared → Prop} (hx : c.glob x = true)
    (hv : (x, v) ∈ bTab) (hs : ∀ z ∈ y :: ys, isStar z = false)
    (h : wpAny am.M A (spliced (plainArgs (y :: ys) cx.env)) (fun vs s₁ => wpAny am.M A (PySem.call v vs []) Q E s₁) E s) : wpAny am.M A (eval (.Call (.Name x p) (y :: ys) [] p') cx.env) Q E s := by
  have hp : (plainArgs (y :: ys) cx.env).any (·.1) = false := by
    simp [plainArgs, List.any_eq_false]
  refine wpAny_Call_Name_kw (wp_bt B hr hx hv ?_)
  rw [starEach_plain _ hs]
  have h' : wpAny am.M A (evalArgs v true (plainArgs (y :: ys) cx.env) []) (fun a s₁ => wpAny am.M A (PySem.call v ([] ++ a.pos) a.kw) Q E s₁) E s := Calls.evalArgs_plain h
  rcases bt_kind hv with ⟨id, rfl⟩ | ⟨T, rfl⟩
  · exact Calls.callWith_builtin hp h'
  · exact PySem.callWith_type hp h'
end

end Mine

namespace Mine
open PySem PySem.W PyProof.Rows

theorem mapRefs_len (g : Nat → Option V) : ∀ {vs ws : List V}, V.mapRefs g vs = some ws → ws.length = vs.length
  | [], ws, h => by simp only [V.mapRefs, Option.some.injEq] at h; subst h; rfl
  | v :: vs, ws, h => by
    simp only [V.mapRefs, Option.bind_eq_some_iff, Option.map_eq_some_iff] at h
    refine hold fun _ k_ => ?_
    obtain ⟨v', _, ws', h2, rfl⟩ := h
    refine k_ ?_
    simp [mapRefs_len g h2]

section
variable {am : Amb} {π δ : List Addr} {h : Heap}

mutual
theorem VR.mapRef {g : Nat → Option V} (hg : ∀ i a w, (π ++ δ)[i]? = some a → g i = some w → VR am π h w (.ref a)) :
    ∀ {v v' : V} {x : Value}, VR am (π ++ δ) h v x → V.mapRef g v = some v' → VR am π h v' x
  | .undef, _, _, e, _ => e.elim
  | .none, _, _, e, k => by simp only [V.mapRef, Option.some.injEq] at k; subst k; exact e
  | .bool _, _, _, e, k => by simp only [V.mapRef, Option.some.injEq] at k; subst k; exact e
  | .int _, _, _, e, k => by simp only [V.mapRef, Option.some.injEq] at k; subst k; exact e
  | .str _, _, _, e, k => by simp only [V.mapRef, Option.some.injEq] at k; subst k; exact e
  | .tup vs, _, x, e, k => by
    simp only [V.mapRef, Option.map_eq_some_iff] at k
    obtain ⟨ws, k, rfl⟩ := k
    simp only [VR] at e ⊢
    refine hold fun _ k_ => ?_
    obtain ⟨a, xs, h1, h2, h3, h4, h5⟩ := e
    refine k_ ?_
    exact ⟨a, xs, h1, ⟨fun hm => h2.1 (List.mem_append_left _ hm), h2.2⟩, h3, by rw [mapRefs_len g k]; exact h4, VRs.mapRefs hg h5 k⟩
  | .lst vs, _, x, e, k => by
    simp only [V.mapRef, Option.map_eq_some_iff] at k
    obtain ⟨ws, k, rfl⟩ := k
    simp only [VR] at e ⊢
    refine hold fun _ k_ => ?_
    obtain ⟨a, xs, h1, h2, h3, h4, h5⟩ := e
    refine k_ ?_
    exact ⟨a, xs, h1, ⟨fun hm => h2.1 (List.mem_append_left _ hm), h2.2⟩, h3, by rw [mapRefs_len g k]; exact h4, VRs.mapRefs hg h5 k⟩
  | .ref i, _, x, e, k => by
    simp only [V.mapRef] at k
    simp only [VR] at e
    obtain ⟨a, rfl, h2⟩ := e
    exact hg i a _ h2 k
  | .exc _, _, _, e, _ => e.elim
  | .dct, _, _, e, k => by
    simp only [V.mapRef, Option.some.injEq] at k; subst k
    simp only [VR] at e ⊢
    refine hold fun _ k_ => ?_
    obtain ⟨a, o, es, ep, h1, h2, r⟩ := e
    refine k_ ?_
    exact ⟨a, o, es, ep, h1, ⟨fun hm => h2.1 (List.mem_append_left _ hm), h2.2⟩, r⟩
theorem VRs.mapRefs {g : Nat → Option V} (hg : ∀ i a w, (π ++ δ)[i]? = some a → g i = some w → VR am π h w (.ref a)) :
    ∀ {vs ws : List V} {xs : List Value}, VRs am (π ++ δ) h vs xs → V.mapRefs g vs = some ws → VRs am π h ws xs
  | [], _, _, e, k => by simp only [V.mapRefs, Option.some.injEq] at k; subst k; exact e
  | v :: vs, ws, xs, e, k => by
    simp only [V.mapRefs, Option.bind_eq_some_iff, Option.map_eq_some_iff] at k
    refine hold fun _ k_ => ?_
    obtain ⟨v', k1, ws', k2, rfl⟩ := k
    refine k_ ?_
    simp only [VRs] at e ⊢
    refine hold fun _ k_ => ?_
    obtain ⟨x, xs', rfl, h1, h2⟩ := e
    refine k_ ?_
    exact ⟨x, xs', rfl, VR.mapRef hg h1 k1, VRs.mapRefs hg h2 k2⟩
end

theorem VR.frzAt {stack : List Env} {H' : H} (hr : HR am stack (π ++ δ) H' h) (hres : ∀ a ∈ δ, a ∉ am.res) :
    ∀ (k : Nat) (i : Nat) (a : Addr) (w : V), (π ++ δ)[i]? = some a → Mine.frzAt k π.length H' i = some w → VR am π h w (.ref a) := by
  have low : ∀ i a, (π ++ δ)[i]? = some a → i < π.length → VR am π h (.ref i) (.ref a) := fun i a h1 h2 => by
    simp only [VR]
    rw [List.getElem?_append_left h2] at h1
    exact ⟨a, rfl, h1⟩
  intro k
  induction k with
  | zero =>
    intro i a w h1 h2
    unfold Mine.frzAt at h2
    split at h2
    · cases h2; exact low i a h1 ‹_›
    · cases h2
  | succ k ih =>
    intro i a w h1 h2
    unfold Mine.frzAt at h2
    split at h2
    · cases h2; exact low i a h1 ‹_›
    · rename_i hi
      split at h2
      · rename_i vs hv
        simp only [Option.map_eq_some_iff] at h2
        obtain ⟨ws, h2, rfl⟩ := h2
        refine hold fun _ k_ => ?_
        obtain ⟨xs, h3, h4, h5⟩ := (hr.cell i _ a hv h1).list
        refine k_ ?_
        simp only [VR]
        have hd : a ∈ δ := by
          rw [List.getElem?_append_right (by omega)] at h1
          exact List.mem_of_getElem? h1
        have hn := hr.nodup
        rw [List.nodup_append] at hn
        exact ⟨a, xs, rfl, ⟨fun hm => hn.2.2 a hm a hd rfl, hres a hd⟩, h3.is, by rw [mapRefs_len _ h2]; exact h4, VRs.mapRefs ih h5 h2⟩
      · cases h2

mutual
/-- what knew only the old cells does so still -/
theorem VR.cut {h₀ : Heap} : ∀ {v : V} {x x₀ : Value}, VR am (π ++ δ) h v x → VR am π h₀ v x₀ → VR am π h v x
  | .undef, _, _, e, _ => e
  | .none, _, _, e, _ => e
  | .bool _, _, _, e, _ => e
  | .int _, _, _, e, _ => e
  | .str _, _, _, e, _ => e
  | .tup vs, x, x₀, e, f => by
    simp only [VR] at e f ⊢
    refine hold fun _ k_ => ?_
    obtain ⟨a, xs, h1, h2, h3, h4, h5⟩ := e
    refine k_ ?_
    refine hold fun _ k_ => ?_
    obtain ⟨_, ys, _, _, _, _, f5⟩ := f
    refine k_ ?_
    exact ⟨a, xs, h1, ⟨fun hm => h2.1 (List.mem_append_left _ hm), h2.2⟩, h3, h4, VRs.cut h5 f5⟩
  | .lst vs, x, x₀, e, f => by
    simp only [VR] at e f ⊢
    refine hold fun _ k_ => ?_
    obtain ⟨a, xs, h1, h2, h3, h4, h5⟩ := e
    refine k_ ?_
    refine hold fun _ k_ => ?_
    obtain ⟨_, ys, _, _, _, _, f5⟩ := f
    refine k_ ?_
    exact ⟨a, xs, h1, ⟨fun hm => h2.1 (List.mem_append_left _ hm), h2.2⟩, h3, h4, VRs.cut h5 f5⟩
  | .ref i, x, x₀, e, f => by
    simp only [VR] at e f ⊢
    obtain ⟨a, h1, h2⟩ := e
    obtain ⟨b, _, f2⟩ := f
    rw [List.getElem?_append_left (List.getElem?_eq_some_iff.mp f2).1] at h2
    exact ⟨a, h1, h2⟩
  | .exc _, _, _, e, _ => e
  | .dct, _, _, e, _ => by
    simp only [VR] at e ⊢
    refine hold fun _ k_ => ?_
    obtain ⟨a, o, es, ep, h1, h2, r⟩ := e
    refine k_ ?_
    exact ⟨a, o, es, ep, h1, ⟨fun hm => h2.1 (List.mem_append_left _ hm), h2.2⟩, r⟩
theorem VRs.cut {h₀ : Heap} : ∀ {vs : List V} {xs xs₀ : List Value}, VRs am (π ++ δ) h vs xs → VRs am π h₀ vs xs₀ → VRs am π h vs xs
  | [], _, _, e, _ => e
  | v :: vs, xs, xs₀, e, f => by
    simp only [VRs] at e f ⊢
    refine hold fun _ k_ => ?_
    obtain ⟨x, xs', rfl, h1, h2⟩ := e
    refine k_ ?_
    refine hold fun _ k_ => ?_
    obtain ⟨y, ys', rfl, f1, f2⟩ := f
    refine k_ ?_
    exact ⟨x, xs', rfl, VR.cut h1 f1, VRs.cut h2 f2⟩
end

theorem HR.cut {stack : List Env} {Hc H' : H} {h₀ : Heap} (hr : HR am stack (π ++ δ) H' h) (hr₀ : HR am stack π Hc h₀) (ht : H'.take Hc.length = Hc) : HR am stack π Hc h := by
  refine ⟨hr.base, hr.frames, hr₀.len, hr₀.nodup, hr.res, fun a ha => hr.off a (List.mem_append_left _ ha), fun i c a h1 h2 => ?_⟩
  have hi : i < Hc.length := (List.getElem?_eq_some_iff.mp h1).1
  have h3 : H'[i]? = some c := by
    have := congrArg (fun l => l[i]?) ht
    simp only [List.getElem?_take, hi, if_true] at this
    rw [this]; exact h1
  have h4 : (π ++ δ)[i]? = some a := by rw [List.getElem?_append_left (by rw [hr₀.len]; exact hi)]; exact h2
  obtain ⟨o, xs, e0, e1, e2, e3⟩ := hr.cell i c a h3 h4
  obtain ⟨_, ys, _, _, _, f3⟩ := hr₀.cell i c a h1 h2
  exact ⟨o, xs, e0, e1, e2, e3.cut f3⟩
end

theorem Step.less {Fs π π' : List Addr} {s s' : Shared} (x : Step Fs π s π' s') : Step Fs π s π s' := ⟨x.same, x.ext, [], by simp, by simp⟩

theorem JAt.pcall {am : Amb} {stack : List Env} {A : Around} {π : List Addr} {s : Shared} {Hc : H} {m : Sem Value} {r : R V} (hr : HR am stack π Hc s.heap) (h : JAt am stack A m r (VR am) π s) : JAt am stack A m (Mine.pcall Hc r) (VR am) π s := by
  rcases h with rfl | h
  · exact .inl rfl
  · cases r with
    | bad => exact .inl rfl
    | err c H' =>
      simp only [Mine.pcall]
      split
      · rename_i ht
        refine .inr (wpAny_mono h (fun a s' h => ?_) fun e s' h => ?_)
        · obtain ⟨_, _, _, h, _⟩ := h; cases h
        · refine hold fun _ k_ => ?_
          obtain ⟨c', H'', π', e', C, fl, h1, h2, h3, h4, h5, h6⟩ := h
          refine k_ ?_
          cases h1
          obtain ⟨δ, rfl, hδ⟩ := h4.grow
          exact ⟨c, Hc, π, e', C, fl, rfl, h2, h3, h4.less, h5.cut hr ht, h6⟩
      · exact .inl rfl
    | ok v H' =>
      simp only [Mine.pcall]
      split
      · rename_i ht
        cases hf : frz Hc.length H' v with
        | none => exact .inl rfl
        | some w =>
          refine .inr (wpAny_mono h (fun a s' h => ?_) fun e s' h => ?_)
          · refine hold fun _ k_ => ?_
            obtain ⟨b, H'', π', h1, h2, h3, h4⟩ := h
            refine k_ ?_
            cases h1
            obtain ⟨δ, rfl, hδ⟩ := h2.grow
            refine ⟨w, Hc, π, rfl, h2.less, h3.cut hr ht, ?_⟩
            rw [← hr.len] at hf
            exact VR.mapRef (VR.frzAt h3 (fun a ha hm => by
              obtain ⟨o, ho, _⟩ := hr.res a hm
              rw [hδ a ha] at ho; cases ho) 4) h4 hf
          · obtain ⟨_, _, _, _, _, _, h, _⟩ := h; cases h
      · exact .inl rfl

section
variable {am : Amb} {n : Nat} {q : Bool} {F : Fn} {c : Ck}

theorem spl1 {M : Model} {A : Around} {env : Env} {y : Expr} {Q : List Value → Shared → Prop} {E : Value → Shared → Prop} {s : Shared} (h : wpAny M A (eval y env) (fun v s₁ => Q [v] s₁) E s) : wpAny M A (spliced (plainArgs [y] env)) Q E s :=
  Calls.spliced_cons (wpAny_mono h (fun _ _ h => Calls.spliced_nil h) fun _ _ x => x)
theorem spl2 {M : Model} {A : Around} {env : Env} {y z : Expr} {Q : List Value → Shared → Prop} {E : Value → Shared → Prop} {s : Shared} (h : wpAny M A (eval y env) (fun v s₁ => wpAny M A (eval z env) (fun w s₂ => Q [v, w] s₂) E s₁) E s) : wpAny M A (spliced (plainArgs [y, z] env)) Q E s :=
  Calls.spliced_cons (wpAny_mono h (fun _ _ h => spl1 h) fun _ _ x => x)

noncomputable def bfVal : Bf → Value
  | .len => .builtin "len" | .all => .builtin "all" | .any => .builtin "any" | .sorted => .builtin "sorted" | .min => .builtin "min" | .sum => .builtin "sum"
  | .list => .type "list" | .tuple => .type "tuple" | .int => .type "int" | .str => .type "str" | .listRev => .type "list" | .listRange => .type "list"

theorem bf_tab (f : Bf) : (bfName f, bfVal f) ∈ bTab := by cases f <;> exact bt_mem (by kernel_rfl)

theorem Hd.quiet {A : Around} {π Fs : List Addr} {h : Heap} (x : Hd true A π Fs h) : A.handled = none := x

theorem op_bf {f : Bf} {am : Amb} {stack : List Env} {A : Around} {π : List Addr} {s : Shared} {Hc : H} {a : V} {x : Value} {n : Nat} (as : AS n stack A) (hf : f.ready = true) (h0 : f ≠ .listRev) (hq : f.walks = true → A.handled = none) (hr : HR am stack π Hc s.heap) (ha : VR am π s.heap a x) :
    JAt am stack A (PySem.call (bfVal f) [x]) (R.opt (bf f Hc a) Hc) (VR am) π s := by
  cases f with
  | len => exact op_len hr ha
  | list => exact op_list hr ha
  | tuple => exact op_tuple hr ha
  | int => exact op_int hr ha
  | str => exact op_str hr ha
  | all => exact op_all (hq rfl) hr ha
  | any => exact op_any (hq rfl) hr ha
  | listRev => exact absurd rfl h0
  | sorted => exact op_sorted as hr ha
  | sum => exact op_sum (hq rfl) hr ha
  | _ => simp [Bf.ready] at hf

theorem ej_bf {f : Bf} {a : PE} {y : Expr} {p p' : Pos} (h0 : f ≠ .listRev) (hx : c.glob (bfName f) = true) (hy : isStar y = false) (ha : EJ am n q F c a y) : EJ am n q F c (.bf f a) (.Call (.Name (bfName f) p) [y] [] p') := fun {cx ρ A res π Hc s} B st => by
  simp only [qE_1, qE_2, qE_3, qE_4, qE_5, qE_6, qE_7, qE_8, qE_9, qE_10, qE_11, qE_12, qE_13, qE_14, qE_15, qE_16, qE_17, qE_18, qE_19, qE_20, qE_21, qE_22, qE_23, qE_24, qE_25, qE_26, qE_27, qE_28, qE_29, qE_30, qE_31, qE_32, qE_33, qE_34, qE_35, qE_36, qE_37, qE_38]
  split
  · exact .inl rfl
  · rename_i hq
    simp only [Bool.or_eq_true, Bool.and_eq_true, Bool.not_eq_true', not_or, not_and, Bool.not_eq_false] at hq
    refine JT.at (T := fun Q E s => wpAny am.M A (eval y cx.env) (fun v s₁ => wpAny am.M A (PySem.call (bfVal f) [v]) Q E s₁) E s) (JT.bind (fun _ => PT.wp _ _) (ha B st) fun x v H1 π1 s1 _ hs1 hr1 hv1 => JAt.pt ?_)
      fun Q E h => wp_call_bt B st.hr hx (bf_tab f) (by simpa using hy) (spl1 h)
    refine op_bf B.as hq.2 h0 (fun hw => ?_) hr1 hv1
    cases q with
    | false => exact absurd hw (by simpa using hq.1)
    | true => exact Hd.quiet st.hd

theorem fj_bflist {a : PE} {y : Expr} {p p' : Pos} (hx : c.glob (bfName .list) = true) (hy : isStar y = false) (ha : EJ am n q F c a y) : FJ am n q F c (.bf .list a) (.Call (.Name (bfName .list) p) [y] [] p') := fun {cx ρ A res π Hc s} B st => by
  have e : evE q F ρ (.bf .list a) Hc = (evE q F ρ a Hc).bind fun x h => R.opt (bf .list h x) h := by
    simp only [qE_1, qE_2, qE_3, qE_4, qE_5, qE_6, qE_7, qE_8, qE_9, qE_10, qE_11, qE_12, qE_13, qE_14, qE_15, qE_16, qE_17, qE_18, qE_19, qE_20, qE_21, qE_22, qE_23, qE_24, qE_25, qE_26, qE_27, qE_28, qE_29, qE_30, qE_31, qE_32, qE_33, qE_34, qE_35, qE_36, qE_37, qE_38, Bf.ready, Bf.walks]; simp
  rw [e]
  refine JF.rule (T := fun Q E s => wpAny am.M A (eval y cx.env) (fun v s₁ => wpAny am.M A (PySem.call (.type "list") [v]) Q E s₁) E s) (JF.bind (fun _ => PT.wp _ _) (ha B st) fun x v H1 π1 s1 _ hs1 hr1 hv1 => ?_)
      fun Q E h => wp_call_bt B st.hr hx (bf_tab .list) (by simpa using hy) (spl1 h)
  unfold bf
  dsimp only
  cases hi : items H1 v with
  | none => exact .inl rfl
  | some vs =>
    obtain ⟨xs, hz⟩ : ∃ xs : List Value, vs.length ≤ 1000000 := ⟨[], by
      rcases items_at hr1 hv1 hi with ⟨l, xs, h⟩
      rcases h with ⟨_, h⟩
      first | exact h.2.1 | exact h.1 | omega⟩
    exact .inr (wp_list (am := am.at res) hr1 hv1 hi fun y s' h => FrP.new rfl (.refl ..) hr1 hz h)

end

end Mine

namespace Mine
open PySem PySem.W PyProof.Rows

section
variable {am : Amb} {n : Nat} {q : Bool} {F : Fn} {c : Ck}

/-- a list alone -/
noncomputable def lonly (o : Option V) : Option V := match o with
  | some (.lst vs) => some (.lst vs)
  | _ => Option.none

theorem own_bin {op : Bop} {a b : PE} {l r : Expr} {p : Pos} (ha : EJ am n q F c a l) (hb : EJ am n q F c b r)
    (key : ∀ {cx : Cx} {A : Around} {res π : List Addr} {H2 : H} {s : Shared} {v w : V} {x y : Value}, HR (am.at res) cx.stack π H2 s.heap → VR (am.at res) π s.heap v x → VR (am.at res) π s.heap w y → JF (am.at res) cx.stack (fun Q E s => wpAny am.M A (binaryOp (bopM op) x y) Q E s) (R.opt (lonly (pyBin op H2 v w)) H2) π s) : EJ am n q F c (.own (.bin op a b)) (.BinOp l (bopM op) r p) := fun {cx ρ A res π Hc s} B st => by
  have e : evE q F ρ (.own (.bin op a b)) Hc = ((evE q F ρ a Hc).bind fun x h => (evE q F ρ b h).bind fun y h => R.opt (lonly (pyBin op h x y)) h).bind fun x h => match x with | .lst vs => .ok (.ref h.length) (h ++ [.list vs]) | _ => .bad := by
    simp only [qE_1, qE_2, qE_3, qE_4, qE_5, qE_6, qE_7, qE_8, qE_9, qE_10, qE_11, qE_12, qE_13, qE_14, qE_15, qE_16, qE_17, qE_18, qE_19, qE_20, qE_21, qE_22, qE_23, qE_24, qE_25, qE_26, qE_27, qE_28, qE_29, qE_30, qE_31, qE_32, qE_33, qE_34, qE_35, qE_36, qE_37, qE_38]
    cases evE q F ρ a Hc with
    | ok v h =>
      simp only [R.bind_ok]
      cases evE q F ρ b h with
      | ok w h =>
        simp only [R.bind_ok]
        cases pyBin op h v w with
        | none => rfl
        | some u => cases u <;> rfl
      | _ => rfl
    | _ => rfl
  rw [e]
  exact JF.cell (T := fun Q E s => wpAny am.M A (eval l cx.env) (fun v s₁ => wpAny am.M A (eval r cx.env) (fun w s₂ => wpAny am.M A (binaryOp (bopM op) v w) Q E s₂) E s₁) E s)
    (JF.bind (fun _ => PT.seq _ _ fun _ => PT.wp _ _) (ha B st) fun x v H1 π1 s1 _ hs1 hr1 hv1 => JF.bind (fun _ => PT.wp _ _) (hb B (st.step hs1 hr1)) fun y w H2 π2 s2 _ hs2 hr2 hv2 => key hr2 (hv1.step hs2) hv2)
    fun Q E h => wpAny_BinOp h
theorem own_add {a b : PE} {l r : Expr} {p : Pos} (ha : EJ am n q F c a l) (hb : EJ am n q F c b r) : EJ am n q F c (.own (.bin .add a b)) (.BinOp l .Add r p) := own_bin (op := .add) ha hb fun {cx A res π H2 s v w x y} hr hv hw => by
  show JF _ _ _ (R.opt (lonly (pyAdd H2 v w)) H2) _ _
  rcases pyAdd_cases H2 v w with h | ⟨i, k, rfl, rfl⟩ | ⟨i, k, rfl, rfl⟩ | ⟨vs, ws, la, lb, h⟩
  · rw [h]; exact .inl rfl
  · exact .inl rfl
  · first
    | exact .inl rfl
    | refine .inl ?_
      show R.opt (lonly (mkT (i ++ k))) H2 = .bad
      unfold mkT
      split <;> rfl
  · rw [h]
    unfold mkL
    split
    · rename_i hle
      exact .inr (wp_add_list (am := am.at res) hr hv hw la lb hle fun y s' h => FrP.new rfl (.refl ..) hr hle h)
    · exact .inl rfl

/-- the names of types, as they stand -/
theorem wp_ty {cx : Cx} {ρ : List V} {A : Around} {res π : List Addr} {Hc : H} {s : Shared} (B : Base am n q F c cx ρ A) (hr : HR (am.at res) cx.stack π Hc s.heap) {t : Ty} {x : Expr} {Q : Value → Shared → Prop} {E : Value → Shared → Prop} (hp : tyPl t = true) (hk : ckTy c t x = true) (h : Q (tyVal t) s) :
    wpAny am.M A (eval x cx.env) Q E s := by
  obtain ⟨p, rfl, hk'⟩ := ckTy_inv hk
  refine wp_bt B hr hk' ?_ h
  cases t <;> first | exact noB hp | exact bt_mem (by kernel_rfl)

theorem wp_tys {cx : Cx} {ρ : List V} {A : Around} {res π : List Addr} {Hc : H} {s : Shared} (B : Base am n q F c cx ρ A) (hr : HR (am.at res) cx.stack π Hc s.heap) : ∀ {ts : List Ty} {xs : List Expr} {Q : List Value → Shared → Prop} {E : Value → Shared → Prop}, ts.all tyPl = true → ckTys c ts xs = true → Q (ts.map tyVal) s →
    wpAny am.M A (spliced (plainArgs xs cx.env)) Q E s
  | [], [], Q, E, _, _, h => Calls.spliced_nil h
  | t :: ts, x :: xs, Q, E, hp, hk, h => by
    simp only [List.all_cons, Bool.and_eq_true] at hp
    simp only [ckTys, Bool.and_eq_true] at hk
    exact Calls.spliced_cons (wp_ty B hr hp.1 hk.1 (wp_tys B hr hp.2 hk.2 h))
  | [], _ :: _, _, _, _, hk, _ => by simp [ckTys] at hk
  | _ :: _, [], _, _, _, hk, _ => by simp [ckTys] at hk
theorem tys_star : ∀ {ts : List Ty} {xs : List Expr}, ckTys c ts xs = true → ∀ x ∈ xs, isStar x = false
  | [], [], _ => by simp
  | t :: ts, x :: xs, hk => by
    simp only [ckTys, Bool.and_eq_true] at hk
    intro y hy
    rcases List.mem_cons.mp hy with rfl | hy
    · obtain ⟨p, rfl, _⟩ := ckTy_inv hk.1; rfl
    · exact tys_star hk.2 y hy
  | [], _ :: _, hk => by simp [ckTys] at hk
  | _ :: _, [], hk => by simp [ckTys] at hk
theorem tyPl_plain {t : Ty} (h : tyPl t = true) : t.plain = true := by cases t <;> first | rfl | (simp [tyPl] at h; done)
theorem tyPl_all {ts : List Ty} (h : ts.all tyPl = true) : ts.all Ty.plain = true := by
  simp only [List.all_eq_true] at h ⊢; exact fun t ht => tyPl_plain (h t ht)

theorem ej_isinst {a : PE} {t : Ty} {y x : Expr} {p p' : Pos} (hx : c.glob "isinstance" = true) (hp : tyPl t = true) (hk : ckTy c t x = true) (hy : isStar y = false) (ha : EJ am n q F c a y) :
    EJ am n q F c (.isinst a [t]) (.Call (.Name "isinstance" p) [y, x] [] p') := fun {cx ρ A res π Hc s} B st => by
  simp only [qE_1, qE_2, qE_3, qE_4, qE_5, qE_6, qE_7, qE_8, qE_9, qE_10, qE_11, qE_12, qE_13, qE_14, qE_15, qE_16, qE_17, qE_18, qE_19, qE_20, qE_21, qE_22, qE_23, qE_24, qE_25, qE_26, qE_27, qE_28, qE_29, qE_30, qE_31, qE_32, qE_33, qE_34, qE_35, qE_36, qE_37, qE_38]
  refine JT.at (T := fun Q E s => wpAny am.M A (eval y cx.env) (fun v s₁ => wpAny am.M A (eval x cx.env) (fun w s₂ => wpAny am.M A (PySem.call (.builtin "isinstance") [v, w]) Q E s₂) E s₁) E s)
    (JT.bind (fun _ => PT.seq _ _ fun _ => PT.wp _ _) (ha B st) fun z v H1 π1 s1 _ hs1 hr1 hv1 => ?_)
    fun Q E h => wp_call_bt B st.hr hx (bt_mem (by kernel_rfl)) (by intro z hz; rcases List.mem_cons.mp hz with rfl | hz; exact hy; exact tys_star (c := c) (ts := [t]) (xs := [x]) (by simp [ckTys, hk]) z hz) (spl2 h)
  refine JT.rule (JAt.pt (op_isi (A := A) (am := am.at res) B.ok.K hr1 hv1 (tyPl_plain hp))) fun Q E h => ?_
  exact wp_ty B hr1 hp hk h

theorem ej_isinst2 {a : PE} {ts : List Ty} {y : Expr} {xs : List Expr} {k : Nat} {p p' p2 : Pos} (hx : c.glob "isinstance" = true) (hp : ts.all tyPl = true) (hk : ckTys c ts xs = true) (hts : ts ≠ []) (hl : ts.length ≤ 1000) (hy : isStar y = false) (ha : EJ am n q F c a y) :
    EJ am n q F c (.isinst a ts) (.Call (.Name "isinstance" p) [y, .Tuple xs k p2] [] p') := fun {cx ρ A res π Hc s} B st => by
  simp only [qE_1, qE_2, qE_3, qE_4, qE_5, qE_6, qE_7, qE_8, qE_9, qE_10, qE_11, qE_12, qE_13, qE_14, qE_15, qE_16, qE_17, qE_18, qE_19, qE_20, qE_21, qE_22, qE_23, qE_24, qE_25, qE_26, qE_27, qE_28, qE_29, qE_30, qE_31, qE_32, qE_33, qE_34, qE_35, qE_36, qE_37, qE_38]
  refine JT.at (T := fun Q E s => wpAny am.M A (eval y cx.env) (fun v s₁ => wpAny am.M A (eval (.Tuple xs k p2) cx.env) (fun w s₂ => wpAny am.M A (PySem.call (.builtin "isinstance") [v, w]) Q E s₂) E s₁) E s)
    (JT.bind (fun _ => PT.seq _ _ fun _ => PT.wp _ _) (ha B st) fun z v H1 π1 s1 _ hs1 hr1 hv1 => ?_)
    fun Q E h => wp_call_bt B st.hr hx (bt_mem (by kernel_rfl)) (by intro z hz; rcases List.mem_cons.mp hz with rfl | hz; exact hy; rw [List.mem_singleton.mp hz]; rfl) (spl2 h)
  let o : Obj := { cls := .type "tuple", data := .seq (ts.map tyVal).toArray }
  have kk : ∀ b o', s1.heap.get? b = some o' → (s1.heap.push o).get? b = some o' := fun b o' q => Heap.get?_push_of_some _ q
  have stp : Step (Fs cx.stack) π1 s1 π1 { s1 with heap := s1.heap.push o } := Step.keeps (tk := s1.toks) kk
  have base := op_isi2 (A := A) (am := am.at res) (s := { s1 with heap := s1.heap.push o }) (ts := ts) (tp := s1.heap.objs.size) (n := 0) (dd := none) (sl := #[]) B.ok.K (hr1.keeps kk) (hv1.keeps kk) (tyPl_all hp) hts (Heap.get?_push_size _ rfl)
  rcases base with h | h
  · exact .inl h
  · refine .inr ?_
    rw [arm_eval_Tuple, starEach_plain _ (tys_star hk)]
    refine wpAny_bind (wpAny_standAt (wpAny_bind (wp_tys B hr1 hp hk ?_)))
    exact wpAny_newTuple (wpAny_mono h (fun _ _ y => OkP.step stp y) fun _ _ y => ErP.step stp y) (by simp [sizeLine]; omega)

theorem ej_call {k : Bool} {f : String} {es : List PE} {x : Expr} {xs : List Expr} {p p' : Pos} (hx : c.glob (Str.ofString f) = true) (hf : f ∈ c.fns) (h : AllJ am n q F c es (x :: xs)) :
    EJ am n q F c (.call k f es) (.Call (.Name (Str.ofString f) p) (x :: xs) [] p') := fun {cx ρ A res π Hc s} B st => by
  simp only [qE_1, qE_2, qE_3, qE_4, qE_5, qE_6, qE_7, qE_8, qE_9, qE_10, qE_11, qE_12, qE_13, qE_14, qE_15, qE_16, qE_17, qE_18, qE_19, qE_20, qE_21, qE_22, qE_23, qE_24, qE_25, qE_26, qE_27, qE_28, qE_29, qE_30, qE_31, qE_32, qE_33, qE_34, qE_35, qE_36, qE_37, qE_38]
  obtain ⟨a, fa⟩ := B.ck.fns f hf
  refine hold fun _ k_ => ?_
  obtain ⟨ga, o, fd, ho, hd⟩ := id fa
  refine k_ ?_
  refine JAt.seqP (m := spliced (plainArgs (x :: xs) cx.env)) (f := fun vs => PySem.call (.ref a) vs []) (P := fun _ s₁ => s₁.heap.get? a = some o ∧ o.data = .func fd) (fun Q E h' => ?_) (h.args B st) fun ys vs H1 π1 s1 _ hs1 hr1 hv1 => ⟨⟨hr1.base a o ho, hd⟩, ?_⟩
  · refine wpAny_Call_Name_kw (wp_glob B st.hr hx ga ?_)
    rw [starEach_plain _ h.stars]
    exact Calls.callWith_function (o := o) (fd := fd) (Calls.evalArgs_plain h')
  · have J := B.fn.call res q f a vs ys cx.stack A π1 H1 s1 fa B.as hr1 (st.hd.step hs1) (.inl hv1)
    cases k with
    | true => exact J
    | false => exact JAt.pcall hr1 J

end

end Mine

namespace Mine
open PySem PySem.W PyProof.Rows

theorem PL.update {h : Heap} {l : Addr} {xs : List Value} (pl : PL h l xs) (f : Array Value → Array Value) : PL (h.update l (Obj.mapSeq f)) l (f (List.toArray xs)).toList := by
  refine hold fun _ k_ => ?_
  obtain ⟨o, n, ho, hc, hdi, hd⟩ := pl
  refine k_ ?_
  obtain ⟨n', hd'⟩ := Obj.data_mapSeq hd f
  refine ⟨_, n', Heap.get?_update_self _ ho (Obj.isFreed_of_seq hd'), (Obj.cls_mapSeq ..).trans hc, ?_, by simpa using hd'⟩
  refine hold fun _ k_ => ?_
  obtain ⟨c, d, dt, sl⟩ := o
  refine k_ ?_
  simp only at hd hdi
  subst hd hdi
  rfl

theorem funFrames_but {h h' base : Heap} {l : Addr} (k : ∀ b o, b ≠ l → h.get? b = some o → h'.get? b = some o) (hl : ∃ o, h'.get? l = some o ∧ ∀ us, o.data ≠ .fields us) :
    ∀ {st : List Env}, h.FunFrames base st → h'.FunFrames base st
  | [], _ => trivial
  | e :: st, x => by
    refine hold fun _ k_ => ?_
    obtain ⟨h1, ⟨L, o, h2, h3, h4, h5⟩, h6⟩ := x
    refine k_ ?_
    refine ⟨h1, ?_, funFrames_but k hl h6⟩
    by_cases hL : L = l
    · subst hL
      obtain ⟨o', h7, h8⟩ := hl
      exact ⟨L, o', h2, h3, h7, h8⟩
    · exact ⟨L, o, h2, h3, k L o hL h4, h5⟩

theorem mem_of_get {π : List Addr} {i : Nat} {l : Addr} (h : π[i]? = some l) : l ∈ π := List.mem_of_getElem? h

theorem pi_inj {π : List Addr} (hn : π.Nodup) {i j : Nat} {l : Addr} (h1 : π[i]? = some l) (h2 : π[j]? = some l) : i = j := by
  exact (List.getElem?_inj (List.getElem?_eq_some_iff.mp h1).1 hn).mp (h1.trans h2.symm)

/-- a cell's list is another now -/
theorem HR.put {am : Amb} {stack : List Env} {π : List Addr} {Hc : H} {s : Shared} (hr : HR am stack π Hc s.heap) {i : Nat} {l : Addr} (hi : π[i]? = some l) {vs : List V} {xs : List Value} (hz : vs.length ≤ 1000000) {h' : Heap} {tk : Nat}
    (k : ∀ b o, b ≠ l → s.heap.get? b = some o → h'.get? b = some o) (pl : PL h' l xs) (hv : VRs am π s.heap vs xs) :
    Step (Fs stack) π s π { s with heap := h', toks := tk } ∧ HR am stack π (Hc.set i (.list vs)) h' := by
  have hl := mem_of_get hi
  have nf : ∃ o, h'.get? l = some o ∧ ∀ us, o.data ≠ .fields us := by
    refine hold fun _ k_ => ?_
    obtain ⟨o, n, ho, _, _, hd⟩ := pl
    refine k_ ?_
    exact ⟨o, ho, fun us q => by rw [hd] at q; cases q⟩
  have st : Step (Fs stack) π s π { s with heap := h', toks := tk } := by
    refine ⟨⟨h', tk, rfl⟩, ⟨fun a o e h1 _ => k a o (fun q => h1 (q ▸ hl)) e, fun a o e h1 => ⟨o.slots, k a o (fun q => h1 (q ▸ hl)) e⟩, fun a o e => ?_⟩, [], by simp, by simp⟩
    by_cases ha : a = l
    · subst ha; obtain ⟨o, ho, _⟩ := nf; exact ⟨o, ho⟩
    · exact ⟨o, k a o ha e⟩
  refine ⟨st, ⟨fun a o e => ?_, funFrames_but k nf hr.frames, by simp [hr.len], hr.nodup, fun a ha => ?_, hr.off, fun j c a h1 h2 => ?_⟩⟩
  · exact k a o (fun q => by subst q; rw [(hr.off a hl).1] at e; cases e) (hr.base a o e)
  · by_cases hq : a = l
    · subst hq; exact nf
    · obtain ⟨o, ho, hd⟩ := hr.res a ha
      exact ⟨o, k a o hq ho, hd⟩
  · by_cases hj : j = i
    · subst hj
      have hlt : j < Hc.length := by rw [← hr.len]; exact (List.getElem?_eq_some_iff.mp hi).1
      rw [List.getElem?_set_self hlt] at h1
      cases h1
      rw [hi] at h2; cases h2
      exact .ofList pl hz (hv.step st)
    · rw [List.getElem?_set_ne (Ne.symm hj)] at h1
      have hne : a ≠ l := fun q => hj (pi_inj hr.nodup (q ▸ h2) hi)
      exact (hr.cell j c a h1 h2).via st.via fun o e _ => ⟨o.slots, k a o hne e⟩

theorem PT.and {γ : Type} {P : Shared → Prop} {T : PT γ} (h : PT.Mono T) : PT.Mono (fun Q E s => P s ∧ T Q E s) := fun Q Q' E E' s h1 h2 x => ⟨x.1, h Q Q' E E' s h1 h2 x.2⟩

section
variable {am : Amb} {stack : List Env} {A : Around} {π : List Addr} {s : Shared} {Hc : H}

theorem lcell_at {a : V} {x : Value} (hr : HR am stack π Hc s.heap) (ha : VR am π s.heap a x) (hc : lcell Hc a = true) :
    ∃ i l vs xs, a = .ref i ∧ x = .ref l ∧ π[i]? = some l ∧ Hc[i]? = some (.list vs) ∧ PL s.heap l xs ∧ vs.length ≤ 1000000 ∧ VRs am π s.heap vs xs := by
  cases a with
  | ref i =>
    simp only [lcell] at hc
    simp only [VR] at ha
    obtain ⟨l, rfl, hl⟩ := ha
    split at hc
    · rename_i vs hv
      refine hold fun _ k_ => ?_
      obtain ⟨xs, h1, h2, h3⟩ := (hr.cell i _ l hv hl).list
      refine k_ ?_
      exact ⟨i, l, vs, xs, rfl, rfl, hl, hv, h1, h2, h3⟩
    · cases hc
  | _ => simp [lcell] at hc

theorem onList_lcell {a : V} {f : List V → Option (V × List V)} (h : lcell Hc a = false) : onList Hc a f = .bad := by
  cases a with
  | ref i =>
    simp only [lcell, onList] at h ⊢
    cases hq : Hc[i]? with
    | none => rfl
    | some c => cases c with
      | list vs => rw [hq] at h; cases h
      | dict es => rfl
  | _ => rfl

theorem op_append {a b : V} {x y : Value} (hr : HR am stack π Hc s.heap) (ha : VR am π s.heap a x) (hb : VR am π s.heap b y) :
    JAt am stack A (PySem.call (.builtin "list.append") [x, y]) (onList Hc a fun vs => some (.none, vs ++ [b])) (VR am) π s := by
  cases hc : lcell Hc a with
  | false => exact .inl (onList_lcell hc)
  | true =>
    refine hold fun _ k_ => ?_
    obtain ⟨i, l, vs, xs, rfl, rfl, hi, hH, pl, hz, hv⟩ := lcell_at hr ha hc
    refine k_ ?_
    simp only [onList, hH]
    split
    · rename_i hle
      refine hold fun _ k_ => ?_
      obtain ⟨o, n, ho, hcl, hdi, hd⟩ := id pl
      refine k_ ?_
      refine .inr (wpAny_call_entry slot_list_append pl.is.typeIs entry_list_append ?_ (args_list_append _ _))
      show wpAny _ _ (updateSeq l (·.push y) >>= fun _ => ret .none) _ _ s
      refine wpAny_bind ?_
      have e := hv.len
      refine wpAny_updateSeq ho hd (wpAny_pure ⟨.none, rfl, ?_⟩) (hz := by simp only [List.size_toArray]; have := mil_le_line; omega)
      have pl' := pl.update (·.push y)
      have hp := HR.put (tk := s.toks) hr hi hle (xs := xs ++ [y]) (h' := s.heap.update l (Obj.mapSeq (·.push y))) (fun b o h1 h2 => (Heap.SameBut.update ..).extBut b o h1 h2) (by simpa using pl') (hv.append (.single hb))
      exact ⟨.none, _, π, rfl, hp.1, hp.2, rfl⟩
    · exact .inl rfl
end

section
variable {am : Amb} {n : Nat} {q : Bool} {F : Fn} {c : Ck}

theorem base_of {o : Expr} {name : Str} {env : Env} (h : okBase o = true) : attributeBase o name env (eval o env) = eval o env := by
  cases o <;> first | rfl | exact noB h

/-- a method of a list, with one argument -/
theorem ej_method1 {e : PE} {o a : PE} {v y : Expr} {name : Str} {id : String} {p p' : Pos} {g : V → V → H → R V} (hb : okBase v = true) (hl : (p.endLine == p'.line) = true) (hy : isStar y = false) (slot : Slot "list" name id) (hty : typeOf (.builtin id) = pure (.type "method_descriptor"))
    (ho : EJ am n q F c o v) (ha : EJ am n q F c a y) (he : ∀ ρ Hc, evE q F ρ e Hc = (evE q F ρ o Hc).bind fun x h => if lcell h x then (evE q F ρ a h).bind fun y h => g x y h else .bad)
    (op : ∀ {res : List Addr} {stack : List Env} {A : Around} {π : List Addr} {s : Shared} {Hc : H} {a b : V} {x y : Value}, AS n stack A → HR (am.at res) stack π Hc s.heap → VR (am.at res) π s.heap a x → VR (am.at res) π s.heap b y → JAt (am.at res) stack A (PySem.call (.builtin id) [x, y]) (g a b Hc) (VR (am.at res)) π s) :
    EJ am n q F c e (.Call (.Attribute v name p) [y] [] p') := fun {cx ρ A res π Hc s} B st => by
  rw [he]
  have hst : ∀ z ∈ [y], isStar z = false := by simpa using hy
  refine JT.at (T := fun Q E s => wpAny am.M A (eval v cx.env) (fun ov s₁ => (s₁.TypeIs ov "list" ∧ (∀ a, ov = .ref a → ∃ ob, s₁.heap.get? a = some ob ∧ ob.dict = none)) ∧ wpAny am.M A (eval y cx.env) (fun w s₂ => wpAny am.M A (PySem.call (.builtin id) [ov, w]) Q E s₂) E s₁) E s)
    (JT.bind (fun _ => PT.and (PT.seq _ _ fun _ => PT.wp _ _)) (ho B st) fun x u H1 π1 s1 _ hs1 hr1 hv1 => ?_) fun Q E h => ?_
  · split
    · rename_i hc
      refine hold fun _ k_ => ?_
      obtain ⟨i, l, vs, xs, rfl, rfl, hi, hH, pl, hz, hv⟩ := lcell_at hr1 hv1 hc
      refine k_ ?_
      have J : JT (am.at res) cx.stack (fun Q E s => wpAny am.M A (eval y cx.env) (fun w s₂ => wpAny am.M A (PySem.call (.builtin id) [.ref l, w]) Q E s₂) E s) ((evE q F ρ a H1).bind fun y h => g (.ref i) y h) (VR (am.at res)) π1 s1 :=
        JT.bind (fun _ => PT.wp _ _) (ha B (st.step hs1 hr1)) fun w u H2 π2 s2 _ hs2 hr2 hv2 => JAt.pt (op B.as hr2 (hv1.step hs2) hv2)
      exact J.rule fun Q E h => ⟨⟨pl.is.typeIs, fun a e => by cases e; obtain ⟨o, n, ho, _, hd, _⟩ := pl; exact ⟨o, ho, hd⟩⟩, h⟩
    · exact .inl rfl
  · refine wpAny_Call_method (T := "list") (id := id) (base_of hb) (by rw [starEach_plain _ hst]; rfl) hl PySem.F.plainAttrs_list slot hty (wpAny_mono h (fun ov s₁ h₁ => ⟨h₁.1.1, h₁.1.2, ?_⟩) fun _ _ x => x)
    rw [starEach_plain _ hst]
    exact Calls.callWith_builtin rfl (Calls.evalArgs_plain (spl1 h₁.2))

theorem ej_append {o a : PE} {v y : Expr} {p p' : Pos} (hb : okBase v = true) (hl : (p.endLine == p'.line) = true) (hy : isStar y = false) (ho : EJ am n q F c o v) (ha : EJ am n q F c a y) :
    EJ am n q F c (.append o a) (.Call (.Attribute v "append" p) [y] [] p') :=
  ej_method1 (id := "list.append") (g := fun x y h => onList h x fun vs => some (.none, vs ++ [y])) hb hl hy PySem.F.slot_list_append PySem.F.type_list_append ho ha (fun ρ Hc => by simp only [qE_1, qE_2, qE_3, qE_4, qE_5, qE_6, qE_7, qE_8, qE_9, qE_10, qE_11, qE_12, qE_13, qE_14, qE_15, qE_16, qE_17, qE_18, qE_19, qE_20, qE_21, qE_22, qE_23, qE_24, qE_25, qE_26, qE_27, qE_28, qE_29, qE_30, qE_31, qE_32, qE_33, qE_34, qE_35, qE_36, qE_37, qE_38]) fun _ hr h1 h2 => op_append hr h1 h2
end

section
variable {am : Amb} {stack : List Env} {A : Around} {π : List Addr} {s : Shared} {Hc : H}

theorem op_clear {a : V} {x : Value} (hr : HR am stack π Hc s.heap) (ha : VR am π s.heap a x) :
    JAt am stack A (PySem.call (.builtin "list.clear") [x]) (onList Hc a fun _ => some (.none, [])) (VR am) π s := by
  cases hc : lcell Hc a with
  | false => exact .inl (onList_lcell hc)
  | true =>
    refine hold fun _ k_ => ?_
    obtain ⟨i, l, vs, xs, rfl, rfl, hi, hH, pl, hz, hv⟩ := lcell_at hr ha hc
    refine k_ ?_
    simp only [onList, hH]
    rw [if_pos (by simp)]
    refine hold fun _ k_ => ?_
    obtain ⟨o, n, ho, hcl, hdi, hd⟩ := id pl
    refine k_ ?_
    refine .inr (wpAny_call_entry PySem.F.slot_list_clear pl.is.typeIs PySem.F.entry_list_clear ?_ (PySem.F.args_list_clear_1 _))
    show wpAny _ _ (Builtin.List.listItems (.ref l) >>= fun old => updateSeq l (fun _ => #[]) >>= fun _ => letGo old.toList.reverse >>= fun _ => ret .none) _ _ s
    refine wpAny_bind (wpAny_listItems ho hd ?_)
    refine wpAny_bind ?_
    have e := hv.len
    refine wpAny_updateSeq ho hd ?_ (hz := by simp only [List.size_toArray]; have := mil_le_line; omega)
    refine wpAny_bind (wpAny_letGo ?_)
    refine wpAny_pure ⟨.none, rfl, ?_⟩
    have pl' := pl.update (fun _ => #[])
    have hp := HR.put (tk := s.toks) hr hi (vs := []) (by simp) (xs := []) (h' := s.heap.update l (Obj.mapSeq (fun _ => #[]))) (fun b o h1 h2 => (Heap.SameBut.update ..).extBut b o h1 h2) (by simpa using pl') (by simp [VRs])
    exact ⟨.none, _, π, rfl, hp.1, hp.2, rfl⟩
end

section
variable {am : Amb} {n : Nat} {q : Bool} {F : Fn} {c : Ck}

/-- a method of a list, with no argument -/
theorem ej_method0 {e : PE} {o : PE} {v : Expr} {name : Str} {id : String} {p p' : Pos} {g : V → H → R V} (hb : okBase v = true) (hl : (p.endLine == p'.line) = true) (slot : Slot "list" name id) (hty : typeOf (.builtin id) = pure (.type "method_descriptor"))
    (ho : EJ am n q F c o v) (he : ∀ ρ Hc, evE q F ρ e Hc = (evE q F ρ o Hc).bind fun x h => if lcell h x then g x h else .bad)
    (op : ∀ {res : List Addr} {stack : List Env} {A : Around} {π : List Addr} {s : Shared} {Hc : H} {a : V} {x : Value}, AS n stack A → HR (am.at res) stack π Hc s.heap → VR (am.at res) π s.heap a x → JAt (am.at res) stack A (PySem.call (.builtin id) [x]) (g a Hc) (VR (am.at res)) π s) :
    EJ am n q F c e (.Call (.Attribute v name p) [] [] p') := fun {cx ρ A res π Hc s} B st => by
  rw [he]
  have hst : ∀ z ∈ ([] : List Expr), isStar z = false := by simp
  refine JT.at (T := fun Q E s => wpAny am.M A (eval v cx.env) (fun ov s₁ => (s₁.TypeIs ov "list" ∧ (∀ a, ov = .ref a → ∃ ob, s₁.heap.get? a = some ob ∧ ob.dict = none)) ∧ wpAny am.M A (PySem.call (.builtin id) [ov]) Q E s₁) E s)
    (JT.bind (fun _ => PT.and (PT.wp _ _)) (ho B st) fun x u H1 π1 s1 _ hs1 hr1 hv1 => ?_) fun Q E h => ?_
  · split
    · rename_i hc
      refine hold fun _ k_ => ?_
      obtain ⟨i, l, vs, xs, rfl, rfl, hi, hH, pl, hz, hv⟩ := lcell_at hr1 hv1 hc
      refine k_ ?_
      have J : JT (am.at res) cx.stack (fun Q E s => wpAny am.M A (PySem.call (.builtin id) [.ref l]) Q E s) (g (.ref i) H1) (VR (am.at res)) π1 s1 := JAt.pt (op B.as hr1 hv1)
      exact J.rule fun Q E h => ⟨⟨pl.is.typeIs, fun a e => by cases e; obtain ⟨o, n, ho, _, hd, _⟩ := pl; exact ⟨o, ho, hd⟩⟩, h⟩
    · exact .inl rfl
  · refine wpAny_Call_method (T := "list") (id := id) (base_of hb) (by rw [starEach_plain _ hst]; rfl) hl PySem.F.plainAttrs_list slot hty (wpAny_mono h (fun ov s₁ h₁ => ⟨h₁.1.1, h₁.1.2, ?_⟩) fun _ _ x => x)
    rw [starEach_plain _ hst]
    exact Calls.callWith_builtin rfl (evalArgs_nil3 h₁.2)

theorem ej_clear {o : PE} {v : Expr} {p p' : Pos} (hb : okBase v = true) (hl : (p.endLine == p'.line) = true) (ho : EJ am n q F c o v) : EJ am n q F c (.clear o) (.Call (.Attribute v "clear" p) [] [] p') :=
  ej_method0 (id := "list.clear") (g := fun x h => onList h x fun _ => some (.none, [])) hb hl PySem.F.slot_list_clear PySem.F.type_list_clear ho (fun ρ Hc => by
    show (evE q F ρ o Hc).bind _ = _
    congr 1
    funext x h
    cases e : lcell h x with
    | true => rfl
    | false => exact onList_lcell e) fun _ hr h1 => op_clear hr h1
end

end Mine

namespace Mine
open PySem PySem.W PyProof.Rows

theorem flat_len (es : List (V × V)) : (es.flatMap fun e => [e.1, e.2]).length = 2 * es.length := by
  induction es with
  | nil => rfl
  | cons e es ih => rw [List.flatMap_cons, List.length_append, ih, List.length_cons, List.length_cons, List.length_cons, List.length_nil]; omega

section
variable {am : Amb} {stack : List Env} {A : Around} {π : List Addr} {s : Shared} {Hc : H}

/-- a new cell -/
theorem HR.grow {l : Addr} {h' : Heap} {tk : Nat} {c : Cell} (hr : HR am stack π Hc s.heap) (hl : s.heap.get? l = none) (k : ∀ b o, s.heap.get? b = some o → h'.get? b = some o) (hc : CellAt am (π ++ [l]) h' c l) :
    OkP am stack (VR am) π s (.ok (.ref Hc.length) (Hc ++ [c])) (.ref l) { s with heap := h', toks := tk } := by
  have hp := fresh_pi hr hl
  have hr' := hr.keeps k
  have st : Step (Fs stack) π s (π ++ [l]) { s with heap := h', toks := tk } :=
    ⟨⟨h', tk, rfl⟩, Ext.of_keeps k, [l], rfl, fun a ha => by rw [List.mem_singleton.mp ha]; exact hl⟩
  refine ⟨_, _, π ++ [l], rfl, st, ⟨hr'.base, hr'.frames, by simp [hr.len], ?_, hr'.res, fun a ha => ?_, fun i c' a hi ha => ?_⟩, ?_⟩
  · rw [List.nodup_append]
    exact ⟨hr.nodup, by simp, fun a ha b hb => by rw [List.mem_singleton.mp hb]; exact fun q => hp (q ▸ ha)⟩
  · rcases List.mem_append.mp ha with ha | ha
    · exact hr.off a ha
    · rw [List.mem_singleton.mp ha]; exact ⟨none_of_stays hr.base hl, fresh_fs hr hl⟩
  · by_cases hlt : i < Hc.length
    · rw [List.getElem?_append_left hlt] at hi
      rw [List.getElem?_append_left (by rw [hr.len]; exact hlt)] at ha
      exact (hr.cell i c' a hi ha).via st.via fun o e _ => ⟨o.slots, k a o e⟩
    · have hi' : i = Hc.length := by
        have := (List.getElem?_eq_some_iff.mp hi).1
        simp only [List.length_append, List.length_singleton] at this
        omega
      subst hi'
      simp only [List.getElem?_concat_length, Option.some.injEq] at hi
      rw [← hr.len] at ha
      simp only [List.getElem?_concat_length, Option.some.injEq] at ha
      subst hi ha
      exact hc
  · simp only [VR]
    exact ⟨l, rfl, by rw [← hr.len]; simp⟩
/-- a dict cell is another now -/
theorem HR.putD {i : Nat} {d : Addr} {c : Cell} {h' : Heap} {tk : Nat} (hr : HR am stack π Hc s.heap) (hi : π[i]? = some d) (k : ∀ b o, b ≠ d → s.heap.get? b = some o → h'.get? b = some o) (ho : ∃ o, h'.get? d = some o ∧ ∀ us, o.data ≠ .fields us)
    (hc : Step (Fs stack) π s π { s with heap := h', toks := tk } → CellAt am π h' c d) :
    Step (Fs stack) π s π { s with heap := h', toks := tk } ∧ HR am stack π (Hc.set i c) h' := by
  have hl := mem_of_get hi
  have st : Step (Fs stack) π s π { s with heap := h', toks := tk } := by
    refine ⟨⟨h', tk, rfl⟩, ⟨fun a o e h1 _ => k a o (fun q => h1 (q ▸ hl)) e, fun a o e h1 => ⟨o.slots, k a o (fun q => h1 (q ▸ hl)) e⟩, fun a o e => ?_⟩, [], by simp, by simp⟩
    by_cases ha : a = d
    · subst ha; obtain ⟨o, ho, _⟩ := ho; exact ⟨o, ho⟩
    · exact ⟨o, k a o ha e⟩
  refine ⟨st, ⟨fun a o e => ?_, funFrames_but k ho hr.frames, by simp [hr.len], hr.nodup, fun a ha => ?_, hr.off, fun j c' a h1 h2 => ?_⟩⟩
  · exact k a o (fun q => by subst q; rw [(hr.off a hl).1] at e; cases e) (hr.base a o e)
  · by_cases hq : a = d
    · subst hq; exact ho
    · obtain ⟨o, ho, hd⟩ := hr.res a ha
      exact ⟨o, k a o hq ho, hd⟩
  · by_cases hj : j = i
    · subst hj
      have hlt : j < Hc.length := by rw [← hr.len]; exact (List.getElem?_eq_some_iff.mp hi).1
      rw [List.getElem?_set_self hlt] at h1
      cases h1
      rw [hi] at h2; cases h2
      exact hc st
    · rw [List.getElem?_set_ne (Ne.symm hj)] at h1
      have hne : a ≠ d := fun q => hj (pi_inj hr.nodup (q ▸ h2) hi)
      exact (hr.cell j c' a h1 h2).via st.via fun o e _ => ⟨o.slots, k a o hne e⟩

theorem dcell_at {a : V} {x : Value} (ha : VR am π s.heap a x) (hc : dcell Hc a = true) : ∃ i d es, a = .ref i ∧ x = .ref d ∧ π[i]? = some d ∧ Hc[i]? = some (.dict es) := by
  cases a with
  | ref i =>
    simp only [dcell] at hc
    simp only [VR] at ha
    obtain ⟨l, rfl, hl⟩ := ha
    split at hc
    · rename_i es hv
      exact ⟨i, l, es, rfl, rfl, hl, hv⟩
    · cases hc
  | _ => simp [dcell] at hc

theorem ents_push : ∀ (es : List (V × V)) (xs : List Value) (k v : V) (x y : Value), xs.length = 2 * es.length → ents (es ++ [(k, v)]) (xs ++ [x, y]) = ents es xs ++ [⟨hashV k, x, y⟩]
  | [], xs, k, v, x, y, h => by
    have : xs = [] := List.eq_nil_of_length_eq_zero h
    subst this; rfl
  | (k', v') :: es, xs, k, v, x, y, h => by
    match xs, h with
    | [], h => simp at h
    | [_], h => simp at h; omega
    | a :: b :: xs, h =>
      show (⟨hashV k', a, b⟩ : DictEntry) :: ents (es ++ [(k, v)]) (xs ++ [x, y]) = ⟨hashV k', a, b⟩ :: (ents es xs ++ _)
      rw [ents_push es xs k v x y (by simp at h; omega)]
theorem dfind_none : ∀ {es : List (V × V)} {k : V}, dfind k es = Option.none → k ∉ es.map (·.1)
  | [], _, _ => by simp
  | (k', v) :: es, k, h => by
    rw [dfind] at h
    split at h
    · cases h
    · rename_i ne
      rw [List.map_cons, List.mem_cons]
      exact fun q => q.elim (fun e => ne e) (dfind_none h)

theorem DA.setdef {es : List (V × V)} {d a : Addr} {o : Obj} {arr : Array DictEntry} {ep : Nat} {ks : List (List Int × Addr × Value)} {is : List Int} {z : Value} {Q : Value → Shared → Prop} {E : Value → Shared → Prop} (D : DA am π s.heap es d o arr ep ks) (hu : A.units < cLine) (hk : IsTupleKey (kI am) s.heap is a) (hz : arr.size ≤ sizeLine)
    (h1 : ∀ p, atKey ks is = some p → Q p.2 { s with toks := s.toks + (kT am).draws is }) (h2 : atKey ks is = none → Q z { s with heap := s.heap.update d (Obj.mapDictKeys (·.push ⟨(kT am).hash is, .ref a, z⟩)), toks := s.toks + (kT am).draws is }) :
    wpAny am.M A (dictSetDefault d (.ref a) z) Q E s := by
  have hn := D.dr.nodup D.nodup
  unfold dictSetDefault
  try with_reducible refine wpAny_holding ?_
  refine wpAny_bind ((kT am).pyHash hu hk (wpAny_bind (wpAny_dictFind_heap (knd := kT am) (s := { s with toks := s.toks + (kT am).draws is }) hu hk D.ho D.data D.arr D.dr.is hn ?_ ?_)))
  · intro hno
    exact wpAny_bind (wpAny_rule (wpAny_bind (wpAny_updateDictKeys (hz := hz) (s := { s with toks := s.toks + (kT am).draws is }) D.ho D.data (wpAny_pure (h2 (atKey_none_of_get hno))))))
  · intro j p hj
    refine wpAny_bind (wpAny_dictEntries (s := { s with toks := s.toks + (kT am).draws is }) D.ho D.data ?_)
    rw [entry_at D.arr j, hj]
    exact wpAny_bind (wpAny_rule (wpAny_pure (h1 p (atKey_of_get hn hj))))
theorem DR.len {h : Heap} {es : List (V × V)} {ks : List (List Int × Addr × Value)} (d : DR am π h es ks) : ks.length = es.length := by
  induction d with
  | nil => rfl
  | cons _ _ _ _ ih => rw [List.length_cons, List.length_cons, ih]
theorem hashV_key {k : V} {is : List Int} (h : keyT k = some is) : hashV k = (kT am).hash is := by unfold hashV; rw [h]; rfl

theorem op_setDef {n : Nat} {a b c : V} {x y z : Value} (as : AS n stack A) (hr : HR am stack π Hc s.heap) (ha : VR am π s.heap a x) (hb : VR am π s.heap b y) (hz : VR am π s.heap c z) (hd : dcell Hc a = true) :
    JAt am stack A (PySem.call (.builtin "dict.setdefault") [x, y, z]) (setDef Hc a b c) (VR am) π s := by
  obtain ⟨i, d, es, rfl, rfl, hi, hc⟩ := dcell_at ha hd
  unfold setDef onDict
  simp only [hc]
  cases hk : keyT b with
  | none =>
    have e : keyOk b = false := by unfold keyOk; rw [hk]; rfl
    rw [e]; exact .inl rfl
  | some is =>
    have e : keyOk b = true := by unfold keyOk; rw [hk]; rfl
    rw [e, if_pos rfl]
    obtain ⟨o, xs, ho, ⟨hs, arr, ep, hcl, hdi, hda, he, hg⟩, hlen, hv⟩ := id (hr.cell i _ d hc hi)
    obtain ⟨o', arr', ep', ks, D⟩ := (hr.cell i _ d hc hi).dict
    have q := Option.some.inj (D.ho.symm.trans ho)
    subst q
    have q := D.data.symm.trans hda
    cases q
    obtain ⟨bk, rfl, hbk⟩ := key_at hk hb
    have hu : A.in1.units < cLine := by have := as.units; show A.units + 1 < 9900; omega
    have xl : xs.length = 2 * es.length := by rw [hv.len]; exact flat_len es
    have sz : arr.size ≤ sizeLine := by
      rw [← Array.length_toList, D.arr, List.length_map, D.dr.len]
      have := D.len
      rw [flat_len] at this
      have := mil_le_line
      omega
    have go : ∀ {Q : Value → Shared → Prop} {E : Value → Shared → Prop}, (∀ p, atKey ks is = some p → Q p.2 { s with toks := s.toks + (kT am).draws is }) → (atKey ks is = none → Q z { s with heap := s.heap.update d (Obj.mapDictKeys (·.push ⟨(kT am).hash is, .ref bk, z⟩)), toks := s.toks + (kT am).draws is }) → wpAny am.M A (PySem.call (.builtin "dict.setdefault") [.ref d, .ref bk, z]) Q E s := by
      intro Q E h1 h2
      refine wpAny_call_entry PySem.F.slot_dict_setdefault D.typeIs PySem.F.entry_dict_setdefault ?_ (PySem.F.args_dict_setdefault_3 _ _ _)
      unfold Builtin.«dict.setdefault»
      refine wpAny_bind ?_
      unfold Builtin.Dict.keyAndDefault
      refine wpAny_bind (wpAny_notOrdered_dict D.typeIs ?_)
      show wpAny _ _ (pure (d, Value.ref bk, some z)) _ _ s
      refine wpAny_pure ?_
      show wpAny _ _ (if (d == sysModules) = true then _ else (dictSetDefault d (.ref bk) z >>= _)) _ _ s
      rw [if_neg (by rw [D.ne]; exact Bool.false_ne_true)]
      exact wpAny_bind (D.setdef hu hbk sz (fun p hp => wpAny_pure ⟨_, rfl, h1 p hp⟩) fun hp => wpAny_pure ⟨_, rfl, h2 hp⟩)
    rcases D.dr.find hk with ⟨h1, h2⟩ | ⟨v, p, h1, h2, hvp⟩
    · rw [h1]
      by_cases hle : es.length ≤ 1000
      · simp only [if_pos hle]
        refine .inr (go (fun p hp => by rw [h2] at hp; cases hp) fun _ => ?_)
        have hd' := Obj.data_mapDictKeys hda (·.push ⟨(kT am).hash is, .ref bk, z⟩)
        have hg' := Heap.get?_update_self (Obj.mapDictKeys (·.push ⟨(kT am).hash is, .ref bk, z⟩)) ho (Obj.isFreed_of_dict hd')
        have hp := HR.putD (tk := s.toks + (kT am).draws is) (c := .dict (es ++ [(b, c)])) hr hi (fun b o h1 h2 => (Heap.SameBut.update ..).extBut b o h1 h2) ⟨_, hg', fun us q => by rw [hd'] at q; cases q⟩ fun st => by
          refine ⟨_, xs ++ [.ref bk, z], hg', ⟨hs, _, _, ?_, ?_, hd', ?_, ?_, ?_⟩, ?_, ?_⟩
          · obtain ⟨c0, di, dt, sl⟩ := o'; simp only at hda; subst hda; exact hcl
          · obtain ⟨c0, di, dt, sl⟩ := o'; simp only at hda; subst hda; exact hdi
          · rw [Array.toList_push, he, ents_push es xs b c _ _ xl, hashV_key (am := am) hk]
          · rw [List.map_append, List.nodup_append]
            refine ⟨hg.1, by simp, fun x hx y hy => ?_⟩
            rw [List.map_cons, List.map_nil, List.mem_singleton] at hy
            subst hy
            exact fun q => dfind_none h1 (q ▸ hx)
          · intro e' he'
            rcases List.mem_append.1 he' with he' | he'
            · exact hg.2 e' he'
            · rw [List.mem_singleton.1 he']; exact Option.isSome_iff_exists.2 ⟨is, hk⟩
          · show ((es ++ [(b, c)]).flatMap fun e => [e.1, e.2]).length ≤ _
            rw [flat_len, List.length_append, List.length_singleton]; omega
          · show VRs am π _ ((es ++ [(b, c)]).flatMap fun e => [e.1, e.2]) _
            rw [List.flatMap_append]
            refine VRs.append (hv.step st) ?_
            show VRs am π _ [b, c] [.ref bk, z]
            simp only [VRs]
            exact ⟨_, _, rfl, hb.step st, _, _, rfl, hz.step st, rfl⟩
        exact ⟨c, _, π, rfl, hp.1, hp.2, hz.step hp.1⟩
      · simp only [if_neg hle]; exact .inl rfl
    · rw [h1]
      exact .inr (go (fun p' hp => by rw [h2] at hp; cases hp; exact OkP.tok hr hvp) fun hp => by rw [h2] at hp; cases hp)
end

section
variable {am : Amb} {n : Nat} {q : Bool} {F : Fn} {c : Ck}

theorem ej_newDict {p : Pos} : EJ am n q F c (.newDict []) (.Dict [] [] p) := fun {cx ρ A res π Hc s} B st => by
  show JAt _ _ _ _ (R.ok (V.ref Hc.length) (Hc ++ [Cell.dict []])) _ _ _
  refine .inr (wpAny_Dict_empty ?_)
  have k : ∀ b o', s.heap.get? b = some o' → (s.heap.push { cls := .type "dict", data := .dict #[] }).get? b = some o' := fun _ _ e => Heap.get?_push_of_some _ e
  have lt : mainGlobals < s.heap.objs.size := (HR.gns B.ok st.hr).lt
  refine HR.grow (tk := s.toks) st.hr (size_none _) k ⟨_, [], Heap.get?_push_size _ rfl, ⟨?_, _, _, rfl, rfl, rfl, rfl, .nil, fun _ h => nomatch h⟩, by decide, rfl⟩
  exact Nat.ne_of_gt (Nat.lt_of_le_of_lt (by decide) lt)

theorem ej_setdef {o k d : PE} {v y z : Expr} {p p' : Pos} (hb : okBase v = true) (hl : (p.endLine == p'.line) = true) (hy : isStar y = false) (hz : isStar z = false) (ho : EJ am n q F c o v) (hk : EJ am n q F c k y) (hd : EJ am n q F c d z) :
    EJ am n q F c (.setdef o k d) (.Call (.Attribute v "setdefault" p) [y, z] [] p') := fun {cx ρ A res π Hc s} B st => by
  rw [qE_37]
  have hst : ∀ u ∈ [y, z], isStar u = false := by
    intro u hu
    rcases List.mem_cons.1 hu with rfl | hu
    · exact hy
    · rw [List.mem_singleton.1 hu]; exact hz
  refine JT.at (T := fun Q E s => wpAny am.M A (eval v cx.env) (fun ov s₁ => (s₁.TypeIs ov "dict" ∧ (∀ a, ov = .ref a → ∃ ob, s₁.heap.get? a = some ob ∧ ob.dict = none)) ∧ wpAny am.M A (eval y cx.env) (fun w s₂ => wpAny am.M A (eval z cx.env) (fun u s₃ => wpAny am.M A (PySem.call (.builtin "dict.setdefault") [ov, w, u]) Q E s₃) E s₂) E s₁) E s)
    (JT.bind (fun _ => PT.and (PT.seq _ _ fun _ => PT.seq _ _ fun _ => PT.wp _ _)) (ho B st) fun x u H1 π1 s1 _ hs1 hr1 hv1 => ?_) fun Q E h => ?_
  · split
    · rename_i hc
      obtain ⟨i, l, es, rfl, rfl, hi, hH⟩ := dcell_at hv1 hc
      obtain ⟨o, arr, ep, ks, D⟩ := (hr1.cell i _ l hH hi).dict
      have J : JT (am.at res) cx.stack (fun Q E s => wpAny am.M A (eval y cx.env) (fun w s₂ => wpAny am.M A (eval z cx.env) (fun u s₃ => wpAny am.M A (PySem.call (.builtin "dict.setdefault") [.ref l, w, u]) Q E s₃) E s₂) E s) ((evE q F ρ k H1).bind fun y h => (evE q F ρ d h).bind fun z h => setDef h (.ref i) y z) (VR (am.at res)) π1 s1 :=
        JT.bind (fun _ => PT.seq _ _ fun _ => PT.wp _ _) (hk B (st.step hs1 hr1)) fun w u H2 π2 s2 _ hs2 hr2 hv2 =>
          JT.bind (fun _ => PT.wp _ _) (hd B ((st.step hs1 hr1).step hs2 hr2)) fun w' u' H3 π3 s3 _ hs3 hr3 hv3 => by
            cases hc3 : dcell H3 (.ref i) with
            | true => exact JAt.pt (op_setDef B.as hr3 ((hv1.step hs2).step hs3) (hv2.step hs3) hv3 hc3)
            | false =>
              refine .inl ?_
              simp only [dcell] at hc3
              unfold setDef onDict
              cases hq : H3[i]? with
              | none => simp only [hq]
              | some cc => cases cc with
                | list vs => simp only [hq]
                | dict es => rw [hq] at hc3; cases hc3
      exact J.rule fun Q E h => ⟨⟨D.typeIs, fun a e => by cases e; exact ⟨_, D.ho, D.dict⟩⟩, h⟩
    · exact .inl rfl
  · refine wpAny_Call_method (T := "dict") (id := "dict.setdefault") (base_of hb) (by rw [starEach_plain _ hst]; rfl) hl PySem.F.plainAttrs_dict PySem.F.slot_dict_setdefault PySem.F.type_dict_setdefault (wpAny_mono h (fun ov s₁ h₁ => ⟨h₁.1.1, h₁.1.2, ?_⟩) fun _ _ x => x)
    rw [starEach_plain _ hst]
    exact Calls.callWith_builtin rfl (Calls.evalArgs_plain (spl2 h₁.2))
end
end Mine

namespace Mine
open PySem PySem.W PyProof.Rows

/-- l.pop(i) -/
noncomputable def popG (Hc : H) (a b : V) : R V := match b with
  | .int k => onList Hc a fun vs => (place vs.length k).bind fun j => (vs[j]?).map fun v => (v, vs.eraseIdx j)
  | _ => .bad
theorem seqIndex_of {n : Nat} {k : Int} {j : Nat} (h : place n k = some j) : seqIndex? k n = some j := by
  unfold place at h
  unfold seqIndex?
  by_cases h0 : 0 ≤ k
  · rw [if_pos h0] at h
    by_cases h1 : k < n
    · rw [if_pos h1] at h
      simp only [if_neg (Int.not_lt.2 h0)]
      rw [if_pos (by rw [Bool.and_eq_true]; exact ⟨decide_eq_true h0, decide_eq_true h1⟩)]; exact h
    · rw [if_neg h1] at h; cases h
  · rw [if_neg h0] at h
    have hk := Int.not_le.1 h0
    by_cases h1 : 0 ≤ k + n
    · rw [if_pos h1] at h
      simp only [if_pos hk]
      rw [if_pos (by rw [Bool.and_eq_true]; exact ⟨decide_eq_true h1, decide_eq_true (Int.lt_of_lt_of_le (Int.add_lt_add_right hk _) (Int.le_of_eq (Int.zero_add _)))⟩)]; exact h
    · rw [if_neg h1] at h; cases h
section
variable {am : Amb} {stack : List Env} {A : Around} {π : List Addr} {s : Shared} {Hc : H}

theorem op_popAt {a b : V} {x y : Value} (hr : HR am stack π Hc s.heap) (ha : VR am π s.heap a x) (hb : VR am π s.heap b y) : JAt am stack A (PySem.call (.builtin "list.pop") [x, y]) (popG Hc a b) (VR am) π s := by
  unfold popG
  cases b with
  | int k =>
    simp only
    cases hc : lcell Hc a with
    | false => exact .inl (onList_lcell hc)
    | true =>
      obtain ⟨i, l, vs, xs, rfl, rfl, hi, hH, pl, hz, hv⟩ := lcell_at hr ha hc
      simp only [onList, hH]
      simp only [VR] at hb
      obtain ⟨t, rfl⟩ := hb
      cases hj : place vs.length k with
      | none => exact .inl (by simp)
      | some j =>
        cases hw : vs[j]? with
        | none => exact .inl (by simp [hw])
        | some v =>
          obtain ⟨w, hx, hvw⟩ := hv.get j v hw
          have le : (vs.eraseIdx j).length ≤ 1000000 := Nat.le_trans (List.length_eraseIdx_le ..) hz
          simp only [Option.bind_some, hw, Option.map_some, if_pos le]
          obtain ⟨o, n, ho, hcl, hdi, hd⟩ := id pl
          have hlen := hv.len
          refine .inr (wpAny_call_entry PySem.F.slot_list_pop pl.is.typeIs PySem.F.entry_list_pop ?_ (PySem.F.args_list_pop_2 _ _))
          unfold Builtin.«list.pop»
          refine wpAny_bind ?_
          show wpAny _ _ (pure (Value.ref l, [Value.int k t])) _ _ s
          refine wpAny_pure ?_
          show wpAny _ _ (asIndex (.int k t) >>= _) _ _ s
          refine wpAny_bind (wpAny_of_eq (a := k) rfl ?_)
          have pb := place_lt hj
          show wpAny _ _ (if (!Builtin.List.listFitsIndex k) = true then _ else _) _ _ s
          rw [if_neg (by simp [Builtin.List.listFitsIndex]; omega)]
          show wpAny _ _ (Builtin.List.listItems (.ref l) >>= _) _ _ s
          refine wpAny_bind (wpAny_listItems ho hd ?_)
          have ne : xs ≠ [] := fun q => by subst q; simp at hx
          show wpAny _ _ (if (List.toArray xs).isEmpty = true then _ else _) _ _ s
          rw [if_neg (by simpa using ne)]
          have ei : ((seqIndex? k (List.toArray xs).size).bind fun k => Option.map (fun x => (k, x)) (List.toArray xs)[k]?) = some (j, w) := by
            rw [show (List.toArray xs).size = vs.length by simpa using hlen, seqIndex_of hj]
            simp [hx]
          show wpAny _ _ (match ((seqIndex? k (List.toArray xs).size).bind fun k => Option.map (fun x => (k, x)) (List.toArray xs)[k]?) with | some (k, x) => _ | none => _) _ _ s
          rw [ei]
          show wpAny _ _ (updateSeq l (·.eraseIdxIfInBounds j) >>= fun _ => ret w) _ _ s
          refine wpAny_bind ?_
          refine wpAny_updateSeq ho hd (wpAny_pure ⟨w, rfl, ?_⟩) (hz := by simp only [List.size_toArray]; have := mil_le_line; omega) (_hz' := by exact Nat.le_trans (size_eraseIdxIfInBounds_le _ _) (by simp only [List.size_toArray]; have := mil_le_line; omega))
          have pl' := pl.update (·.eraseIdxIfInBounds j)
          have hp := HR.put (tk := s.toks) hr hi le (xs := xs.eraseIdx j) (h' := s.heap.update l (Obj.mapSeq (·.eraseIdxIfInBounds j))) (fun b o h1 h2 => (Heap.SameBut.update ..).extBut b o h1 h2) (by simpa using pl') (hv.eraseIdx j)
          exact ⟨v, _, π, rfl, hp.1, hp.2, hvw.step hp.1⟩
  | _ => exact .inl rfl
end

section
variable {am : Amb} {n : Nat} {q : Bool} {F : Fn} {c : Ck}
theorem ej_popAt {o a : PE} {v y : Expr} {p p' : Pos} (hb : okBase v = true) (hl : (p.endLine == p'.line) = true) (hy : isStar y = false) (ho : EJ am n q F c o v) (ha : EJ am n q F c a y) :
    EJ am n q F c (.popAt o a) (.Call (.Attribute v "pop" p) [y] [] p') :=
  ej_method1 (id := "list.pop") (g := fun x y h => popG h x y) hb hl hy PySem.F.slot_list_pop PySem.F.type_list_pop ho ha (fun ρ Hc => by rw [qE_35]; rfl) fun _ hr h1 h2 => op_popAt hr h1 h2
end
end Mine

namespace Mine
open PySem PySem.W PyProof.Rows

/-- an iterator at its start -/
noncomputable def ItR (am : Amb) (stack : List Env) (A : Around) (h₀ : Heap) (π : List Addr) (h : Heap) (b : List V × Watch) (x : Value) : Prop :=
  ∃ I, x = .ref I ∧ h₀.get? I = none ∧ am.B.get? I = none ∧ (∃ Sx, Iter am stack A I b.2 b.1 Sx ∧ Sx 0 π h) ∧
    ∀ R h', (∀ a ∈ R, a ∈ am.res ∨ h.get? a = none) → (∀ b o, h.get? b = some o → h'.get? b = some o) → ∃ Sx, Iter (am.at R) stack A I b.2 b.1 Sx ∧ Sx 0 π h'

section
variable {am : Amb} {stack : List Env} {A : Around} {π : List Addr} {s : Shared} {Hc : H}

theorem base_none (hr : HR am stack π Hc s.heap) {a : Addr} (h : s.heap.get? a = none) : am.B.get? a = none := none_of_stays hr.base h

theorem ne_of_none {h : Heap} {a b : Addr} {o : Obj} (h1 : h.get? a = none) (h2 : h.get? b = some o) : b ≠ a := fun q => by subst q; rw [h1] at h2; cases h2

theorem not_R {am : Amb} {R : List Addr} {h : Heap} {a : Addr} {o : Obj} (hR : ∀ a ∈ R, a ∈ am.res ∨ h.get? a = none) (ho : h.get? a = some o) (ha : a ∉ am.res) : a ∉ R := fun q => by
  rcases hR a q with z | z
  · exact ha z
  · rw [ho] at z; cases z
theorem via_R {am : Amb} {R π : List Addr} {h : Heap} (hR : ∀ a ∈ R, a ∈ am.res ∨ h.get? a = none) : Via am (am.at R) π π h h := ⟨fun a o ho _ h1 h2 => ⟨⟨o.slots, ho⟩, h1, not_R hR ho h2⟩, fun _ _ e => e⟩

theorem op_iter {a : V} {x : Value} (hh : A.handled = none) (hr : HR am stack π Hc s.heap) (ha : VR am π s.heap a x) :
    JAt am stack A (pyIter x) (R.opt (iterOf Hc a) Hc) (ItR am stack A s.heap) π s := by
  have hI := size_none s.heap
  cases a with
  | lst vs =>
    simp only [VR] at ha
    refine hold fun _ k_ => ?_
    obtain ⟨l, xs, rfl, hl, h1, hz, hv⟩ := ha
    refine k_ ?_
    refine .inr (wpAny_pyIter_list h1 ?_)
    have k : ∀ b o, s.heap.get? b = some o → (s.heap.push { cls := .type "list_iterator", data := .fields #[.ref l, .int 0 0] }).get? b = some o := fun b o q => Heap.get?_push_of_some _ q
    have hp : (s.heap.push { cls := .type "list_iterator", data := .fields #[.ref l, .int 0 0] }).get? s.heap.objs.size = some _ := Heap.get?_push_size _ rfl
    obtain ⟨o, ho, r⟩ := id h1
    refine OkP.keeps (tk := s.toks) hr k ⟨_, rfl, hI, base_none hr hI, ⟨_, Iter.lst hh (l := l), ⟨fresh_pi hr hI, fresh_fs hr hI, ⟨_, hp, rfl, rfl⟩, ⟨hl.1, fresh_res hr hI, hl.2⟩, xs, h1.push _, hv.keeps k⟩⟩, fun R h' hR kk =>
      ⟨_, Iter.lst hh (l := l), ⟨fresh_pi hr hI, fresh_fs hr hI, ⟨_, kk _ _ hp, rfl, rfl⟩, ⟨hl.1, not_R hR hp (fresh_res hr hI), not_R hR (k _ _ ho) hl.2⟩, xs, ⟨o, kk _ _ (k _ _ ho), r⟩, ((hv.keeps k).via (via_R hR)).keeps kk⟩⟩⟩
  | tup vs =>
    simp only [VR] at ha
    refine hold fun _ k_ => ?_
    obtain ⟨l, xs, rfl, hl, h1, hz, hv⟩ := ha
    refine k_ ?_
    refine .inr (wpAny_pyIter_tuple h1 ?_)
    have k : ∀ b o, s.heap.get? b = some o → (s.heap.push { cls := .type "tuple_iterator", data := .fields #[.ref l, .int 0 0] }).get? b = some o := fun b o q => Heap.get?_push_of_some _ q
    have hp : (s.heap.push { cls := .type "tuple_iterator", data := .fields #[.ref l, .int 0 0] }).get? s.heap.objs.size = some _ := Heap.get?_push_size _ rfl
    obtain ⟨o, ho, r⟩ := h1
    refine OkP.keeps (tk := s.toks) hr k ⟨_, rfl, hI, base_none hr hI, ⟨_, Iter.tup hh (l := l), ⟨fresh_pi hr hI, fresh_fs hr hI, ⟨_, hp, rfl, rfl⟩, ⟨hl.1, fresh_res hr hI, hl.2⟩, xs, ⟨o, k _ _ ho, r⟩, hv.keeps k⟩⟩, fun R h' hR kk =>
      ⟨_, Iter.tup hh (l := l), ⟨fresh_pi hr hI, fresh_fs hr hI, ⟨_, kk _ _ hp, rfl, rfl⟩, ⟨hl.1, not_R hR hp (fresh_res hr hI), not_R hR (k _ _ ho) hl.2⟩, xs, ⟨o, kk _ _ (k _ _ ho), r⟩, ((hv.keeps k).via (via_R hR)).keeps kk⟩⟩⟩
  | ref i =>
    simp only [VR] at ha
    obtain ⟨l, rfl, hi⟩ := ha
    simp only [iterOf]
    cases hH : Hc[i]? with
    | none => exact .inl rfl
    | some cc =>
      have hc := hr.cell i cc l hH hi
      cases cc with
      | dict es => exact .inl rfl
      | list vs =>
        refine hold fun _ k_ => ?_
        obtain ⟨xs, h1, hz, hv⟩ := hc.list
        refine k_ ?_
        refine .inr (wpAny_pyIter_list h1.is ?_)
        have k : ∀ b o, s.heap.get? b = some o → (s.heap.push { cls := .type "list_iterator", data := .fields #[.ref l, .int 0 0] }).get? b = some o := fun b o q => Heap.get?_push_of_some _ q
        have hp : (s.heap.push { cls := .type "list_iterator", data := .fields #[.ref l, .int 0 0] }).get? s.heap.objs.size = some _ := Heap.get?_push_size _ rfl
        refine OkP.keeps (tk := s.toks) hr k ⟨_, rfl, hI, base_none hr hI, ⟨_, Iter.cell hh, ⟨fresh_pi hr hI, ⟨fresh_fs hr hI, fresh_res hr hI⟩, l, hi, ⟨_, hp, rfl, rfl⟩⟩⟩, fun R h' hR kk =>
          ⟨_, Iter.cell hh, ⟨fresh_pi hr hI, ⟨fresh_fs hr hI, not_R hR hp (fresh_res hr hI)⟩, l, hi, ⟨_, kk _ _ hp, rfl, rfl⟩⟩⟩⟩
  | _ => exact .inl rfl

theorem upto_eq (n : Int) : upto n = (List.range n.toNat).map fun (i : Nat) => V.int (0 + (i : Int) * 1) := by
  unfold upto; congr 1; funext i; congr 1; omega

theorem range_at {a c : Int} {k : Nat} (hh : A.handled = none) (hr : HR am stack π Hc s.heap) {o : Obj} (ho : o = { cls := .type "range_iterator", data := .fields #[rawInt a, rawInt (k : Int), rawInt c] }) {tk : Nat} :
    OkP am stack (ItR am stack A s.heap) π s (.ok ((List.range k).map (fun (i : Nat) => V.int (a + (i : Int) * c)), none) Hc) (.ref s.heap.objs.size) { s with heap := s.heap.push o, toks := tk } := by
  have hI := size_none s.heap
  subst ho
  have e1 : (a + ((0 : Nat) : Int) * c) = a := by simp
  have e2 : ((k : Int) - ((0 : Nat) : Int)) = (k : Int) := by simp
  have hp : (s.heap.push { cls := .type "range_iterator", data := .fields #[rawInt a, rawInt (k : Int), rawInt c] }).get? s.heap.objs.size = some { cls := .type "range_iterator", data := .fields #[rawInt (a + ((0 : Nat) : Int) * c), rawInt ((k : Int) - ((0 : Nat) : Int)), rawInt c] } := by
    rw [e1, e2]; exact Heap.get?_push_size _ rfl
  exact OkP.keeps hr (fun b o q => Heap.get?_push_of_some _ q) ⟨_, rfl, hI, base_none hr hI, ⟨_, Iter.range hh a c k, ⟨fresh_pi hr hI, ⟨fresh_fs hr hI, fresh_res hr hI⟩, hp⟩⟩, fun R h' hR kk =>
    ⟨_, Iter.range hh a c k, ⟨fresh_pi hr hI, ⟨fresh_fs hr hI, not_R hR hp (fresh_res hr hI)⟩, kk _ _ hp⟩⟩⟩

theorem ItR.less {h₀ h₁ : Heap} (k : ∀ b o, h₀.get? b = some o → ∃ o', h₁.get? b = some o') {h : Heap} {b : List V × Watch} {x : Value} (e : ItR am stack A h₁ π h b x) : ItR am stack A h₀ π h b x := by
  refine hold fun _ k_ => ?_
  obtain ⟨I, h1, h2, r⟩ := e
  refine k_ ?_
  refine ⟨I, h1, ?_, r⟩
  cases hq : h₀.get? I with
  | none => rfl
  | some o => obtain ⟨o', h6⟩ := k I o hq; rw [h2] at h6; cases h6
theorem OkP.itLess {h₀ h₁ : Heap} (k : ∀ b o, h₀.get? b = some o → ∃ o', h₁.get? b = some o') {r : R (List V × Watch)} {x : Value} {s' : Shared} (e : OkP am stack (ItR am stack A h₁) π s r x s') : OkP am stack (ItR am stack A h₀) π s r x s' := by
  refine hold fun _ k_ => ?_
  obtain ⟨b, H', π', h1, h2, h3, h4⟩ := e
  refine k_ ?_
  exact ⟨b, H', π', h1, h2, h3, h4.less k⟩

theorem wp_range1 {k : Int} {t : Tok} (hh : A.handled = none) (hr : HR am stack π Hc s.heap) (hk : -1000000 ≤ k ∧ k ≤ 1000000) {E : Value → Shared → Prop} :
    wpAny am.M A (PySem.call (.type "range") [.int k t]) (fun x s₁ => wpAny am.M A (pyIter x) (OkP am stack (ItR am stack A s.heap) π s (.ok (upto k, none) Hc)) E s₁) E s := by
  refine call_range_1 ?_
  refine wpAny_pyIter_range (IsRange.new ..) (small_one (by decide) (by decide) (by omega) (by omega)) ?_
  have hsz : Builtin.Range.rangeSize 0 k 1 = (k.toNat : Int) := by rw [rangeSize_one]; split <;> omega
  rw [upto_eq]
  have k1 : ∀ b o, s.heap.get? b = some o → (s.heap.push { cls := .type "range", data := .fields #[.int 0 s.toks, .int k t, .int 1 (s.toks + 1)] }).get? b = some o := fun b o q => Heap.get?_push_of_some _ q
  refine OkP.step (Step.keeps (tk := s.toks + 1 + 1) k1) (OkP.itLess (fun b o q => ⟨o, k1 b o q⟩) (range_at (s := { s with heap := s.heap.push { cls := .type "range", data := .fields #[.int 0 s.toks, .int k t, .int 1 (s.toks + 1)] }, toks := s.toks + 1 + 1 }) (tk := s.toks + 1 + 1) hh (hr.keeps k1) ?_))
  rw [hsz]
end

section
variable {am : Amb} {n : Nat} {F : Fn} {c : Ck}

noncomputable def ItJ (am : Amb) (n : Nat) (F : Fn) (c : Ck) (it : PIt) (x : Expr) : Prop := ∀ {cx : Cx} {ρ : List V} {A : Around} {res π : List Addr} {Hc : H} {s : Shared}, Base am n true F c cx ρ A → St (am.at res) true cx ρ π Hc A s →
  JT (am.at res) cx.stack (fun Q E s => wpAny am.M A (eval x cx.env) (fun xv s₁ => wpAny am.M A (pyIter xv) Q E s₁) E s) (evIt true F ρ it Hc) (ItR (am.at res) cx.stack A s.heap) π s

theorem it_seq {e : PE} {x : Expr} (h : EJ am n true F c e x) : ItJ am n F c (.seq e) x := fun {cx ρ A res π Hc s} B st => by
  simp only [qI_1, qI_2, qI_3, qI_4, qI_5]
  exact JT.bind (fun _ => PT.wp _ _) (h B st) fun y v H1 π1 s1 _ hs1 hr1 hv1 => JAt.pt ((op_iter (Hd.quiet st.hd) hr1 hv1).mono fun _ _ _ _ e => e.less hs1.ext.alive)

theorem it_range1 {e : PE} {y : Expr} {p p' : Pos} (hx : c.glob "range" = true) (hy : isStar y = false) (h : EJ am n true F c e y) : ItJ am n F c (.range1 e) (.Call (.Name "range" p) [y] [] p') := fun {cx ρ A res π Hc s} B st => by
  simp only [qI_1, qI_2, qI_3, qI_4, qI_5]
  refine JT.rule (T := fun Q E s => wpAny am.M A (eval y cx.env) (fun v s₁ => wpAny am.M A (PySem.call (.type "range") [v]) (fun xv s₂ => wpAny am.M A (pyIter xv) Q E s₂) E s₁) E s)
    (JT.bind (fun _ => PT.seq _ _ fun _ => PT.wp _ _) (h B st) fun z v H1 π1 s1 _ hs1 hr1 hv1 => ?_) fun Q E h => wp_call_bt B st.hr hx (bt_mem (by kernel_rfl)) (by simpa using hy) (spl1 h)
  cases v with
  | int k =>
    simp only [VR] at hv1
    obtain ⟨t, rfl⟩ := hv1
    dsimp only
    split
    · rename_i hk; exact .inr (wpAny_mono (wp_range1 (Hd.quiet st.hd) hr1 hk) (fun _ _ h => wpAny_mono h (fun _ _ h => h.itLess hs1.ext.alive) fun _ _ h => h) fun _ _ h => h)
    · exact .inl rfl
  | _ => exact .inl rfl

end

end Mine

namespace Mine
open PySem PySem.W PyProof.Rows

theorem relab_lookup (outer : List (Str × NameKind)) : ∀ (names : List (Str × NameKind)) (y : Str), (relab outer names).lookup y = (names.lookup y).map fun k => if (k == .free && outer.lookup y == some .cell) = true then .cell else k
  | [], y => rfl
  | (n, k) :: r, y => by
    have ih := relab_lookup outer r y
    unfold relab at ih ⊢
    rw [List.map_cons]
    show List.lookup y ((if (k == NameKind.free && outer.lookup n == some .cell) = true then (n, NameKind.cell) else (n, k)) :: _) = _
    by_cases hy : y = n
    · subst hy
      by_cases hc : (k == .free && outer.lookup y == some .cell) = true
      · rw [if_pos hc]; simp only [List.lookup_cons, beq_self_eq_true, Option.map_some]; rw [if_pos hc]
      · rw [if_neg hc]; simp only [List.lookup_cons, beq_self_eq_true, Option.map_some]; rw [if_neg hc]
    · have hb : (y == n) = false := beq_eq_false_iff_ne.mpr hy
      by_cases hc : (k == .free && outer.lookup n == some .cell) = true
      · rw [if_pos hc]; simp only [List.lookup_cons, hb]; exact ih
      · rw [if_neg hc]; simp only [List.lookup_cons, hb]; exact ih

theorem lookup_mem {α β : Type} [BEq α] [LawfulBEq α] : ∀ {l : List (α × β)} {x : α} {v : β}, l.lookup x = some v → (x, v) ∈ l
  | [], _, _, h => by simp at h
  | (a, b) :: l, x, v, h => by
    rw [List.lookup_cons] at h
    cases hx : x == a with
    | true => rw [hx] at h; cases h; rw [eq_of_beq hx]; exact List.mem_cons_self
    | false => rw [hx] at h; exact List.mem_cons_of_mem _ (lookup_mem h)

theorem relabel_names {scope : Scope} {env : Env} (hk : env.scope.kind = .function) : (relabel scope env).names = relab env.scope.names scope.names := by
  unfold relabel relab
  simp only
  congr 1
  funext p
  obtain ⟨n, k⟩ := p
  simp only [hk, Env.kindOf, beq_self_eq_true, Bool.and_true]

/-- the closure of a comprehension's block -/
theorem closure_of {env : Env} : ∀ (names : List (Str × NameKind)) (acc : List (Str × Addr)), (∀ p ∈ names, p.2 = .free → ∃ c, env.cells.lookup p.1 = some c) → (∀ y c, acc.lookup y = some c → env.cells.lookup y = some c) →
    ∃ cl, (forIn names acc fun (p : Str × NameKind) (cs : List (Str × Addr)) => (if p.2 == .free then do let c ← cellOf env p.1; pure (ForInStep.yield ((p.1, c) :: cs)) else pure (ForInStep.yield cs) : Sem (ForInStep (List (Str × Addr))))) = (pure cl : Sem (List (Str × Addr))) ∧
      (∀ y c, cl.lookup y = some c → env.cells.lookup y = some c) ∧ (∀ p ∈ names, p.2 = .free → ∃ c, cl.lookup p.1 = some c) ∧ (∀ y c, acc.lookup y = some c → ∃ c', cl.lookup y = some c')
  | [], acc, _, h2 => ⟨acc, rfl, h2, by simp, fun y c h => ⟨c, h⟩⟩
  | p :: names, acc, h1, h2 => by
    rw [List.forIn_cons]
    by_cases hp : p.2 = .free
    · obtain ⟨c, hc⟩ := h1 p List.mem_cons_self hp
      have hcell : cellOf env p.1 = pure c := by unfold cellOf; rw [hc]
      have hb : (p.2 == NameKind.free) = true := by simp [hp]
      simp only [hb, if_true, hcell, pure_bind]
      obtain ⟨cl, e1, e2, e3, e4⟩ := closure_of names ((p.1, c) :: acc) (fun q hq => h1 q (List.mem_cons_of_mem _ hq)) (fun y c' h => by
        rw [List.lookup_cons] at h
        cases hx : y == p.1 with
        | true => rw [hx] at h; cases h; rw [eq_of_beq hx]; exact hc
        | false => rw [hx] at h; exact h2 y c' h)
      refine ⟨cl, e1, e2, fun q hq hqf => ?_, fun y c' h => ?_⟩
      · rcases List.mem_cons.mp hq with rfl | hq
        · exact e4 q.1 c (by simp [List.lookup_cons])
        · exact e3 q hq hqf
      · cases hx : y == p.1 with
        | true => exact e4 y c (by rw [List.lookup_cons, hx])
        | false => exact e4 y c' (by rw [List.lookup_cons, hx]; exact h)
    · have hb : (p.2 == NameKind.free) = false := by simpa using hp
      simp only [hb, Bool.false_eq_true, if_false, pure_bind]
      refine hold fun _ k_ => ?_
      obtain ⟨cl, e1, e2, e3, e4⟩ := closure_of names acc (fun q hq => h1 q (List.mem_cons_of_mem _ hq)) h2
      refine k_ ?_
      refine ⟨cl, e1, e2, fun q hq hqf => ?_, e4⟩
      rcases List.mem_cons.mp hq with rfl | hq
      · exact absurd hqf hp
      · exact e3 q hq hqf

theorem closure_for {scope : Scope} {env : Env} (h : ∀ p ∈ scope.names, p.2 = .free → ∃ c, env.cells.lookup p.1 = some c) :
    ∃ cl, closureFor scope env = pure cl ∧ (∀ y c, cl.lookup y = some c → env.cells.lookup y = some c) ∧ ∀ p ∈ scope.names, p.2 = .free → ∃ c, cl.lookup p.1 = some c := by
  refine hold fun _ k_ => ?_
  obtain ⟨cl, e1, e2, e3, _⟩ := closure_of scope.names [] h (by simp)
  refine k_ ?_
  refine ⟨cl, ?_, e2, e3⟩
  exact (congrArg (fun t : Sem (List (Str × Addr)) => t >>= fun cs => pure cs) e1).trans (pure_bind _ _)

section
variable {am : Amb} {π : List Addr} {h : Heap}

theorem ExcAt.held {c : String} {a l : Addr} (e : ExcAt am h c a) : ExcAt (am.hold l) h c a := e
theorem SR.held {v : V} {x : Value} {l : Addr} (hl : h.get? l = none) (e : SR am π h v x) : SR (am.hold l) π h v x := by
  rcases e with e | ⟨c, a, h1, h2, h3, h4⟩
  · exact .inl (e.held hl)
  · exact .inr ⟨c, a, h1, h2, h3, h4⟩
theorem ER.held {cx : Cx} {ρ : List V} {l : Addr} (hl : h.get? l = none) (e : ER am cx ρ π h) : ER (am.hold l) cx ρ π h :=
  ⟨e.ns, e.locOff, e.cellOff, e.apart, fun x i v h1 h2 h3 h4 => let ⟨v', h5, h6⟩ := e.var x i v h1 h2 h3 h4; ⟨v', h5, h6.held hl⟩⟩

/-- a reserved thing has changed -/
theorem HR.freed {stack : List Env} {Hc : H} {h' : Heap} {C : Addr} (hr : HR am stack π Hc h) (hC : C ∈ am.res) (hB : am.B.get? C = none) (hπ : C ∉ π) (p : Poke C h h') (ho : ∃ o, h'.get? C = some o ∧ ∀ us, o.data ≠ .fields us) : HR am stack π Hc h' := by
  refine ⟨fun b o e => p b o (fun q => by subst q; rw [hB] at e; cases e) (hr.base b o e), funFrames_but (fun b o h1 h2 => p b o h1 h2) ho hr.frames, hr.len, hr.nodup, fun a ha => ?_, hr.off, fun i c a h1 h2 => ?_⟩
  · by_cases hq : a = C
    · subst hq; exact ho
    · obtain ⟨o, h1, h2⟩ := hr.res a ha
      exact ⟨o, p a o hq h1, h2⟩
  · have hne : a ≠ C := fun q => hπ (q ▸ mem_of_get h2)
    obtain ⟨o, xs, e0, e1, e2, e3⟩ := hr.cell i c a h1 h2
    exact ⟨o, xs, p _ _ hne e0, e1, e2, e3.free fun b o hb e => p b o (fun q => hb (q ▸ hC)) e⟩

/-- a reserved thing has changed, and is reserved no more -/
theorem HR.out {stack : List Env} {Hc : H} {h' : Heap} {C : Addr} (hr : HR (am.hold C) stack π Hc h) (hC : C ∉ am.res) (hB : am.B.get? C = none) (hπ : C ∉ π) (hF : C ∉ Fs stack) (p : Poke C h h') : HR am stack π Hc h' := by
  have fr : ∀ {st : List Env}, h.FunFrames am.B st → (∀ a ∈ Fs st, a ≠ C) → h'.FunFrames am.B st := by
    intro st
    induction st with
    | nil => intro _ _; trivial
    | cons e st ih =>
      rintro ⟨h1, ⟨L, o, h2, h3, h4, h5⟩, h6⟩ hn
      refine ⟨h1, ⟨L, o, h2, h3, p L o (hn L ?_) h4, h5⟩, ih h6 fun a ha => hn a ?_⟩
      · simp [h2]
      · simp only [Fs, List.filterMap_cons, h2, List.mem_cons]; exact .inr ha
  refine ⟨fun b o e => p b o (fun q => by subst q; have e' : am.B.get? b = some o := e; rw [hB] at e'; cases e') (hr.base b o e), fr hr.frames (fun a ha q => hF (q ▸ ha)), hr.len, hr.nodup, fun a ha => ?_, hr.off, fun i c a h1 h2 => ?_⟩
  · obtain ⟨o, h1, h2⟩ := hr.res a (List.mem_cons_of_mem _ ha)
    exact ⟨o, p a o (fun q => hC (q ▸ ha)) h1, h2⟩
  · have hne : a ≠ C := fun q => hπ (q ▸ mem_of_get h2)
    obtain ⟨o, xs, e0, e1, e2, e3⟩ := hr.cell i c a h1 h2
    exact ⟨o, xs, p _ _ hne e0, e1, e2, (e3.free fun b o hb e => p b o (fun q => hb (q ▸ List.mem_cons_self)) e).reserve.2⟩

theorem PL.at {l : Addr} {xs : List Value} {h' : Heap} (pl : PL h l xs) (k : ∀ o, h.get? l = some o → h'.get? l = some o) : PL h' l xs := let ⟨o, n, ho, r⟩ := pl; ⟨o, n, k o ho, r⟩
theorem Ns.at {l : Addr} {m : Str → Option Value} {h' : Heap} (hn : h.Ns l m) (k : ∀ o, h.get? l = some o → h'.get? l = some o) : h'.Ns l m := let ⟨o, es, ep, ho, r⟩ := hn; ⟨o, es, ep, k o ho, r⟩
theorem Ns.nf {l : Addr} {m : Str → Option Value} (hn : h.Ns l m) : ∃ o, h.get? l = some o ∧ ∀ us, o.data ≠ .fields us := let ⟨o, es, ep, ho, hd, _⟩ := hn; ⟨o, ho, fun us q => by rw [hd] at q; cases q⟩
theorem PL.nf {l : Addr} {xs : List Value} (pl : PL h l xs) : ∃ o, h.get? l = some o ∧ ∀ us, o.data ≠ .fields us := let ⟨o, n, ho, _, _, hd⟩ := pl; ⟨o, ho, fun us q => by rw [hd] at q; cases q⟩

/-- the names of a comprehension's block -/
theorem er_comp {c : Ck} {cx : Cx} {ρ : List V} {x : Str} {i : Nat} {scope : Scope} {cl : List (Str × Addr)} {C : Addr} {m : Str → Option Value} {v : V} {v' : Value} (e : ER am cx ρ π h) (hkf : cx.env.scope.kind = .function) (hnames : cx.env.scope.names = c.names) (hctx : cx.ctx = c.ctx) (hs : scopeOk c x scope = true)
    (hi : c.ctx.all (fun p => p.2 != i) = true) (hcl1 : ∀ y d, cl.lookup y = some d → cx.env.cells.lookup y = some d) (hcl2 : ∀ p ∈ scope.names, p.2 = .free → ∃ d, cl.lookup p.1 = some d) (hC : C ∉ π) (hn : h.Ns C m) (hm : m x = some v') (hv : VR am π h v v') :
    ER am ⟨compEnvC scope cl C cx.env, cx.stack, (x, i) :: cx.ctx⟩ (ρ.set i v) π h := by
  unfold scopeOk at hs
  simp only [Bool.and_eq_true, List.all_eq_true, beq_iff_eq, Bool.not_eq_true', Bool.or_eq_true, bne_iff_ne, ne_eq] at hs
  refine hold fun _ k_ => ?_
  obtain ⟨⟨⟨⟨hk, hall⟩, hx⟩, hx0⟩, h0⟩ := hs
  refine k_ ?_
  refine ⟨⟨m, hn⟩, hC, fun y d hd => ?_, fun y z d h1 h2 => e.apart y z d (hcl1 _ _ h1) (hcl1 _ _ h2), fun y j w h1 h2 h3 h4 => ?_⟩
  · refine hold fun _ k_ => ?_
    obtain ⟨a1, _, u, a3⟩ := e.cellOff y d (hcl1 y d hd)
    refine k_ ?_
    refine ⟨a1, fun q => ?_, u, a3⟩
    have hq : d = C := q
    subst hq
    refine hold fun _ k_ => ?_
    obtain ⟨o, es, ep, ho, hd', _⟩ := hn
    refine k_ ?_
    obtain ⟨o2, ho2, hd2⟩ := a3
    rw [ho] at ho2; cases ho2; rw [hd'] at hd2; cases hd2
  · have hkind : ∀ y, Env.kindOf (compEnvC scope cl C cx.env) y = (scope.names.lookup y).map fun k => if (k == .free && c.names.lookup y == some .cell) = true then .cell else k := by
      intro y
      show (relabel scope cx.env).names.lookup y = _
      rw [relabel_names hkf, relab_lookup, hnames]
    by_cases hy : y = x
    · subst hy
      rw [List.lookup_cons] at h1
      simp only [beq_self_eq_true, Option.some.injEq] at h1
      subst h1
      have hlt : i < ρ.length := by have := (List.getElem?_eq_some_iff.mp h2).1; simpa using this
      rw [List.getElem?_set_self hlt] at h2
      cases h2
      exact ⟨v', .inl ⟨by rw [hkind, hx]; rfl, m, hn, hm⟩, .inl hv⟩
    · have hb : (y == x) = false := beq_eq_false_iff_ne.mpr hy
      have h1' : c.ctx.lookup y = some j := by rw [List.lookup_cons, hb] at h1; rw [← hctx]; exact h1
      have hj : j ≠ i := by
        have := lookup_mem h1'
        simp only [List.all_eq_true, bne_iff_ne, ne_eq] at hi
        exact hi _ this
      rw [List.getElem?_set_ne (Ne.symm hj)] at h2
      unfold Vis at h4
      simp only [hkind] at h4
      cases hl : scope.names.lookup y with
      | none => rw [hl] at h4; simp at h4
      | some k =>
        have hmem := lookup_mem hl
        have hp := hall _ hmem
        by_cases hkl : k = .local
        · subst hkl
          rcases hp.1.1 with q | q
          · exact absurd rfl q
          · rcases q.1 with q | q
            · exact absurd q hy
            · simp only at q; rw [q, h0] at h1'; cases h1'
        · by_cases hkf' : k = .free
          · subst hkf'
            obtain ⟨d, hd⟩ := hcl2 _ hmem rfl
            have hcell := hcl1 y d hd
            have hout : cx.env.kindOf y = some .cell ∨ cx.env.kindOf y = some .free := by
              unfold Env.kindOf; rw [hnames]
              rcases hp.1.2 with (q | q) | q
              · exact absurd rfl q
              · exact .inl q
              · exact .inr q
            obtain ⟨u, h5, h6⟩ := e.var y j w (by rw [hctx]; exact h1') h2 h3 (by unfold Vis; rcases hout with q | q; exact .inr (.inl q); exact .inr (.inr q))
            refine ⟨u, .inr ⟨?_, d, hd, ?_⟩, h6⟩
            · rw [hkind, hl]; simp only [Option.map_some]; split <;> simp
            · rcases h5 with ⟨q, _⟩ | ⟨_, d', h7, h8⟩
              · rcases hout with q' | q' <;> rw [q'] at q <;> cases q
              · rw [hcell] at h7; cases h7; exact h8
          · rw [hl] at h4
            have hkc : k ≠ .cell := hp.2
            have hb2 : (k == NameKind.free) = false := by simpa using hkf'
            simp only [Option.map_some, hb2, Bool.false_and, Bool.false_eq_true, if_false, Option.some.injEq] at h4
            rcases h4 with q | q | q
            · exact absurd q hkl
            · exact absurd q hkc
            · exact absurd q hkf'
end

end Mine

namespace Mine
open PySem PySem.W PyProof.Rows

/-- where a comprehension's loop ends -/
structure LoopEnd (am : Amb) (stack : List Env) (π : List Addr) (s : Shared) (rs : List V) (Hf : H) (D C : Addr) (s' : Shared) : Prop where
  freshD : s.heap.get? D = none
  freshC : s.heap.get? C = none
  ne : D ≠ C
  resD : D ∉ am.res
  resC : C ∉ am.res
  baseD : am.B.get? D = none
  baseC : am.B.get? C = none
  fsD : D ∉ Fs stack
  fsC : C ∉ Fs stack
  rest : ∃ π' xs m, Step (Fs stack) π s π' s' ∧ HR ((am.hold D).hold C) stack π' Hf s'.heap ∧ PL s'.heap D xs ∧ VRs ((am.hold D).hold C) π' s'.heap rs xs ∧ s'.heap.Ns C m ∧ D ∉ π' ∧ C ∉ π'

section
variable {am : Amb} {n : Nat} {F : Fn} {c : Ck}

/-- the conditions of a comprehension -/
noncomputable def CJ (am : Amb) (n : Nat) (F : Fn) (c : Ck) (cond : Option PE) (ifs : List Expr) : Prop := ∀ {cx : Cx} {ρ : List V} {A : Around} {res π : List Addr} {Hc : H} {s : Shared}, Base am n true F c cx ρ A → St (am.at res) true cx ρ π Hc A s →
  JAt (am.at res) cx.stack A (forIn ifs true fun c r => if r = true then do let ok ← isTrue c cx.env (eval c cx.env); pure (ForInStep.yield ok) else pure (ForInStep.yield r)) (tr (evC true F ρ cond Hc)) BR π s

theorem cj_none : CJ am n F c none [] := fun {cx ρ A res π Hc s} B st => by
  simp only [qC_1, qC_2]
  exact .inr (wpAny_tests_nil (OkP.here st.hr rfl))
theorem cj_some {e : PE} {x : Expr} (h : TJ am n true F c e x) : CJ am n F c (some e) [x] := fun {cx ρ A res π Hc s} B st => by
  simp only [qC_1, qC_2]
  exact (h B st).rule fun Q E h => wpAny_tests_one h

theorem noErr {am : Amb} {stack : List Env} {β : Type} {π : List Addr} {s : Shared} {b : β} {Hc : H} {x : Value} {s' : Shared} {P : Prop} (h : ErP am stack π s (.ok b Hc) x s') : P := by
  obtain ⟨_, _, _, _, _, _, h, _⟩ := h; cases h

theorem JAt.okAt {am : Amb} {stack : List Env} {A : Around} {α β : Type} {Rel : List Addr → Heap → β → α → Prop} {π : List Addr} {s : Shared} {m : Sem α} {r : R β} {b : β} {Hc : H} {Q : α → Shared → Prop} {E : Value → Shared → Prop} (h : JAt am stack A m r Rel π s) (hr : r = .ok b Hc)
    (k : ∀ a π' s', Step (Fs stack) π s π' s' → HR am stack π' Hc s'.heap → Rel π' s'.heap b a → Q a s') : wpAny am.M A m Q E s := by
  subst hr
  rcases h with h | h
  · cases h
  · refine wpAny_mono h (fun a s' h => ?_) fun e s' h => noErr h
    refine hold fun _ k_ => ?_
    obtain ⟨b', H', π', h1, h2, h3, h4⟩ := h
    refine k_ ?_
    cases h1
    exact k a π' s' h2 h3 h4


theorem ne_nf {h : Heap} {a I : Addr} {o : Obj} {us : Array Value} (h1 : ∃ o, h.get? a = some o ∧ ∀ us, o.data ≠ .fields us) (h2 : h.get? I = some o) (h3 : o.data = .fields us) : a ≠ I := fun q => by
  subst q
  obtain ⟨o', h4, h5⟩ := h1
  rw [h2] at h4; cases h4
  exact h5 us h3

theorem wp_append {am : Amb} {A : Around} {s : Shared} {l : Addr} {xs : List Value} {y : Value} {Q : Value → Shared → Prop} {E : Value → Shared → Prop} (pl : PL s.heap l xs) (hz : xs.length ≤ 1000000)
    (h : PL (s.heap.update l (Obj.mapSeq (·.push y))) l (xs ++ [y]) → Poke l s.heap (s.heap.update l (Obj.mapSeq (·.push y))) → Q .none { s with heap := s.heap.update l (Obj.mapSeq (·.push y)) }) :
    wpAny am.M A (PySem.call (.builtin "list.append") [.ref l, y]) Q E s := by
  refine hold fun _ k_ => ?_
  obtain ⟨o, n, ho, hcl, hdi, hd⟩ := id pl
  refine k_ ?_
  refine wpAny_call_entry slot_list_append pl.is.typeIs entry_list_append ?_ (args_list_append _ _)
  show wpAny _ _ (updateSeq l (·.push y) >>= fun _ => ret .none) _ _ s
  refine wpAny_bind ?_
  refine wpAny_updateSeq ho hd (wpAny_pure ⟨.none, rfl, ?_⟩) (hz := by simp only [List.size_toArray]; have := mil_le_line; omega)
  have pl' := pl.update (·.push y)
  exact h (by simpa using pl') fun b o h1 h2 => (Heap.SameBut.update ..).extBut b o h1 h2

theorem compL_nil_inv {w : Watch} {fe fc : V → H → R V} {h Hf : H} {ws : List V} (e : compL w fe fc [] h = .ok ws Hf) : w.ok h = true ∧ ws = [] ∧ h = Hf := by
  simp only [compL] at e
  split at e
  · cases e; exact ⟨by assumption, rfl, rfl⟩
  · cases e
theorem compL_cons_inv {w : Watch} {fe fc : V → H → R V} {v : V} {vs : List V} {h Hf : H} {ws : List V} (e : compL w fe fc (v :: vs) h = .ok ws Hf) :
    w.ok h = true ∧ ∃ tb h3, tr (fc v h) = .ok tb h3 ∧ (tb = false → compL w fe fc vs h3 = .ok ws Hf) ∧ (tb = true → ∃ x h4 ws', fe v h3 = .ok x h4 ∧ compL w fe fc vs h4 = .ok ws' Hf ∧ ws = x :: ws') := by
  simp only [compL] at e
  split at e
  · refine ⟨by assumption, ?_⟩
    cases hcd : fc v h with
    | bad => rw [hcd] at e; cases e
    | err _ _ => rw [hcd] at e; cases e
    | ok bv h3 =>
      rw [hcd] at e
      simp only [R.bind_ok] at e
      cases htb : truthy bv with
      | none => rw [htb] at e; cases e
      | some tb =>
        rw [htb] at e
        refine ⟨tb, h3, by simp [tr, htb], ?_⟩
        cases tb with
        | false => exact ⟨fun _ => e, fun q => absurd q (by simp)⟩
        | true =>
          refine ⟨fun q => absurd q (by simp), fun _ => ?_⟩
          dsimp only at e
          cases hel : fe v h3 with
          | bad => rw [hel] at e; cases e
          | err _ _ => rw [hel] at e; cases e
          | ok x h4 =>
            rw [hel] at e
            simp only [R.bind_ok] at e
            cases hrest : compL w fe fc vs h4 with
            | bad => rw [hrest] at e; cases e
            | err _ _ => rw [hrest] at e; cases e
            | ok ws' h5 => rw [hrest] at e; simp only [R.bind_ok] at e; cases e; exact ⟨x, h4, ws', rfl, hrest, rfl⟩
  · cases e

/-- where a comprehension's loop stands -/
inductive CompInv (am : Amb) (stack : List Env) (π : List Addr) (s : Shared) (Sx : Nat → List Addr → Heap → Prop) (D C : Addr) (wt : Watch) (fe fc : V → H → R V) (vs rs : List V) (Hf : H) (k : Nat) (s' : Shared) : Prop
  | mk (j : Nat) (π' : List Addr) (H' : H) (us : List V) (xsD : List Value) (m : Str → Option Value) (ws : List V) (e : k = vs.length + 1 - j) (hj : j ≤ vs.length) (hS : Step (Fs stack) π s π' s') (hR : HR am stack π' H' s'.heap) (hX : Sx j π' s'.heap) (hP : PL s'.heap D xsD) (hV : VRs am π' s'.heap us xsD) (hN : s'.heap.Ns C m) (hD : D ∉ π') (hC : C ∉ π') (hc : compL wt fe fc (vs.drop j) H' = .ok ws Hf) (hrs : us ++ ws = rs)

theorem comp_core {elt : PE} {i : Nat} {cond : Option PE} {e iter : Expr} {x : Str} {px pos : Pos} {ifs : List Expr} {scope : Scope} {cl : List (Str × Addr)} {cx : Cx} {ρ : List V} {A : Around} {res π π1 : List Addr} {Hc H1 Hf : H} {s s1 : Shared} {vs rs : List V} {wt : Watch} {itv : Value}
    {RR : Value → Addr → Result → Shared → Prop} {E : Value → Shared → Prop}
    (B : Base am n true F c cx ρ A) (st : St (am.at res) true cx ρ π Hc A s) (hs1 : Step (Fs cx.stack) π s π1 s1) (hr1 : HR (am.at res) cx.stack π1 H1 s1.heap) (hit : ItR (am.at res) cx.stack A s.heap π1 s1.heap (vs, wt) itv)
    (hsc : scopeOk c x scope = true) (hi : c.ctx.all (fun p => p.2 != i) = true) (helt : EJ am n true F (c.inner x i scope) elt e) (hcond : CJ am n F (c.inner x i scope) cond ifs)
    (hcl1 : ∀ y d, cl.lookup y = some d → cx.env.cells.lookup y = some d) (hcl2 : ∀ p ∈ scope.names, p.2 = .free → ∃ d, cl.lookup p.1 = some d)
    (hcomp : compL wt (fun v h => evE true F (ρ.set i v) elt h) (fun v h => evC true F (ρ.set i v) cond h) vs H1 = .ok rs Hf) (hlen : rs.length ≤ 1000000)
    (hRR : ∀ D C s', LoopEnd (am.at res) cx.stack π s rs Hf D C s' → RR (.ref D) C (.ok .next) s') :
    wpAny am.M A (newList []) (fun acc s₃ => wpAny am.M A (newFunctionEnv scope cx.env.globals cl [] cx.env.qual none .none (some cx.env)) (fun cenv s₄ =>
      codeAny am.M A (.compStart (.ListComp e [⟨.Name x px, iter, ifs, 0⟩] scope pos) 0 itv acc { cenv with scope := relabel scope cx.env }) (RR acc cenv.locals) s₄) E s₃) E s1 := by
  have hsc0 := hsc
  unfold scopeOk at hsc
  simp only [Bool.and_eq_true, List.all_eq_true, beq_iff_eq, Bool.not_eq_true', Bool.or_eq_true, bne_iff_ne, ne_eq] at hsc
  refine hold fun _ k_ => ?_
  obtain ⟨⟨⟨⟨hkind, hall⟩, hxl⟩, hx0⟩, h00⟩ := hsc
  refine k_ ?_
  refine hold fun _ k_ => ?_
  obtain ⟨I, rfl, hI0, hIB, _, hItD⟩ := hit
  refine k_ ?_
  have hcell : ∀ y ∈ scope.names, y.2 ≠ .cell := fun y hy => (hall y hy).2
  refine wpAny_newObj_type (wpAny_newFunctionEnv hcell (by intro y hy; simp at hy) (fun h₁ hns₁ hsb₁ => ?_) hkind)
  dsimp only at hns₁ hsb₁ ⊢
  generalize hH2 : s1.heap.push { cls := .type "list", dict := none, data := .seq ([] : List Value).toArray } = H2 at hns₁ hsb₁ ⊢
  generalize hD : s1.heap.objs.size = D at *
  generalize hC : H2.objs.size = C at *
  have hCD : C = D + 1 := by rw [← hC, ← hH2, Heap.size_push, hD]
  have hDC : D ≠ C := by omega
  have freshD1 : s1.heap.get? D = none := by rw [← hD]; exact size_none _
  have freshC1 : s1.heap.get? C = none := by
    cases hq : s1.heap.get? C with
    | none => rfl
    | some o => have h3 : C < s1.heap.objs.size := Heap.lt_size hq; rw [hD, hCD] at h3; exact absurd h3 (Nat.not_lt.mpr (Nat.le_succ _))
  have k1 : ∀ b o, s1.heap.get? b = some o → h₁.get? b = some o := fun b o hb =>
    hsb₁.extBut b o (ne_of_none freshC1 hb) (Heap.get?_push_of_some _ (hH2 ▸ Heap.get?_push_of_some _ hb))
  have fresh0 : ∀ a, s1.heap.get? a = none → s.heap.get? a = none := fun a ha => by
    cases hq : s.heap.get? a with
    | none => rfl
    | some o => obtain ⟨o', h6⟩ := hs1.ext.alive a o hq; rw [ha] at h6; cases h6
  have plD : PL h₁ D [] := by
    have h2 : H2.get? D = some { cls := .type "list", dict := none, data := .seq ([] : List Value).toArray } := by rw [← hH2, ← hD]; exact Heap.get?_push_size _ rfl
    exact ⟨_, 0, hsb₁.extBut D _ hDC (Heap.get?_push_of_some _ h2), rfl, rfl, rfl⟩
  let am' : Amb := ((am.at res).hold D).hold C
  have hr2 : HR am' cx.stack π1 H1 h₁ := (hr1.held (h' := h₁) freshD1 k1 plD.nf |> fun _ => by
    have a1 : HR ((am.at res).hold D) cx.stack π1 H1 H2 := hr1.held freshD1 (fun b o hb => hH2 ▸ Heap.get?_push_of_some _ hb) (by
      have h2 : H2.get? D = some { cls := .type "list", dict := none, data := .seq ([] : List Value).toArray } := by rw [← hH2, ← hD]; exact Heap.get?_push_size _ rfl
      exact ⟨_, h2, fun us q => by cases q⟩)
    have hCn : H2.get? C = none := by rw [← hC]; exact size_none _
    exact a1.held hCn (fun b o hb => hsb₁.extBut b o (ne_of_none hCn hb) (Heap.get?_push_of_some _ hb)) (Ns.nf hns₁))
  obtain ⟨Sx, It, hSx⟩ := hItD (C :: D :: res) h₁ (fun a ha => by
    rcases List.mem_cons.mp ha with rfl | ha
    · exact .inr freshC1
    · rcases List.mem_cons.mp ha with rfl | ha
      · exact .inr freshD1
      · exact .inl ha) k1
  refine hold fun _ k_ => ?_
  obtain ⟨hI1, hI2, oI, usI, hIo, hId⟩ := It.own 0 π1 h₁ hSx
  refine k_ ?_
  have cellsOk : ∀ v, (∀ c, v ≠ .exc c) → Base am n true F (c.inner x i scope) ⟨compEnvC scope cl C cx.env, cx.stack, (x, i) :: cx.ctx⟩ (ρ.set i v) A := fun v hv =>
    ⟨B.ok, B.fn, ⟨by show (x, i) :: cx.ctx = (x, i) :: c.ctx; rw [B.ck.ctx], by show (relabel scope cx.env).names = relab c.names scope.names; rw [relabel_names B.cxk.kind, B.ck.names], B.ck.fns, B.ck.nums⟩,
      ⟨fun y hy => by
          have hk : Env.kindOf (compEnvC scope cl C cx.env) y = (scope.names.lookup y).map fun k => if (k == .free && c.names.lookup y == some .cell) = true then .cell else k := by
            show (relabel scope cx.env).names.lookup y = _
            rw [relabel_names B.cxk.kind, relab_lookup, B.ck.names]
          rw [hk] at hy
          cases hl : scope.names.lookup y with
          | none => rw [hl] at hy; simp at hy
          | some k =>
            by_cases hf : k = .free
            · subst hf; exact hcl2 _ (lookup_mem hl) rfl
            · have hb2 : (k == NameKind.free) = false := by simpa using hf
              rw [hl] at hy
              simp only [Option.map_some, hb2, Bool.false_and, Bool.false_eq_true, if_false, Option.some.injEq] at hy
              rcases hy with q | q
              · exact absurd q (hcell _ (lookup_mem hl))
              · exact absurd q hf,
        hkind, B.cxk.globals, B.cxk.builtins, B.cxk.top⟩, B.as, fun _ => (B.ne rfl).set hv⟩
  have hbase : LoopEnd (am.at res) cx.stack π s rs Hf D C s → True := fun _ => trivial
  have resD : D ∉ (am.at res).res := fresh_res hr1 freshD1
  have resC : C ∉ (am.at res).res := fresh_res hr1 freshC1
  have fsD : D ∉ Fs cx.stack := fresh_fs hr1 freshD1
  have fsC : C ∉ Fs cx.stack := fresh_fs hr1 freshC1
  have baseD : (am.at res).B.get? D = none := base_none hr1 freshD1
  have baseC : (am.at res).B.get? C = none := base_none hr1 freshC1
  have er0 : ER am' cx ρ π s.heap := (st.er.held (fresh0 D freshD1)).held (fresh0 C freshC1)
  have hxk : Env.kindOf (compEnvC scope cl C cx.env) x = some .local := lookup_relabel_local hxl
  have hp : ((compEnvC scope cl C cx.env).scope.kind == .class || ((compEnvC scope cl C cx.env).scope.kind == .module && (compEnvC scope cl C cx.env).locals != (compEnvC scope cl C cx.env).globals)) = false := by
    simp [compEnvC, relabel, hkind]
  have loop : ∀ s₃ : Shared, s₃ = { s1 with heap := h₁, toks := s1.toks + ([] : List (Str × Value)).length } →
      codeAny am.M A (.compLoop (.ListComp e [⟨.Name x px, iter, ifs, 0⟩] scope pos) 0 (.ref I) (.ref D) (compEnvC scope cl C cx.env)) (RR (.ref D) C) s₃ := by
    rintro s₃ rfl
    refine hold fun _ k_ => ?_
    obtain ⟨Inv, toInv, ofInv⟩ : ∃ Inv : Nat → Shared → Prop, (∀ k s', CompInv am' cx.stack π s Sx D C wt (fun v h => evE true F (ρ.set i v) elt h) (fun v h => evC true F (ρ.set i v) cond h) vs rs Hf k s' → Inv k s') ∧ (∀ k s', Inv k s' → CompInv am' cx.stack π s Sx D C wt (fun v h => evE true F (ρ.set i v) elt h) (fun v h => evC true F (ρ.set i v) cond h) vs rs Hf k s') := ⟨_, fun _ _ h => h, fun _ _ h => h⟩
    refine k_ ?_
    refine codeAny_compLoop_tests Inv ?_ (vs.length + 1)
      (toInv _ _ ⟨0, π1, H1, [], [], _, rs, rfl, Nat.zero_le _, hs1.trans (Step.keeps k1), hr2, hSx, plD, by simp [VRs], hns₁, fresh_pi hr1 freshD1, fresh_pi hr1 freshC1, by simpa using hcomp, rfl⟩)
    intro k s' hi_
    refine hold fun _ k_ => ?_
    obtain ⟨j, π', H', us, xsD, m, ws, rfl, hj, hS, hR, hX, hP, hV, hN, hDπ, hCπ, hc, hrs⟩ := ofInv k s' hi_
    refine k_ ?_
    refine hold fun _ k_ => ?_
    obtain ⟨i1, i2, oJ, uJ, hoJ, hdJ⟩ := It.own j π' s'.heap hX
    refine k_ ?_
    have hDI : D ≠ I := ne_nf hP.nf hoJ hdJ
    have hCI : C ≠ I := ne_nf (Ns.nf hN) hoJ hdJ
    cases hv : vs[j]? with
    | none =>
      have hjl : vs.length ≤ j := by simpa using hv
      have hj' : j = vs.length := Nat.le_antisymm hj hjl
      rw [List.drop_of_length_le hjl] at hc
      obtain ⟨hw, rfl, rfl⟩ := compL_nil_inv hc
      subst hj'
      refine It.done π' _ s' _ _ hX hR hw fun h' tk p => ?_
      refine hRR D C _ ⟨fresh0 D freshD1, fresh0 C freshC1, hDC, resD, resC, baseD, baseC, fsD, fsC, π', xsD, m, hS.poke hI0 p, hR.poke p hoJ hdJ hIB, hP.at fun o e => p D o hDI e, ?_, Ns.at hN fun o e => p C o hCI e, hDπ, hCπ⟩
      rw [← hrs, List.append_nil]
      exact hV.upto (p.slots hoJ hdJ)
    | some v =>
      have hjl : j < vs.length := (List.getElem?_eq_some_iff.mp hv).1
      have hdrop : vs.drop j = v :: vs.drop (j + 1) := by
        rw [List.drop_eq_getElem_cons hjl]
        congr 1
        exact (List.getElem?_eq_some_iff.mp hv).2
      rw [hdrop] at hc
      refine hold fun _ k_ => ?_
      obtain ⟨hw, tb, h3, htr, hc0, hc1⟩ := compL_cons_inv hc
      refine k_ ?_
      refine It.item j π' H' s' v _ _ hX hR hw hv fun x' h' tk p hvx hX' => ?_
      dsimp only
      have hN' : h'.Ns C m := Ns.at hN fun o e => p C o hCI e
      refine wpAny_assign_Name (wpAny_storeName_local hxk hN' (fun h₂ hn₂ hs₂ => ?_) hp)
      have p2 : Poke C h' h₂ := fun b o hb e => hs₂.extBut b o hb e
      have hCr : C ∈ am'.res := List.mem_cons_self
      have hDr : D ∈ am'.res := List.mem_cons_of_mem _ List.mem_cons_self
      have f2 : ∀ b o, b ∉ am'.res → h'.get? b = some o → h₂.get? b = some o := fun b o hb e => p2 b o (fun q => hb (q ▸ hCr)) e
      have hR2 : HR am' cx.stack π' H' h₂ := (hR.poke p hoJ hdJ hIB).freed hCr baseC hCπ p2 (Ns.nf hn₂)
      have hS2 : Step (Fs cx.stack) π s π' { s' with heap := h₂, toks := tk + 1 } := (hS.poke (tk := tk) hI0 p).poke (fresh0 C freshC1) p2
      have hP2 : PL h₂ D xsD := (hP.at fun o e => p D o hDI e).at fun o e => p2 D o hDC e
      have hV2 : VRs am' π' h₂ us xsD := (hV.upto (p.slots hoJ hdJ)).free f2
      have hX2 : Sx (j + 1) π' h₂ := It.free _ _ _ _ hX' f2
      have hvx2 : VR am' π' h₂ v x' := hvx.free f2
      have er : ER am' ⟨compEnvC scope cl C cx.env, cx.stack, (x, i) :: cx.ctx⟩ (ρ.set i v) π' h₂ :=
        er_comp (er0.step hS2) B.cxk.kind B.ck.names B.ck.ctx hsc0 hi hcl1 hcl2 hCπ hn₂ (by simp) hvx2
      have stI : St am' true ⟨compEnvC scope cl C cx.env, cx.stack, (x, i) :: cx.ctx⟩ (ρ.set i v) π' H' A { s' with heap := h₂, toks := tk + 1 } := ⟨hR2, er, st.hd⟩
      have BI := cellsOk v hvx.noexc
      refine JAt.okAt (am := am') (hcond (res := C :: D :: res) BI stI) htr fun a π2 s3 hS3 hR3 hb => ?_
      unfold BR at hb; subst hb
      have alive2 : ∀ {a : Addr}, (∃ o, h₂.get? a = some o ∧ ∀ us, o.data ≠ .fields us) → a ∉ π' → a ∉ π2 := fun {a} ⟨o, ho, _⟩ ha => hS3.notin (s := { s' with heap := h₂, toks := tk + 1 }) ho ha
      have hDπ2 := alive2 hP2.nf hDπ
      have hCπ2 := alive2 (Ns.nf hn₂) hCπ
      have hP3 : PL s3.heap D xsD := hP2.at fun o e => hS3.ext.keep D o e hDπ fsD
      have hN3 := Ns.at hn₂ fun o e => hS3.ext.keep C o e hCπ fsC
      have hV3 : VRs am' π2 s3.heap us xsD := hV2.step hS3
      have hX3 := It.stable _ _ _ _ _ hX2 hS3
      cases tb with
      | false =>
        rw [if_neg (by simp)]
        exact ⟨_, by omega, toInv _ _ ⟨j + 1, π2, h3, us, xsD, _, ws, rfl, by omega, hS2.trans hS3, hR3, hX3, hP3, hV3, hN3, hDπ2, hCπ2, hc0 rfl, hrs⟩⟩
      | true =>
        rw [if_pos rfl]
        obtain ⟨w, h4, ws', hel, hrest, rfl⟩ := hc1 rfl
        refine JAt.okAt (am := am') (helt (res := C :: D :: res) BI (stI.step hS3 hR3)) hel fun y π3 s4 hS4 hR4 hvy => ?_
        have hP4 : PL s4.heap D xsD := hP3.at fun o e => hS4.ext.keep D o e hDπ2 fsD
        have hN4 := Ns.at hN3 fun o e => hS4.ext.keep C o e hCπ2 fsC
        have hDπ3 : D ∉ π3 := by obtain ⟨o, ho, _⟩ := hP3.nf; exact hS4.notin ho hDπ2
        have hCπ3 : C ∉ π3 := by obtain ⟨o, ho, _⟩ := Ns.nf hN3; exact hS4.notin ho hCπ2
        have hV4 : VRs am' π3 s4.heap us xsD := hV3.step hS4
        have hX4 := It.stable _ _ _ _ _ hX3 hS4
        have hxl2 : xsD.length ≤ 1000000 := by
          have e1 := hV4.len
          have e2 : us.length ≤ rs.length := by rw [← hrs]; simp
          omega
        refine wp_append hP4 hxl2 fun pl' p5 => ?_
        have f5 : ∀ b o, b ∉ am'.res → s4.heap.get? b = some o → (s4.heap.update D (Obj.mapSeq (·.push y))).get? b = some o := fun b o hb e => p5 b o (fun q => hb (q ▸ hDr)) e
        exact ⟨_, by omega, toInv _ _ ⟨j + 1, π3, h4, us ++ [w], xsD ++ [y], _, ws', rfl, by omega, ((hS2.trans hS3).trans hS4).poke (tk := s4.toks) (fresh0 D freshD1) p5, hR4.freed hDr baseD hDπ3 p5 pl'.nf, It.free _ _ _ _ hX4 f5, pl',
          (hV4.append (.single hvy)).free f5, Ns.at hN4 fun o e => p5 C o (Ne.symm hDC) e, hDπ3, hCπ3, hrest, by rw [← hrs]; simp⟩⟩
  exact codeAny_compStart_list (loop _ rfl) (It.self 0 π1 _ _ _ hSx (loop _ rfl))
end

end Mine

namespace Mine
open PySem PySem.W PyProof.Rows

theorem LoopEnd.fr {am : Amb} {stack : List Env} {π : List Addr} {s : Shared} {rs : List V} {Hf : H} {D C : Addr} {s' : Shared} (e : LoopEnd am stack π s rs Hf D C s') (hlen : rs.length ≤ 1000000) {h' : Heap} {tk : Nat} (p : Poke C s'.heap h') :
    FrP am stack π s (.ok (.lst rs) Hf) (.ref D) { s' with heap := h', toks := tk } := by
  refine hold fun _ k_ => ?_
  obtain ⟨π', xs, m, h1, h2, h3, h4, h5, h6, h7⟩ := e.rest
  refine k_ ?_
  have hCr : C ∈ ((am.hold D).hold C).res := List.mem_cons_self
  refine ⟨rs, Hf, π', D, xs, rfl, rfl, hlen, e.freshD, ⟨h6, e.fsD, e.resD, e.baseD⟩, h1.poke e.freshC p, ?_, h3.at fun o q => p D o e.ne q, ?_⟩
  · refine h2.out ?_ e.baseC h7 e.fsC p
    simp only [Amb.hold, List.mem_cons, not_or]
    exact ⟨Ne.symm e.ne, e.resC⟩
  · exact (h4.free fun b o hb q => p b o (fun z => hb (z ▸ hCr)) q).reserve.2

theorem set_iter {iter : Expr} (h : isSet iter = false) (env : Env) (x : Value) : foldedSetIterable iter env x = pure x := by
  cases iter <;> first | rfl | exact noB h.symm

section
variable {am : Amb} {n : Nat} {q : Bool} {F : Fn} {c : Ck}

theorem fj_comp {elt : PE} {i : Nat} {it : PIt} {cond : Option PE} {e iter : Expr} {x : Str} {px pos : Pos} {ifs : List Expr} {scope : Scope} (hset : isSet iter = false) (hsc : scopeOk c x scope = true) (hi : c.ctx.all (fun p => p.2 != i) = true)
    (hit : q = true → ItJ am n F c it iter) (helt : q = true → EJ am n true F (c.inner x i scope) elt e) (hcond : q = true → CJ am n F (c.inner x i scope) cond ifs) :
    FJ am n q F c (.comp elt i it cond) (.ListComp e [⟨.Name x px, iter, ifs, 0⟩] scope pos) := fun {cx ρ A res π Hc s} B st => by
  cases q with
  | false => exact .inl (by simp [qE_1, qE_2, qE_3, qE_4, qE_5, qE_6, qE_7, qE_8, qE_9, qE_10, qE_11, qE_12, qE_13, qE_14, qE_15, qE_16, qE_17, qE_18, qE_19, qE_20, qE_21, qE_22, qE_23, qE_24, qE_25, qE_26, qE_27, qE_28, qE_29, qE_30, qE_31, qE_32, qE_33, qE_34, qE_35, qE_36, qE_37, qE_38])
  | true =>
    have hit : ItJ am n F c it iter := fun B st => hit rfl B st
    have helt : EJ am n true F (c.inner x i scope) elt e := fun B st => helt rfl B st
    have hcond : CJ am n F (c.inner x i scope) cond ifs := fun B st => hcond rfl B st
    have hsc0 := hsc
    unfold scopeOk at hsc
    simp only [Bool.and_eq_true, List.all_eq_true, beq_iff_eq, Bool.not_eq_true', Bool.or_eq_true, bne_iff_ne, ne_eq] at hsc
    refine hold fun _ k_ => ?_
    obtain ⟨⟨⟨⟨hkind, hall⟩, hxl⟩, hx0⟩, h00⟩ := hsc
    refine k_ ?_
    obtain ⟨cl, hclos, hcl1, hcl2⟩ := closure_for (scope := scope) (env := cx.env) (fun p hp hf => B.cxk.clos p.1 (by
      unfold Env.kindOf; rw [B.ck.names]
      rcases (hall p hp).1.2 with (z | z) | z
      · exact absurd hf z
      · exact .inl z
      · exact .inr z))
    have hnames : ∀ y ∈ scope.names, y.2 = .local → scope.names.lookup y.1 = some .local := fun y hy hl => by
      rcases (hall y hy).1.1 with z | z
      · exact absurd hl z
      · exact z.2
    simp only [qE_1, qE_2, qE_3, qE_4, qE_5, qE_6, qE_7, qE_8, qE_9, qE_10, qE_11, qE_12, qE_13, qE_14, qE_15, qE_16, qE_17, qE_18, qE_19, qE_20, qE_21, qE_22, qE_23, qE_24, qE_25, qE_26, qE_27, qE_28, qE_29, qE_30, qE_31, qE_32, qE_33, qE_34, qE_35, qE_36, qE_37, qE_38]
    rw [if_neg (by simp)]
    have hI := hit B st
    have key : ∀ (r : R V), (∀ vs wt H1, evIt true F ρ it Hc = .ok (vs, wt) H1 → ∃ rs Hf, compL wt (fun v h => evE true F (ρ.set i v) elt h) (fun v h => evC true F (ρ.set i v) cond h) vs H1 = .ok rs Hf ∧ rs.length ≤ 1000000 ∧ r = .ok (.lst rs) Hf) →
        (∀ c' H', evIt true F ρ it Hc = .err c' H' → r = .err c' H') → evIt true F ρ it Hc ≠ .bad →
        JF (am.at res) cx.stack (fun Q E s => wpAny am.M A (eval (.ListComp e [⟨.Name x px, iter, ifs, 0⟩] scope pos) cx.env) Q E s) r π s := by
      intro r h1 h2 h3
      rcases hI with hI | hI
      · exact absurd hI h3
      · refine .inr ?_
        have erp : ∀ y s', ErP (am.at res) cx.stack π s (evIt true F ρ it Hc) y s' → ErP (am.at res) cx.stack π s r y s' := fun y s' h => by
          refine hold fun _ k_ => ?_
          obtain ⟨c', H'', π', e', C, fl, hh, r2, r3, r4, r5, r6⟩ := h
          refine k_ ?_
          exact ⟨c', H'', π', e', C, fl, h2 c' H'' hh, r2, r3, r4, r5, r6⟩
        rw [eval_ListComp]
        refine wpAny_comprehension_free (use := none) rfl (set_iter hset cx.env) hclos hkind hnames (wpAny_mono hI (fun xv s₁ h₁ => wpAny_mono h₁ (fun itv s₂ h₂ => ?_) erp) erp)
        refine hold fun _ k_ => ?_
        obtain ⟨⟨vs, wt⟩, H1, π1, e1, e2, e3, e4⟩ := h₂
        refine k_ ?_
        refine hold fun _ k_ => ?_
        obtain ⟨rs, Hf, e5, e6, e7⟩ := h1 vs wt H1 e1
        refine k_ ?_
        refine comp_core (RR := fun acc C => compPost am.M A (ErP (am.at res) cx.stack π s r) none (FrP (am.at res) cx.stack π s r) acc C) B st e2 e3 e4 hsc0 hi helt hcond hcl1 hcl2 e5 e6 fun D C s' le => ?_
        refine hold fun _ k_ => ?_
        obtain ⟨π', xs, m, _, _, _, _, h5, _⟩ := le.rest
        refine k_ ?_
        refine ⟨m, h5, fun h' sb => ?_⟩
        rw [e7]
        exact le.fr e6 (tk := s'.toks) fun b o hb q => sb.extBut b o hb q
    cases hev : evIt true F ρ it Hc with
    | bad => exact .inl rfl
    | err c' H' => exact key _ (fun _ _ _ z => by rw [hev] at z; cases z) (fun _ _ z => by rw [hev] at z; cases z; rfl) (by rw [hev]; simp)
    | ok b H1 =>
      obtain ⟨vs, wt⟩ := b
      simp only [R.bind_ok]
      cases hc : compL wt (fun v h => evE true F (ρ.set i v) elt h) (fun v h => evC true F (ρ.set i v) cond h) vs H1 with
      | bad => exact .inl rfl
      | err _ _ => exact .inl rfl
      | ok rs Hf =>
        simp only [mkL]
        split
        · rename_i hle
          refine key _ (fun vs' wt' H1' z => ?_) (fun _ _ z => by rw [hev] at z; cases z) (by rw [hev]; simp)
          rw [hev] at z; cases z
          exact ⟨rs, Hf, hc, hle, rfl⟩
        · exact .inl rfl

theorem raise_keeps {h h' : Heap} {C : Addr} (e : RaiseAt h C) (k : ∀ b o, h.get? b = some o → h'.get? b = some o) : RaiseAt h' C := by
  refine hold fun _ k_ => ?_
  obtain ⟨nm, qn, N, bs, bm, hdct, sn, sub, ab, col, dd, k0, k1, k2, k3, k5, mN, r1, r2, r3, r4⟩ := e
  refine k_ ?_
  exact ⟨nm, qn, N, bs, bm, hdct, sn, sub, ab, col, dd, k0, k1, k2, k3, k5, mN, k _ _ r1, ns_stays k r2, r3, r4.keeps k⟩

/-- an exception's own class, asked for by name -/
theorem exc_class {prog : Program} {w : World} {A : Around} {E : Value → Shared → Prop} {Q : Option Value → Shared → Prop} {s : Shared} {K : Frag} {x D : Addr} {ox : Obj} (X : K.In s.heap) (I : InstAt s.heap x ox D none) (R : RaiseAt s.heap D)
    (hga : findIn K (.ref D) "__getattribute__" = some (some (.builtin "BaseException.__getattribute__"))) (hgh : findIn K (.ref D) "__getattr__" = some none)
    (hf : findObj K D none "__class__" = some (.bind (.builtin "getset_descriptor.__get__") (.builtin "object.__class__"))) (hm : mroIn K D (.type "object") = some true)
    (h : Q (some (.ref D)) { s with toks := s.toks + 1 }) : wpAny (model prog w) A (getAttr? (.ref x) "__class__") Q E s := by
  refine hold fun _ k_ => ?_
  obtain ⟨hh, g, d, t, os⟩ := s
  refine k_ ?_
  refine hold fun _ k_ => ?_
  obtain ⟨nm, qn, N, bs, bm, hdct, sn, sub, ab, col, dd, k0, k1, k2, k3, k5, mN, r1, r2, r3, r4⟩ := R
  refine k_ ?_
  have L0 := I.type (M := model prog w)
  have L1 := looks_findIn (M := model prog w) X hga
  have L2 := looks_findIn (M := model prog w) X hgh
  have L3 := looks_find (M := model prog w) X I hf
  have f3 := F.attrBase_ValueError.ga.bind (.ref x)
  unfold getAttr? getAttrBy? getAttrBy
  refine wpAny_bind (wpAny_mkText (wpAny_bind (wpAny_attempt (wpAny_holding (wpAny_bind (L0.at (wpAny_bind (L1.at ?_))))))))
  have hx2 : (Value.builtin "BaseException.__getattribute__" == Value.builtin "object.__getattribute__") = false := by decide +kernel
  dsimp only
  rw [if_neg (by rw [hx2]; simp)]
  unfold getAttrByItsOwn hookBefore
  refine wpAny_bind ?_
  rw [if_pos (show onTheHeap (Value.ref D) = true from rfl)]
  refine L2.at ?_
  refine wpAny_bind (wpAny_attempt (wpAny_holding ?_))
  unfold callGetattribute
  rw [if_neg (by simp)]
  unfold boundAndCalled
  rw [f3]
  refine wpAny_bind (wpAny_pure ?_)
  refine wpAny_call (codeAny_call_builtin F.attrBase_ValueError.ga.plain F.entry_bexc_ga (wpAny_check_ga_own F.attrBase_ValueError r1 r4 I.1 I.2 ?_))
  unfold Builtin.«object.__getattribute__»
  refine wpAny_bind (wpAny_of_eq (a := (.ref x, [.str (Str.ofString "__class__") t])) rfl ?_)
  dsimp only
  refine wpAny_bind (wpAny_of_eq (a := Str.ofString "__class__") rfl ?_)
  refine wpAny_bind (L0.at (wpAny_bind (L3.at ?_)))
  dsimp only
  unfold Builtin.ObjectAttr.bindTo
  dsimp only
  refine wpAny_bind (wpAny_holding (wpAny_call (class_get (s := ⟨hh, g, d, t + 1, os⟩) (ox := ox) (od := none) X I hm ?_)))
  refine wpAny_pure ?_
  exact handed_on rfl (wpAny_pure h)

theorem kitx_exc {K : Frag} {x D : Addr} {ox : Obj} (hg : findIn K (.ref D) "__getattribute__" = some (some (.builtin "BaseException.__getattribute__")) ∧ findIn K (.ref D) "__getattr__" = some none) (hc : (clsIn K D).isSome = true) (ha : findIn K (.ref D) "__class__" = some (some (.builtin "object.__class__")))
    (hn : specialIn K (.builtin "object.__class__") "__get__" = some (some (.builtin "getset_descriptor.__get__"))) (htk : takesIn K (.builtin "object.__class__") = some true) (hm : mroIn K D (.type "object") = some true) :
    KitX K (.ref x) (.ref D) (fun h => InstAt h x ox D none ∧ RaiseAt h D) where
  ty := fun _ _ _ I => I.1.type
  it := fun _ _ X _ => by
    obtain ⟨cdD, hcD⟩ := Option.isSome_iff_exists.mp hc
    unfold clsIn at hcD
    split at hcD
    · rename_i c' d' cd' sl' ho
      intro A' Q' E' s' k q
      unfold isType loadHead
      exact wpAny_bind (wpAny_loadPart (k _ _ (X _ _ ho)) (wpAny_pure q))
    · cases hcD
  ne := fun h tp dd its n sl X htp => by
    obtain ⟨cdD, hcD⟩ := Option.isSome_iff_exists.mp hc
    refine Bool.eq_false_iff.mpr fun q => ?_
    have e : D = tp := Value.ref.inj (beq_iff_eq.mp q)
    subst e
    unfold clsIn at hcD
    split at hcD
    · rename_i c' d' cd' sl' ho
      have z := (X _ _ ho).symm.trans htp
      cases z
    · cases hcD
  ca := fun {prog w A E Q s} X I k => by
    have hf : findObj K D none "__class__" = some (.bind (.builtin "getset_descriptor.__get__") (.builtin "object.__class__")) := by
      obtain ⟨cd, hc⟩ := Option.isSome_iff_exists.mp hc
      unfold findObj
      rw [hc, Option.bind_some, ha, Option.bind_some]
      simp [hn, htk]
    exact exc_class X I.1 I.2 hg.1 hg.2 hf hm k

theorem ej_isexc {i : Nat} {t : Ty} {x : Str} {y : Expr} {p p' p2 : Pos} (hx : c.glob "isinstance" = true) (hv : c.var x i = true) (hk : ckTy c t y = true) :
    EJ am n q F c (.isexc i t) (.Call (.Name "isinstance" p) [.Name x p2, y] [] p') := fun {cx ρ A res π Hc s} B st => by
  simp only [qE_1, qE_2, qE_3, qE_4, qE_5, qE_6, qE_7, qE_8, qE_9, qE_10, qE_11, qE_12, qE_13, qE_14, qE_15, qE_16, qE_17, qE_18, qE_19, qE_20, qE_21, qE_22, qE_23, qE_24, qE_25, qE_26, qE_27, qE_28, qE_29, qE_30, qE_31, qE_32, qE_33, qE_34, qE_35, qE_36, qE_37, qE_38]
  cases hρ : ρ[i]? with
  | none => exact .inl rfl
  | some v =>
    cases v with
    | exc d =>
      simp only
      cases hb : isExc d t with
      | none => exact .inl rfl
      | some b =>
        refine .inr (wp_call_bt (v := .builtin "isinstance") B st.hr hx (bt_mem (by kernel_rfl)) (by
          intro z hz; rcases List.mem_cons.mp hz with rfl | hz
          · rfl
          · exact tys_star (c := c) (ts := [t]) (xs := [y]) (by simp [ckTys, hk]) z hz) (spl2 (wp_var B st hv hρ (by simp) fun v' hs => ?_)))
        rcases hs with hs | ⟨d', a, h1, rfl, h3, C, o, vs, h4, h5, h6, h7, h8, h9⟩
        · exact hs.elim
        cases h1
        unfold isExc at hb
        split at hb
        · rename_i hd
          have hdm : d ∈ excNames := by simpa using hd
          obtain ⟨C', X⟩ := B.ok.exc d hdm
          have hCC : C' = C := by have := X.name.symm.trans h4; cases this; rfl
          subst hCC
          have Z := kitx_exc (x := a) (ox := o) X.get X.cls X.find X.spec X.takes X.mro
          have I : InstAt s.heap a o C' none ∧ RaiseAt s.heap C' := ⟨⟨h5, h6.1, by unfold notCls; rw [h7], by rw [h6.2]; trivial⟩, raise_keeps (B.ok.rs d hdm C' X.name) st.hr.base⟩
          obtain ⟨pz, rfl, hk'⟩ := ckTy_inv hk
          clear hk
          have hk := hk'
          cases t with
          | valueError =>
            cases hb
            exact wp_bt B st.hr hk (bt_mem (by kernel_rfl)) (kia_one Z (B.ok.K.keeps st.hr.base) I X.val (by simp) fun tk => OkP.tok st.hr rfl)
          | own d2 =>
            simp only at hb
            split at hb
            · rename_i hd2
              cases hb
              have hdm2 : d2 ∈ excNames := by simpa using hd2
              obtain ⟨D, Y⟩ := B.ok.exc d2 hdm2
              exact wp_glob B st.hr hk Y.name (kia_one Z (B.ok.K.keeps st.hr.base) I (B.ok.sub d hdm d2 hdm2 C' D X.name Y.name) (by simp) fun tk => OkP.tok st.hr rfl)
            · cases hb
          | _ => cases hb
        · cases hb
    | _ => exact .inl rfl

theorem ej_callX {f : String} {i : Nat} {x : Str} {p p' p2 : Pos} (hx : c.glob (Str.ofString f) = true) (hf : f ∈ c.fns) (hv : c.var x i = true) :
    EJ am n q F c (.callX f i) (.Call (.Name (Str.ofString f) p) [.Name x p2] [] p') := fun {cx ρ A res π Hc s} B st => by
  simp only [qE_1, qE_2, qE_3, qE_4, qE_5, qE_6, qE_7, qE_8, qE_9, qE_10, qE_11, qE_12, qE_13, qE_14, qE_15, qE_16, qE_17, qE_18, qE_19, qE_20, qE_21, qE_22, qE_23, qE_24, qE_25, qE_26, qE_27, qE_28, qE_29, qE_30, qE_31, qE_32, qE_33, qE_34, qE_35, qE_36, qE_37, qE_38]
  cases hρ : ρ[i]? with
  | none => exact .inl rfl
  | some v =>
    cases v with
    | exc d =>
      obtain ⟨a, fa⟩ := B.ck.fns f hf
      refine hold fun _ k_ => ?_
      obtain ⟨ga, o, fd, ho, hd⟩ := id fa
      refine k_ ?_
      have hq : q = false := by
        cases q with
        | false => rfl
        | true => exact absurd rfl ((B.ne rfl) _ (List.mem_of_getElem? hρ) d)
      simp only
      have J : ∀ v', SR (am.at res) π s.heap (.exc d) v' → JAt (am.at res) cx.stack A (PySem.call (.ref a) [v'] []) (Mine.pcall Hc (F q f [.exc d] Hc)) (VR (am.at res)) π s := fun v' hs => by
        rcases hs with hs | ⟨d', b, h1, rfl, h3, h4⟩
        · exact hs.elim
        cases h1
        exact JAt.pcall st.hr (B.fn.call res q f a _ _ cx.stack A π Hc s fa B.as st.hr st.hd (.inr ⟨hq, d, b, rfl, rfl, h3, h4⟩))
      by_cases hbad : Mine.pcall Hc (F q f [.exc d] Hc) = .bad
      · exact .inl hbad
      · refine .inr (wpAny_Call_Name_kw (wp_glob B st.hr hx ga ?_))
        rw [starEach_plain _ (fun z hz => by rw [List.mem_singleton.mp hz]; rfl)]
        refine Calls.callWith_function (o := o) (fd := fd) (Calls.evalArgs_plain (spl1 (wp_var B st hv hρ (by simp) fun v' hs => ⟨⟨st.hr.base a o ho, hd⟩, ?_⟩)))
        rcases J v' hs with h | h
        · exact absurd h hbad
        · exact h
    | _ => exact .inl rfl
end

end Mine

namespace Mine
open PySem PySem.W PyProof.Rows

section
variable {am : Amb} {n : Nat} {F : Fn}

noncomputable def PJ (am : Amb) (n : Nat) (q : Bool) (F : Fn) (c : Ck) (e : PE) (x : Expr) : Prop := EJ am n q F c e x ∧ TJ am n q F c e x

theorem EJ.both {q : Bool} {c : Ck} {e : PE} {x : Expr} (h : EJ am n q F c e x) (hp : plainTest x = true) : PJ am n q F c e x := ⟨h, h.test hp⟩

/-- what a fresh form is good for -/
noncomputable def OJ (am : Amb) (n : Nat) (q : Bool) (F : Fn) (c : Ck) (e : PE) (x : Expr) : Prop := freshE e = true → EJ am n q F c (.own e) x ∧ plainTest x = true

theorem fresh_bf {f : Bf} {a : PE} (h : freshE (.bf f a) = true) : f = .list ∨ f = .listRev := by
  rcases Bool.or_eq_true_iff.mp (show (decide (f = .list) || decide (f = .listRev)) = true from h) with h | h
  · exact .inl (of_decide_eq_true h)
  · exact .inr (of_decide_eq_true h)

noncomputable def XJ (am : Amb) (n : Nat) (q : Bool) (F : Fn) (c : Ck) (e : PE) (x : Expr) : Prop := PJ am n q F c e x ∧ OJ am n q F c e x

theorem k_none {q : Bool} {c : Ck}  {x : Expr}  (h : ckE c (.none) x = true) : XJ am n q F c (.none) x := by
  refine const_any (G := XJ am n q F c (.none)) h fun k p _ => ?_
  exact ⟨EJ.both ej_none rfl, fun z => by cases z⟩
theorem k_bool {q : Bool} {c : Ck} {b : Bool} {x : Expr}  (h : ckE c (.bool b) x = true) : XJ am n q F c (.bool b) x := by
  refine const_any (G := XJ am n q F c (.bool b)) h fun k p _ => ?_
  exact ⟨EJ.both ej_bool rfl, fun z => by cases z⟩
theorem k_int {q : Bool} {c : Ck} {i : Int} {x : Expr}  (h : ckE c (.int i) x = true) : XJ am n q F c (.int i) x := by
  refine const_any (G := XJ am n q F c (.int i)) h fun k p _ => ?_
  exact ⟨EJ.both ej_int rfl, fun z => by cases z⟩
theorem k_str {q : Bool} {c : Ck} {t : String} {x : Expr}  (h : ckE c (.str t) x = true) : XJ am n q F c (.str t) x := by
  refine const_any (G := XJ am n q F c (.str t)) h fun k p _ => ?_
  exact ⟨EJ.both ej_str rfl, fun z => by cases z⟩
theorem k_var {q : Bool} {c : Ck} {i : Nat} {x : Expr}  (h : ckE c (.var i) x = true) : XJ am n q F c (.var i) x := by
  refine name_any (G := XJ am n q F c (.var i)) h fun y p hh => ?_
  exact ⟨EJ.both (ej_var hh) rfl, fun z => by cases z⟩
theorem k_glob {q : Bool} {c : Ck} {g : String} {i : Int} {x : Expr}  (h : ckE c (.glob g i) x = true) : XJ am n q F c (.glob g i) x := by
  refine nameIs_any (G := XJ am n q F c (.glob g i)) (al h) fun p _ => ?_
  exact ⟨EJ.both (ej_glob (al (ar h)) (by simpa using ar (ar h))) rfl, fun z => by cases z⟩
theorem k_bin {q : Bool} {c : Ck} {op : Bop} {a b : PE} {x : Expr} (Ia : ∀ y, ckE c a y = true → XJ am n q F c a y) (Ib : ∀ y, ckE c b y = true → XJ am n q F c b y) (h : ckE c (.bin op a b) x = true) : XJ am n q F c (.bin op a b) x := by
  refine bin_any (G := XJ am n q F c (.bin op a b)) h fun l r p hh => ?_
  have ha := (Ia _ (al hh)).1
  have hb := (Ib _ (ar hh)).1
  refine ⟨EJ.both (ej_bin (decide_eq_true rfl) ha.1 hb.1) rfl, fun z => ?_⟩
  cases op with
  | add => exact ⟨own_add ha.1 hb.1, rfl⟩
  | _ => cases z
theorem k_neg {q : Bool} {c : Ck} {i : Int} {x : Expr}  (h : ckE c (.neg i) x = true) : XJ am n q F c (.neg i) x := by
  refine un_any (G := XJ am n q F c (.neg i)) h fun y p hh => ?_
  refine const_any (G := fun y => XJ am n q F c (.neg i) (.UnaryOp .USub y p)) hh fun k p' _ => ?_
  exact ⟨EJ.both ej_neg rfl, fun z => by cases z⟩
theorem k_not {q : Bool} {c : Ck} {a : PE} {x : Expr} (Ia : ∀ y, ckE c a y = true → XJ am n q F c a y) (h : ckE c (.not a) x = true) : XJ am n q F c (.not a) x := by
  refine un_any (G := XJ am n q F c (.not a)) h fun y p hh => ?_
  have ha := (Ia _ hh).1
  exact ⟨⟨ej_not ha.1, tj_not ha.2⟩, fun z => by cases z⟩
theorem k_and {q : Bool} {c : Ck} {es : List PE} {x : Expr} (Ies : ∀ ys, ckEs c es ys = true → AllJ am n q F c es ys) (h : ckE c (.and es) x = true) : XJ am n q F c (.and es) x := by
  refine bool_any (G := XJ am n q F c (.and es)) h fun ys p hh => ?_
  have ha := Ies _ hh
  exact ⟨⟨ej_and ha, tj_and ha⟩, fun z => by cases z⟩
theorem k_or {q : Bool} {c : Ck} {es : List PE} {x : Expr} (Ies : ∀ ys, ckEs c es ys = true → AllJ am n q F c es ys) (h : ckE c (.or es) x = true) : XJ am n q F c (.or es) x := by
  refine bool_any (G := XJ am n q F c (.or es)) h fun ys p hh => ?_
  have ha := Ies _ hh
  exact ⟨⟨ej_or ha, tj_or ha⟩, fun z => by cases z⟩
theorem k_cmp {q : Bool} {c : Ck} {op : Cop} {a b : PE} {x : Expr} (Ia : ∀ y, ckE c a y = true → XJ am n q F c a y) (Ib : ∀ y, ckE c b y = true → XJ am n q F c b y) (h : ckE c (.cmp op a b) x = true) : XJ am n q F c (.cmp op a b) x := by
  refine cmp_any (G := XJ am n q F c (.cmp op a b)) h fun l os rs p hh => ?_
  refine one_any (G := fun os => XJ am n q F c (.cmp op a b) (.Compare l os rs p)) hh fun o hh => ?_
  refine one_any (G := fun rs => XJ am n q F c (.cmp op a b) (.Compare l [o] rs p)) hh fun r hh => ?_
  have ha := (Ia _ (al (ar hh))).1
  have hb := (Ib _ (al (ar (ar hh)))).1
  have hs := nt (ar (ar (ar hh)))
  exact ⟨⟨ej_cmp (al hh) hs ha.1 hb.1, tj_cmp (al hh) hs ha.1 hb.1⟩, fun z => by cases z⟩
theorem k_cmp2 {q : Bool} {c : Ck} {o1 o2 : Cop} {a b d : PE} {x : Expr} (Ia : ∀ y, ckE c a y = true → XJ am n q F c a y) (Ib : ∀ y, ckE c b y = true → XJ am n q F c b y) (Id : ∀ y, ckE c d y = true → XJ am n q F c d y) (h : ckE c (.cmp2 o1 o2 a b d) x = true) : XJ am n q F c (.cmp2 o1 o2 a b d) x := by
  refine cmp_any (G := XJ am n q F c (.cmp2 o1 o2 a b d)) h fun l os rs p hh => ?_
  refine two_any (G := fun os => XJ am n q F c (.cmp2 o1 o2 a b d) (.Compare l os rs p)) hh fun u1 u2 hh => ?_
  refine two_any (G := fun rs => XJ am n q F c (.cmp2 o1 o2 a b d) (.Compare l [u1, u2] rs p)) hh fun r1 r2 hh => ?_
  have g1 := al hh
  have hh := ar hh
  have g2 := al hh
  have hh := ar hh
  have ha := (Ia _ (al hh)).1
  have hh := ar hh
  have hb := (Ib _ (al hh)).1
  have hh := ar hh
  have hd := (Id _ (al hh)).1
  have hs := nt (ar hh)
  exact ⟨⟨ej_cmp2 g1 g2 hs ha.1 hb.1 hd.1, tj_cmp2 g1 g2 hs ha.1 hb.1 hd.1⟩, fun z => by cases z⟩
theorem k_list {q : Bool} {c : Ck} {es : List PE} {x : Expr} (Ies : ∀ ys, ckEs c es ys = true → AllJ am n q F c es ys) (h : ckE c (.list es) x = true) : XJ am n q F c (.list es) x := by
  refine list_any (G := XJ am n q F c (.list es)) h fun xs p hh => ?_
  have ha := Ies _ hh
  exact ⟨EJ.both (FJ.ej (fj_list ha)) rfl, fun _ => ⟨FJ.own (fj_list ha), rfl⟩⟩
theorem k_tup {q : Bool} {c : Ck} {es : List PE} {x : Expr} (Ies : ∀ ys, ckEs c es ys = true → AllJ am n q F c es ys) (h : ckE c (.tup es) x = true) : XJ am n q F c (.tup es) x := by
  refine tup_any (G := XJ am n q F c (.tup es)) h fun xs k p hh => ?_
  exact ⟨EJ.both (ej_tup (Ies _ hh)) rfl, fun z => by cases z⟩
theorem k_dict0 {q : Bool} {c : Ck}  {x : Expr}  (h : ckE c (.dict0) x = true) : XJ am n q F c (.dict0) x := by
  refine dict_any (G := XJ am n q F c (.dict0)) h fun ks vs p hh => ?_
  refine emp_any (G := fun ks => XJ am n q F c .dict0 (.Dict ks vs p)) (al hh) ?_
  refine emp_any (G := fun vs => XJ am n q F c .dict0 (.Dict [] vs p)) (ar hh) ?_
  exact ⟨EJ.both ej_dict0 rfl, fun z => by cases z⟩
theorem k_idx {q : Bool} {c : Ck} {a i : PE} {x : Expr} (Ia : ∀ y, ckE c a y = true → XJ am n q F c a y) (Ii : ∀ y, ckE c i y = true → XJ am n q F c i y) (h : ckE c (.idx a i) x = true) : XJ am n q F c (.idx a i) x := by
  refine sub_any (G := XJ am n q F c (.idx a i)) h fun v s p hh => ?_
  exact ⟨EJ.both (ej_idx (Ia _ (al hh)).1.1 (Ii _ (ar hh)).1.1) rfl, fun z => by cases z⟩
theorem k_slice {q : Bool} {c : Ck} {a : PE} {lo hi : Option PE} {x : Expr} (Ia : ∀ y, ckE c a y = true → XJ am n q F c a y) (Ilo : ∀ y, ckO c lo y = true → OptJ am n q F c lo y) (Ihi : ∀ y, ckO c hi y = true → OptJ am n q F c hi y) (h : ckE c (.slice a lo hi) x = true) : XJ am n q F c (.slice a lo hi) x := by
  refine sub_any (G := XJ am n q F c (.slice a lo hi)) h fun v s p hh => ?_
  refine slice_any (G := fun s => XJ am n q F c (.slice a lo hi) (.Subscript v s p)) hh fun l u d p' hh => ?_
  refine none_any (G := fun d => XJ am n q F c (.slice a lo hi) (.Subscript v (.Slice l u d p') p)) (al hh) ?_
  have ha := (Ia _ (al (ar hh))).1
  have hl := Ilo _ (al (ar (ar hh)))
  have hu := Ihi _ (ar (ar (ar hh)))
  exact ⟨EJ.both (FJ.ej (fj_slice ha.1 hl hu)) rfl, fun _ => ⟨FJ.own (fj_slice ha.1 hl hu), rfl⟩⟩
theorem k_isinst {q : Bool} {c : Ck} {a : PE} {ts : List Ty} {x : Expr} (Ia : ∀ y, ckE c a y = true → XJ am n q F c a y) (h : ckE c (.isinst a ts) x = true) : XJ am n q F c (.isinst a ts) x := by
  refine named_any (G := XJ am n q F c (.isinst a ts)) h fun xs p p' hh => ?_
  refine two_any (G := fun xs => XJ am n q F c (.isinst a ts) (.Call (.Name "isinstance" p) xs [] p')) hh fun y t hh => ?_
  have h1 := al hh
  have h2 := al (ar hh)
  have ha := (Ia _ h2).1
  have h3 := al (ar (ar hh))
  refine ⟨EJ.both ?_ rfl, fun z => by cases z⟩
  rcases (Bool.or_eq_true _ _).mp (ar (ar (ar hh))) with h4 | h4
  · refine tup_any (G := fun t => EJ am n q F c (.isinst a ts) (.Call (.Name "isinstance" p) [y, t] [] p')) h4 fun es k p2 h4 => ?_
    exact ej_isinst2 h1 h3 (al h4) (of_decide_eq_true (al (ar h4))) (of_decide_eq_true (ar (ar h4))) (ck_isStar h2) ha.1
  · refine one_any (G := fun ts => ts.all tyPl = true → EJ am n q F c (.isinst a ts) (.Call (.Name "isinstance" p) [y, t] [] p')) h4 (fun u h4 h3 => ?_) h3
    exact ej_isinst h1 (al h3) h4 (ck_isStar h2) ha.1
theorem k_isexc {q : Bool} {c : Ck} {i : Nat} {t : Ty} {x : Expr}  (h : ckE c (.isexc i t) x = true) : XJ am n q F c (.isexc i t) x := by
  refine named_any (G := XJ am n q F c (.isexc i t)) h fun xs p p' hh => ?_
  refine two_any (G := fun xs => XJ am n q F c (.isexc i t) (.Call (.Name "isinstance" p) xs [] p')) hh fun y t' hh => ?_
  refine name_any (G := fun y => XJ am n q F c (.isexc i t) (.Call (.Name "isinstance" p) [y, t'] [] p')) (al (ar hh)) fun z p2 h2 => ?_
  exact ⟨EJ.both (ej_isexc (al hh) h2 (ar (ar hh))) rfl, fun z => by cases z⟩
theorem k_callX {q : Bool} {c : Ck} {f : String} {i : Nat} {x : Expr}  (h : ckE c (.callX f i) x = true) : XJ am n q F c (.callX f i) x := by
  refine named_any (G := XJ am n q F c (.callX f i)) h fun xs p p' hh => ?_
  refine one_any (G := fun xs => XJ am n q F c (.callX f i) (.Call (.Name (Str.ofString f) p) xs [] p')) hh fun y hh => ?_
  refine name_any (G := fun y => XJ am n q F c (.callX f i) (.Call (.Name (Str.ofString f) p) [y] [] p')) (ar (ar hh)) fun z p2 h3 => ?_
  exact ⟨EJ.both (ej_callX (al hh) (List.contains_iff_mem.mp (al (ar hh))) h3) rfl, fun z => by cases z⟩
theorem k_bf {q : Bool} {c : Ck} {f : Bf} {a : PE} {x : Expr} (Ia : ∀ y, ckE c a y = true → XJ am n q F c a y) (h : ckE c (.bf f a) x = true) : XJ am n q F c (.bf f a) x := by
  refine named_any (G := XJ am n q F c (.bf f a)) h fun xs p p' hh => ?_
  refine one_any (G := fun xs => XJ am n q F c (.bf f a) (.Call (.Name (bfName f) p) xs [] p')) hh fun y hh => ?_
  have h1 := al hh
  have h2 := ar hh
  by_cases hr : f = .listRev
  · subst hr
    cases h2
  · have h2' : ckE c a y = true := by cases f <;> first | exact h2 | (exact absurd rfl hr) | (cases h2)
    have ha := (Ia _ h2').1
    refine ⟨EJ.both (ej_bf hr h1 (ck_isStar h2') ha.1) rfl, fun z => ?_⟩
    rcases fresh_bf z with hf | hf
    · subst hf
      exact ⟨FJ.own (fj_bflist h1 (ck_isStar h2') ha.1), rfl⟩
    · exact (hr hf).elim
theorem k_comp {q : Bool} {c : Ck} {elt : PE} {i : Nat} {it : PIt} {cond : Option PE} {x : Expr} (Ielt : ∀ c y, ckE c elt y = true → XJ am n true F c elt y) (Iit : ∀ y, ckIt c it y = true → ItJ am n F c it y) (Icond : ∀ c ys, ckC c cond ys = true → CJ am n F c cond ys) (h : ckE c (.comp elt i it cond) x = true) : XJ am n q F c (.comp elt i it cond) x := by
  refine lc_any (G := XJ am n q F c (.comp elt i it cond)) h fun e gs sc p hh => ?_
  refine gen_any (G := fun gs => XJ am n q F c (.comp elt i it cond) (.ListComp e gs sc p)) hh fun y iter ifs p' hh => ?_
  have f : FJ am n q F c (.comp elt i it cond) (.ListComp e [⟨.Name y p', iter, ifs, 0⟩] sc p) := fun {cx ρ A res π Hc s} => by
    have h1 := al hh
    have hh := ar hh
    have h2 := nt (al hh)
    have hh := ar hh
    have h3 := al hh
    have hh := ar hh
    have h4 := al hh
    have hh := ar hh
    exact fj_comp (q := q) h2 h3 h4 (fun _ => Iit _ h1) (fun _ => (Ielt _ _ (al hh)).1.1) (fun _ => Icond _ _ (ar hh))
  exact ⟨EJ.both (FJ.ej (fun {cx ρ A res π Hc s} => f)) rfl, fun _ => ⟨FJ.own (fun {cx ρ A res π Hc s} => f), rfl⟩⟩
theorem k_call {q : Bool} {c : Ck} {k : Bool} {f : String} {args : List PE} {x : Expr} (Iargs : ∀ ys, ckEs c args ys = true → AllJ am n q F c args ys) (h : ckE c (.call k f args) x = true) : XJ am n q F c (.call k f args) x := by
  refine named_any (G := XJ am n q F c (.call k f args)) h fun xs p p' hh => ?_
  have ha := Iargs _ (al (ar (ar hh)))
  cases xs with
  | nil => cases args with
    | nil => exact noB (ar (ar (ar hh)))
    | cons _ _ => exact ha.elim
  | cons y ys => exact ⟨EJ.both (ej_call (al hh) (List.contains_iff_mem.mp (al (ar hh))) ha) rfl, fun z => by cases z⟩
theorem k_append {q : Bool} {c : Ck} {o a : PE} {x : Expr} (Io : ∀ y, ckE c o y = true → XJ am n q F c o y) (Ia : ∀ y, ckE c a y = true → XJ am n q F c a y) (h : ckE c (.append o a) x = true) : XJ am n q F c (.append o a) x := by
  refine meth_any (G := XJ am n q F c (.append o a)) h fun v xs p p' h2 hh => ?_
  refine one_any (G := fun xs => XJ am n q F c (.append o a) (.Call (.Attribute v "append" p) xs [] p')) hh fun y hh => ?_
  exact ⟨EJ.both (ej_append (al hh) h2 (nt (ar (ar (ar hh)))) (Io _ (al (ar hh))).1.1 (Ia _ (al (ar (ar hh)))).1.1) rfl, fun z => by cases z⟩
theorem k_clear {q : Bool} {c : Ck} {o : PE} {x : Expr} (Io : ∀ y, ckE c o y = true → XJ am n q F c o y) (h : ckE c (.clear o) x = true) : XJ am n q F c (.clear o) x := by
  refine meth_any (G := XJ am n q F c (.clear o)) h fun v xs p p' h2 hh => ?_
  refine emp_any (G := fun xs => XJ am n q F c (.clear o) (.Call (.Attribute v "clear" p) xs [] p')) (ar (ar hh)) ?_
  exact ⟨EJ.both (ej_clear (al hh) h2 (Io _ (al (ar hh))).1.1) rfl, fun z => by cases z⟩

theorem k_popAt {q : Bool} {c : Ck} {o a : PE} {x : Expr} (Io : ∀ y, ckE c o y = true → XJ am n q F c o y) (Ia : ∀ y, ckE c a y = true → XJ am n q F c a y) (h : ckE c (.popAt o a) x = true) : XJ am n q F c (.popAt o a) x := by
  refine meth_any (G := XJ am n q F c (.popAt o a)) h fun v xs p p' h2 hh => ?_
  refine one_any (G := fun xs => XJ am n q F c (.popAt o a) (.Call (.Attribute v "pop" p) xs [] p')) hh fun y hh => ?_
  exact ⟨EJ.both (ej_popAt (al hh) h2 (nt (ar (ar (ar hh)))) (Io _ (al (ar hh))).1.1 (Ia _ (al (ar (ar hh)))).1.1) rfl, fun z => by cases z⟩
theorem k_setdef {q : Bool} {c : Ck} {o a d : PE} {x : Expr} (Io : ∀ y, ckE c o y = true → XJ am n q F c o y) (Ia : ∀ y, ckE c a y = true → XJ am n q F c a y) (Id : ∀ y, ckE c d y = true → XJ am n q F c d y) (h : ckE c (.setdef o a d) x = true) : XJ am n q F c (.setdef o a d) x := by
  refine meth_any (G := XJ am n q F c (.setdef o a d)) h fun v xs p p' h2 hh => ?_
  refine two_any (G := fun xs => XJ am n q F c (.setdef o a d) (.Call (.Attribute v "setdefault" p) xs [] p')) hh fun y z hh => ?_
  exact ⟨EJ.both (ej_setdef (al hh) h2 (nt (al (ar (ar (ar (ar hh)))))) (nt (ar (ar (ar (ar (ar hh)))))) (Io _ (al (ar hh))).1.1 (Ia _ (al (ar (ar hh)))).1.1 (Id _ (al (ar (ar (ar hh))))).1.1) rfl, fun z => by cases z⟩
theorem k_newDict {q : Bool} {c : Ck} {es : List (PE × PE)} {x : Expr} (h : ckE c (.newDict es) x = true) : XJ am n q F c (.newDict es) x := by
  refine dict_any (G := XJ am n q F c (.newDict es)) h fun ks vs p hh => ?_
  refine emp_any (G := fun ks => XJ am n q F c (.newDict es) (.Dict ks vs p)) (al hh) ?_
  refine emp_any (G := fun vs => XJ am n q F c (.newDict es) (.Dict [] vs p)) (al (ar hh)) ?_
  refine emp_any (G := fun es => XJ am n q F c (.newDict es) (.Dict [] [] p)) (ar (ar hh)) ?_
  exact ⟨EJ.both ej_newDict rfl, fun z => by cases z⟩

mutual
theorem ckE_ok (q : Bool) : ∀ (c : Ck) (e : PE) (x : Expr), ckE c e x = true → XJ am n q F c e x
  | c, .none, x, h => k_none  h
  | c, .bool b, x, h => k_bool  h
  | c, .int i, x, h => k_int  h
  | c, .str t, x, h => k_str  h
  | c, .var i, x, h => k_var  h
  | c, .glob g i, x, h => k_glob  h
  | c, .bin op a b, x, h => k_bin (ckE_ok q c a) (ckE_ok q c b) h
  | c, .neg i, x, h => k_neg  h
  | c, .not a, x, h => k_not (ckE_ok q c a) h
  | c, .and es, x, h => k_and (ckEs_ok q c es) h
  | c, .or es, x, h => k_or (ckEs_ok q c es) h
  | c, .ite .., x, h => by cases h
  | c, .cmp op a b, x, h => k_cmp (ckE_ok q c a) (ckE_ok q c b) h
  | c, .cmp2 o1 o2 a b d, x, h => k_cmp2 (ckE_ok q c a) (ckE_ok q c b) (ckE_ok q c d) h
  | c, .list es, x, h => k_list (ckEs_ok q c es) h
  | c, .tup es, x, h => k_tup (ckEs_ok q c es) h
  | c, .dict0, x, h => k_dict0  h
  | c, .idx a i, x, h => k_idx (ckE_ok q c a) (ckE_ok q c i) h
  | c, .slice a lo hi, x, h => k_slice (ckE_ok q c a) (ckO_ok q c lo) (ckO_ok q c hi) h
  | c, .rev a, x, h => by cases h
  | c, .isinst a ts, x, h => k_isinst (ckE_ok q c a) h
  | c, .isexc i t, x, h => k_isexc  h
  | c, .callX f i, x, h => k_callX  h
  | c, .bf f a, x, h => k_bf (ckE_ok q c a) h
  | c, .join0 .., x, h => by cases h
  | c, .comp elt i it cond, x, h => k_comp (fun c => ckE_ok true c elt) (ckIt_ok c it) (fun c => ckC_ok c cond) h
  | c, .call k f args, x, h => k_call (ckEs_ok q c args) h
  | c, .own a, x, h => by
    obtain ⟨h0, h⟩ := Bool.and_eq_true_iff.mp h
    obtain ⟨h1, h2⟩ := (ckE_ok q c a x h).2 h0
    exact ⟨h1.both h2, fun z => by cases z⟩
  | c, .newDict es, x, h => k_newDict h
  | c, .append o a, x, h => k_append (ckE_ok q c o) (ckE_ok q c a) h
  | c, .extend .., x, h => by cases h
  | c, .clear o, x, h => k_clear (ckE_ok q c o) h
  | c, .remove .., x, h => by cases h
  | c, .pop .., x, h => by cases h
  | c, .popAt o a, x, h => k_popAt (ckE_ok q c o) (ckE_ok q c a) h
  | c, .get .., x, h => by cases h
  | c, .setdef o a d, x, h => k_setdef (ckE_ok q c o) (ckE_ok q c a) (ckE_ok q c d) h
  | c, .setdefL .., x, h => by cases h

theorem ckEs_ok (q : Bool) : ∀ (c : Ck) (es : List PE) (xs : List Expr), ckEs c es xs = true → AllJ am n q F c es xs
  | c, [], xs, h => emp_any (G := fun xs => AllJ am n q F c [] xs) h trivial
  | c, e :: es, xs, h => by
    cases xs with
    | nil => cases h
    | cons x xs =>
      have h : (!isStar x && (ckE c e x && ckEs c es xs)) = true := h
      exact ⟨⟨nt (al h), (ckE_ok q c e x (al (ar h))).1⟩, ckEs_ok q c es xs (ar (ar h))⟩
theorem ckO_ok (q : Bool) : ∀ (c : Ck) (e : Option PE) (x : Option Expr), ckO c e x = true → OptJ am n q F c e x
  | c, none, x, h => none_any (G := fun x => OptJ am n q F c none x) h trivial
  | c, some e, x, h => oneO_any (G := fun x => OptJ am n q F c (some e) x) h fun x h => show EJ am n q F c e x from fun {cx ρ A res π Hc s} => (ckE_ok q c e x h).1.1
theorem ckC_ok : ∀ (c : Ck) (e : Option PE) (xs : List Expr), ckC c e xs = true → CJ am n F c e xs
  | c, none, xs, h => emp_any (G := fun xs => CJ am n F c none xs) h cj_none
  | c, some e, xs, h => one_any (G := fun xs => CJ am n F c (some e) xs) h fun y h => cj_some (ckE_ok true c e _ h).1.2
theorem ckIt_ok : ∀ (c : Ck) (it : PIt) (x : Expr), ckIt c it x = true → ItJ am n F c it x
  | c, .seq e, x, h => by
    have hp := (ckE_ok true c e _ h).1
    exact it_seq hp.1
  | c, .range1 a, x, h => by
    refine named_any (G := ItJ am n F c (.range1 a)) h fun xs p p' hh => ?_
    refine one_any (G := fun xs => ItJ am n F c (.range1 a) (.Call (.Name "range" p) xs [] p')) hh fun y hh => ?_
    have hp := (ckE_ok true c a _ (ar hh)).1
    exact fun {cx ρ A res π Hc s} => it_range1 (al hh) (ck_isStar (ar hh)) hp.1
  | c, .range2 .., x, h => by cases h
  | c, .range3 .., x, h => by cases h
  | c, .enum .., x, h => by cases h
end
end

end Mine

namespace Mine
open PySem PySem.W PyProof.Rows

theorem wp_gen {M : Model} {A : Around} {α : Type} {t : Sem α} {Q : α → Shared → Prop} {E : Value → Shared → Prop} {s : Shared} (h : ∀ (Q' : α → Shared → Prop) (E' : Value → Shared → Prop), (∀ a s, Q a s → Q' a s) → (∀ y s, E y s → E' y s) → wpAny M A t Q' E' s) : wpAny M A t Q E s := h Q E (fun _ _ h => h) fun _ _ h => h

/-- a def's frame: its names are no one's values, and new since the call -/
structure Frm (am : Amb) (cx : Cx) (outer : List Env) (s₀ : Shared) : Prop where
  top : cx.stack = cx.env :: outer ∧ cx.env.frame = some cx.env.locals
  res : cx.env.locals ∈ am.res
  base : am.B.get? cx.env.locals = none
  fresh : s₀.heap.get? cx.env.locals = none
  cell : ∀ y c, cx.env.cells.lookup y = some c → c ∈ am.res ∧ am.B.get? c = none ∧ s₀.heap.get? c = none

theorem Frm.fs {am : Amb} {cx : Cx} {outer : List Env} {s₀ : Shared} (f : Frm am cx outer s₀) : Fs cx.stack = cx.env.locals :: Fs outer := by
  obtain ⟨h1, h2⟩ := f.top
  rw [h1]; simp [Fs, h2]

theorem Step.inn {am : Amb} {cx : Cx} {outer : List Env} {s₀ : Shared} (f : Frm am cx outer s₀) {π₀ π π' : List Addr} {s s' : Shared} (x : Step (Fs outer) π₀ s₀ π s) (y : Step (Fs cx.stack) π s π' s') : Step (Fs outer) π₀ s₀ π' s' := by
  rw [f.fs] at y
  refine ⟨?_, ⟨fun a o e h1 h2 => ?_, fun a o e h1 => ?_, fun a o e => ?_⟩, ?_⟩
  · obtain ⟨h', tk, e⟩ := x.same
    obtain ⟨h'', tk', e'⟩ := y.same
    exact ⟨h'', tk', by rw [e', e]⟩
  · refine y.ext.keep a o (x.ext.keep a o e h1 h2) (x.notin e h1) ?_
    rw [List.mem_cons, not_or]
    exact ⟨(fun q => by subst q; rw [f.fresh] at e; cases e), h2⟩
  · obtain ⟨sl, h3⟩ := x.ext.slots a o e h1
    obtain ⟨sl', h4⟩ := y.ext.slots a _ h3 (x.notin e h1)
    exact ⟨sl', h4⟩
  · obtain ⟨o', h3⟩ := x.ext.alive a o e
    exact y.ext.alive a o' h3
  · obtain ⟨δ, rfl, hδ⟩ := x.grow
    obtain ⟨δ', rfl, hδ'⟩ := y.grow
    refine ⟨δ ++ δ', by simp, fun a ha => ?_⟩
    rcases List.mem_append.mp ha with h1 | h1
    · exact hδ a h1
    · cases hq : s₀.heap.get? a with
      | none => rfl
      | some o =>
        obtain ⟨o', h3⟩ := x.ext.alive a o hq
        have := hδ' a h1; rw [h3] at this; cases this

theorem ground_in {am : Amb} {cx : Cx} {outer : List Env} {s₀ : Shared} (f : Frm am cx outer s₀) {π₀ π : List Addr} {s : Shared} (x : Step (Fs outer) π₀ s₀ π s) : (ground outer π₀ s₀.heap).StaysIn (ground cx.stack π s.heap) := by
  intro b o e
  have h1 := of_hideAll _ e
  have hn : b ∉ π₀ ++ Fs outer := fun hm => by rw [hideAll_none _ hm] at e; cases e
  rw [List.mem_append, not_or] at hn
  refine hideAll_get _ (x.ext.keep b o h1 hn.1 hn.2) ?_
  rw [List.mem_append, not_or, f.fs, List.mem_cons, not_or]
  exact ⟨x.notin h1 hn.1, (fun q => by subst q; rw [f.fresh] at h1; cases h1), hn.2⟩

noncomputable def FlR (am : Amb) (π : List Addr) (h : Heap) : Fl → Flow → Prop
  | .next, f => f = .next
  | .ret v, f => ∃ x, f = .ret x ∧ VR am π h v x

/-- how a statement ends, told of the heap; since the call's start -/
inductive SOk (am : Amb) (cx : Cx) (outer : List Env) (q : Bool) (A : Around) (π₀ : List Addr) (s₀ : Shared) (G : List Addr → Shared → Prop) (r : RS) (f : Flow) (s' : Shared) : Prop
  | mk (fl : Fl) (ρ' : List V) (H' : H) (π' : List Addr) (h1 : r = .ok fl ρ' H') (h2 : Step (Fs outer) π₀ s₀ π' s') (h3 : St am q cx ρ' π' H' A s') (h4 : q = true → NoExc ρ') (h5 : FlR am π' s'.heap fl f) (h6 : G π' s')
inductive SEr (am : Amb) (cx : Cx) (outer : List Env) (q : Bool) (A : Around) (π₀ : List Addr) (s₀ : Shared) (r : RS) (x : Value) (s' : Shared) : Prop
  | mk (c : String) (ρ' : List V) (H' : H) (π' : List Addr) (e C : Addr) (fl : Option Value) (h1 : r = .err c ρ' H') (h2 : x = .ref e) (h3 : am.mg (Str.ofString c) = some (.ref C)) (h4 : Step (Fs outer) π₀ s₀ π' s') (h5 : St am q cx ρ' π' H' A s') (h6 : q = true → NoExc ρ') (h7 : XAt (ground outer π₀ s₀.heap) s'.heap e (.ref C) fl)

/-- a statement's walk -/
noncomputable def SP (am : Amb) (cx : Cx) (outer : List Env) (q : Bool) (A : Around) (π₀ : List Addr) (s₀ : Shared) (G : List Addr → Shared → Prop) (T : PT Flow) (r : RS) (s : Shared) : Prop :=
  r = .bad ∨ T (SOk am cx outer q A π₀ s₀ G r) (SEr am cx outer q A π₀ s₀ r) s

section
variable {am : Amb} {n : Nat} {q : Bool} {F : Fn} {c : Ck} {cx : Cx} {ρ : List V} {A : Around} {res : List Addr} {outer : List Env} {π₀ : List Addr} {s₀ : Shared} {G : List Addr → Shared → Prop} {π : List Addr} {Hc : H} {s : Shared}

/-- what a walk through statements stands on -/
structure Stm (am : Amb) (n : Nat) (q : Bool) (F : Fn) (c : Ck) (cx : Cx) (A : Around) (res : List Addr) (outer : List Env) (π₀ : List Addr) (s₀ : Shared) (G : List Addr → Shared → Prop) (ρ : List V) (π : List Addr) (Hc : H) (s : Shared) : Prop where
  b : Base am n q F c cx ρ A
  f : Frm (am.at res) cx outer s₀
  go : Step (Fs outer) π₀ s₀ π s
  st : St (am.at res) q cx ρ π Hc A s
  low : am.B.StaysIn (ground outer π₀ s₀.heap)
  g : G π s
  gk : ∀ π s π' s', G π s → Mv res (Fs cx.stack) π s π' s' → G π' s'

theorem Base.set {ρ' : List V} (b : Base am n q F c cx ρ A) (h : q = true → NoExc ρ') : Base am n q F c cx ρ' A := ⟨b.ok, b.fn, b.ck, b.cxk, b.as, h⟩

theorem Stm.step (x : Stm am n q F c cx A res outer π₀ s₀ G ρ π Hc s) {π' : List Addr} {H' : H} {s' : Shared} (y : Step (Fs cx.stack) π s π' s') (hr : HR (am.at res) cx.stack π' H' s'.heap) : Stm am n q F c cx A res outer π₀ s₀ G ρ π' H' s' :=
  ⟨x.b, x.f, x.go.inn x.f y, x.st.step y hr, x.low, x.gk _ _ _ _ x.g (.of y), x.gk⟩

theorem sbindT {α β : Type} {T0 : PT α} (hT0 : PT.Mono T0) {r : R β} {Rel : List Addr → Heap → β → α → Prop} {g : β → H → RS} {T : α → PT Flow} (x : Stm am n q F c cx A res outer π₀ s₀ G ρ π Hc s) (h1 : JT (am.at res) cx.stack T0 r Rel π s)
    (h2 : ∀ a b H' π' s', r = .ok b H' → Stm am n q F c cx A res outer π₀ s₀ G ρ π' H' s' → Rel π' s'.heap b a → SP (am.at res) cx outer q A π₀ s₀ G (T a) (g b H') s') :
    SP (am.at res) cx outer q A π₀ s₀ G (fun Q E s => T0 (fun a s₁ => T a Q E s₁) E s) (r.st ρ g) s := by
  rcases h1 with rfl | h1
  · exact .inl rfl
  · cases r with
    | bad => exact .inl rfl
    | err d H' =>
      refine .inr (hT0 _ _ _ _ _ (fun a s' h => ?_) (fun e s' h => ?_) h1)
      · obtain ⟨_, _, _, h, _⟩ := h; cases h
      · refine hold fun _ k_ => ?_
        obtain ⟨c', H'', π', e', C, fl, h, h2, h3, h4, h5, h6⟩ := h
        refine k_ ?_
        cases h
        have y := x.step h4 h5
        exact ⟨d, ρ, H', π', e', C, fl, rfl, h2, h3, y.go, y.st, x.b.ne, h6.mono (ground_in x.f x.go)⟩
    | ok b H' =>
      by_cases hb : g b H' = .bad
      · exact .inl hb
      · refine .inr (hT0 _ _ _ _ _ (fun a s' h => ?_) (fun e s' h => ?_) h1)
        · refine hold fun _ k_ => ?_
          obtain ⟨b', H'', π', h, h3, h4, h5⟩ := h
          refine k_ ?_
          cases h
          rcases h2 a b H' π' s' rfl (x.step h3 h4) h5 with h6 | h6
          · exact absurd h6 hb
          · exact h6
        · obtain ⟨_, _, _, _, _, _, h, _⟩ := h; cases h
theorem sbind {α β : Type} {m : Sem α} {r : R β} {Rel : List Addr → Heap → β → α → Prop} {g : β → H → RS} {T : α → PT Flow} (x : Stm am n q F c cx A res outer π₀ s₀ G ρ π Hc s) (h1 : JAt (am.at res) cx.stack A m r Rel π s)
    (h2 : ∀ a b H' π' s', r = .ok b H' → Stm am n q F c cx A res outer π₀ s₀ G ρ π' H' s' → Rel π' s'.heap b a → SP (am.at res) cx outer q A π₀ s₀ G (T a) (g b H') s') :
    SP (am.at res) cx outer q A π₀ s₀ G (fun Q E s => wpAny am.M A m (fun a s₁ => T a Q E s₁) E s) (r.st ρ g) s :=
  sbindT (PT.wp _ _) x h1 h2

theorem SP.rule {T T' : PT Flow} {r : RS} {am : Amb} (h : SP am cx outer q A π₀ s₀ G T r s) (k : ∀ Q E, T Q E s → T' Q E s) : SP am cx outer q A π₀ s₀ G T' r s := by
  rcases h with h | h
  · exact .inl h
  · exact .inr (k _ _ h)

/-- a name's new value -/
theorem assign_ok (x : Stm am n q F c cx A res outer π₀ s₀ G ρ π Hc s) {y : Str} {i : Nat} {v : V} {xv : Value} (hv : VR (am.at res) π s.heap v xv) (hy : c.var y i = true) (hk : c.names.lookup y ≠ some .free) (hinj : (c.ctx.map (·.2)).Nodup) {Q : Unit → Shared → Prop} {E : Value → Shared → Prop}
    (h : ∀ s', Stm am n q F c cx A res outer π₀ s₀ G (ρ.set i v) π Hc s' → (∀ C, s₀.heap.get? C = none → C ≠ cx.env.locals → (∀ z d, cx.env.cells.lookup z = some d → d ≠ C) → ∀ o, s.heap.get? C = some o → s'.heap.get? C = some o) → (∀ b o, b ∉ (am.at res).res → s.heap.get? b = some o → s'.heap.get? b = some o) → Q () s') :
    wpAny am.M A (storeName cx.env y xv) Q E s := by
  unfold Ck.var at hy
  simp only [Bool.and_eq_true, beq_iff_eq, Bool.not_eq_true'] at hy
  refine hold fun _ k_ => ?_
  obtain ⟨⟨⟨h1, h2⟩, h3⟩, h4⟩ := hy
  refine k_ ?_
  have ne' : q = true → NoExc (ρ.set i v) := fun hq => (x.b.ne hq).set hv.noexc
  -- one slot, one name
  have uniq : ∀ z, cx.ctx.lookup z = some i → z = y := by
    intro z hz
    rw [x.b.ck.ctx] at hz
    have a1 := lookup_mem hz
    have a2 := lookup_mem h1
    have : ∀ (l : List (Str × Nat)), (l.map (·.2)).Nodup → (z, i) ∈ l → (y, i) ∈ l → z = y := by
      intro l
      induction l with
      | nil => intro _ h _; simp at h
      | cons p l ih =>
        intro hn hz hy
        rw [List.map_cons, List.nodup_cons] at hn
        rcases List.mem_cons.mp hz with hz1 | hz2
        · rcases List.mem_cons.mp hy with hy1 | hy2
          · rw [← hz1] at hy1; cases hy1; rfl
          · exact absurd (List.mem_map.mpr ⟨(y, i), hy2, by rw [← hz1]⟩ : p.2 ∈ l.map (·.2)) hn.1
        · rcases List.mem_cons.mp hy with hy1 | hy2
          · exact absurd (List.mem_map.mpr ⟨(z, i), hz2, by rw [← hy1]⟩ : p.2 ∈ l.map (·.2)) hn.1
          · exact ih hn.2 hz2 hy2
    exact this _ hinj a1 a2
  have excOff : ∀ {d : String} {a C : Addr} {h' : Heap}, ExcAt (am.at res) s.heap d a → (∃ o, s.heap.get? C = some o ∧ ∀ us, o.data ≠ .fields us) → Poke C s.heap h' → ExcAt (am.at res) h' d a := by
    intro d a C h' e hC p
    refine hold fun _ k_ => ?_
    obtain ⟨C', o, vs, e1, e2, e3, e4, e5, e6⟩ := e
    refine k_ ?_
    exact ⟨C', o, vs, e1, p a o (fun q => (ne_nf hC e2 e4) q.symm) e2, e3, e4, e5, e6⟩
  have hdOff : ∀ {C : Addr} {h' : Heap}, (∃ o, s.heap.get? C = some o ∧ ∀ us, o.data ≠ .fields us) → Poke C s.heap h' → Hd q A π (Fs cx.stack) h' := by
    intro C h' hC p
    have e := x.st.hd
    unfold Hd at e ⊢
    split
    · rename_i hq; rw [if_pos hq] at e; exact e
    · rename_i hq
      rw [if_neg hq] at e
      refine hold fun _ k_ => ?_
      obtain ⟨he, o, vs, e1, e2, e3, e4, e5, e6⟩ := e
      refine k_ ?_
      exact ⟨he, o, vs, e1, e2, e3, p he o (fun q => (ne_nf hC e4 e5) q.symm) e4, e5, e6⟩
  have main : ∀ (C : Addr) (h' : Heap) (tk : Nat), C ∈ (am.at res).res → (am.at res).B.get? C = none → C ∉ π → s₀.heap.get? C = none → (∃ o, s.heap.get? C = some o ∧ ∀ us, o.data ≠ .fields us) → (∃ o, h'.get? C = some o ∧ ∀ us, o.data ≠ .fields us) → Poke C s.heap h' →
      ER (am.at res) cx (ρ.set i v) π h' → Stm am n q F c cx A res outer π₀ s₀ G (ρ.set i v) π Hc { s with heap := h', toks := tk } := by
    intro C h' tk c1 c2 c3 c4 c5 c6 p er
    exact ⟨x.b.set ne', x.f, x.go.poke c4 p, ⟨x.st.hr.freed c1 c2 c3 p c6, er, hdOff c5 p⟩, x.low, x.gk _ _ _ _ x.g (Mv.poke (.of (Step.refl _ _ _)) (.inl ⟨c1, let ⟨o, ho, _⟩ := c6; ⟨o, ho⟩⟩) p), x.gk⟩
  have srOff : ∀ {C : Addr} {h' : Heap} {w : V} {u : Value}, C ∈ (am.at res).res → (∃ o, s.heap.get? C = some o ∧ ∀ us, o.data ≠ .fields us) → Poke C s.heap h' → SR (am.at res) π s.heap w u → SR (am.at res) π h' w u := by
    intro C h' w u c1 c5 p e
    rcases e with e | ⟨d, a, e1, e2, e3, e4⟩
    · exact .inl (e.free fun b o hb z => p b o (fun q => hb (q ▸ c1)) z)
    · exact .inr ⟨d, a, e1, e2, e3, excOff e4 c5 p⟩
  have hvis : cx.env.kindOf y = some .local ∨ cx.env.kindOf y = some .cell := by
    rw [kind_is x.b.ck]
    unfold visible at h2
    simp only [Bool.or_eq_true, beq_iff_eq] at h2
    rcases h2 with (h2 | h2) | h2
    · exact .inl h2
    · exact .inr h2
    · exact absurd h2 hk
  have hlt : ∀ w, (ρ.set i v)[i]? = some w → w = v := fun w hw => by
    have hl : i < ρ.length := by have := (List.getElem?_eq_some_iff.mp hw).1; simpa using this
    rw [List.getElem?_set_self hl] at hw; cases hw; rfl
  have er := x.st.er
  rcases hvis with hkl | hkc
  · obtain ⟨m, hm⟩ := er.ns
    refine wpAny_storeName_local hkl hm (fun h' hn' sb => ?_) (by simp [x.b.cxk.kind])
    have p : Poke cx.env.locals s.heap h' := fun b o hb e => sb.extBut b o hb e
    refine h _ (main cx.env.locals h' (s.toks + 1) x.f.res x.f.base er.locOff x.f.fresh (Ns.nf hm) (Ns.nf hn') p ?_) (fun C _ hC _ o ho => p C o hC ho) (fun b o hb e => p b o (fun q => hb (q ▸ x.f.res)) e)
    refine ⟨⟨_, hn'⟩, er.locOff, fun z d hd => ?_, er.apart, fun z j w e1 e2 e3 e4 => ?_⟩
    · refine hold fun _ k_ => ?_
      obtain ⟨a1, a2, u, o, ho, r⟩ := er.cellOff z d hd
      refine k_ ?_
      exact ⟨a1, a2, u, o, p d o a2 ho, r⟩
    · by_cases hj : j = i
      · subst hj
        have := uniq z e1; subst this
        have := hlt w e2; subst this
        exact ⟨xv, .inl ⟨hkl, _, hn', by simp⟩, .inl (hv.free fun b o hb z => p b o (fun q => hb (q ▸ x.f.res)) z)⟩
      · have hz : z ≠ y := fun q => by
          subst q; rw [x.b.ck.ctx, h1] at e1; cases e1; exact hj rfl
        rw [List.getElem?_set_ne (Ne.symm hj)] at e2
        obtain ⟨u, e5, e6⟩ := er.var z j w e1 e2 e3 e4
        refine ⟨u, ?_, srOff x.f.res (Ns.nf hm) p e6⟩
        rcases e5 with ⟨k, m', e7, e8⟩ | ⟨k, d, e7, o, ho, r⟩
        · refine .inl ⟨k, _, hn', ?_⟩
          have hmm : m z = m' z := by
            refine hold fun _ k_ => ?_
            obtain ⟨o1, es1, ep1, a1, a2, a3, a4⟩ := hm
            refine k_ ?_
            refine hold fun _ k_ => ?_
            obtain ⟨o2, es2, ep2, b1, b2, b3, b4⟩ := e7
            refine k_ ?_
            rw [a1] at b1; cases b1; rw [a2] at b2; cases b2
            rw [← a4 z, ← b4 z]
          simp only [hz, if_false]
          rw [hmm]; exact e8
        · exact .inr ⟨k, d, e7, o, p d o (er.cellOff z d e7).2.1 ho, r⟩
  · obtain ⟨d, hd⟩ := x.b.cxk.clos y (.inl hkc)
    refine hold fun _ k_ => ?_
    obtain ⟨a1, a2, u, hcell⟩ := er.cellOff y d hd
    refine k_ ?_
    obtain ⟨f1, f2, f3⟩ := x.f.cell y d hd
    have nfc : ∀ {h : Heap} {u : Option Value}, h.IsCell d u → ∃ o, h.get? d = some o ∧ ∀ us, o.data ≠ .fields us := fun {h u} hc => let ⟨o, ho, hdd⟩ := hc; ⟨o, ho, fun us q => by rw [hdd] at q; cases q⟩
    refine wpAny_storeName_cell x.b.cxk.kind hkc hd hcell fun h' hc' sb => ?_
    have p : Poke d s.heap h' := fun b o hb e => sb.extBut b o hb e
    refine h _ (main d h' s.toks f1 f2 a1 f3 (nfc hcell) (nfc hc') p ?_) (fun C _ _ hC o ho => p C o (fun q => hC y d hd q.symm) ho) (fun b o hb e => p b o (fun q => hb (q ▸ f1)) e)
    obtain ⟨m, hm⟩ := er.ns
    refine ⟨⟨m, Ns.at hm fun o e => p _ o (Ne.symm a2) e⟩, er.locOff, fun z d' hd' => ?_, er.apart, fun z j w e1 e2 e3 e4 => ?_⟩
    · refine hold fun _ k_ => ?_
      obtain ⟨b1, b2, u', o, ho, r⟩ := er.cellOff z d' hd'
      refine k_ ?_
      by_cases hdd : d' = d
      · subst hdd; exact ⟨b1, b2, _, hc'⟩
      · exact ⟨b1, b2, u', o, p d' o hdd ho, r⟩
    · by_cases hj : j = i
      · subst hj
        have := uniq z e1; subst this
        have := hlt w e2; subst this
        exact ⟨xv, .inr ⟨.inl hkc, d, hd, hc'⟩, .inl (hv.free fun b o hb z => p b o (fun q => hb (q ▸ f1)) z)⟩
      · have hz : z ≠ y := fun q => by
          subst q; rw [x.b.ck.ctx, h1] at e1; cases e1; exact hj rfl
        rw [List.getElem?_set_ne (Ne.symm hj)] at e2
        obtain ⟨u', e5, e6⟩ := er.var z j w e1 e2 e3 e4
        refine ⟨u', ?_, srOff f1 (nfc hcell) p e6⟩
        rcases e5 with ⟨k, m', e7, e8⟩ | ⟨k, d', e7, o, ho, r⟩
        · exact .inl ⟨k, m', Ns.at e7 fun o e => p _ o (Ne.symm a2) e, e8⟩
        · have hdd : d' ≠ d := fun q => hz (er.apart z y d (q ▸ e7) hd)
          exact .inr ⟨k, d', e7, o, p d' o hdd ho, r⟩
end

end Mine

namespace Mine
open PySem PySem.W PyProof.Rows

theorem via_sub {am am' : Amb} (k : ∀ a, a ∈ am'.res → a ∈ am.res) {π : List Addr} {h : Heap} : Via am am' π π h h := ⟨fun a o ho _ h1 h2 => ⟨⟨o.slots, ho⟩, h1, fun q => h2 (k a q)⟩, fun _ _ e => e⟩
theorem VR.sub {am am' : Amb} (k : ∀ a, a ∈ am'.res → a ∈ am.res) {π : List Addr} {h : Heap} {v : V} {y : Value} (e : VR am π h v y) : VR am' π h v y := e.via (via_sub k)
theorem VRs.sub {am am' : Amb} (k : ∀ a, a ∈ am'.res → a ∈ am.res) {π : List Addr} {h : Heap} {vs : List V} {ys : List Value} (e : VRs am π h vs ys) : VRs am' π h vs ys := e.via (via_sub k)

theorem HR.sub {am : Amb} {r r' : List Addr} (k : ∀ a, a ∈ r' → a ∈ r) {stack : List Env} {π : List Addr} {Hc : H} {h : Heap} (x : HR (am.at r) stack π Hc h) : HR (am.at r') stack π Hc h :=
  ⟨x.base, x.frames, x.len, x.nodup, fun a ha => x.res a (k a ha), x.off, fun i c a h1 h2 => by
    obtain ⟨o, xs, e0, e1, e2, e3⟩ := x.cell i c a h1 h2
    exact ⟨o, xs, e0, e1, e2, e3.sub k⟩⟩

section
variable {am : Amb} {n : Nat} {q : Bool} {F : Fn} {c : Ck}

noncomputable def SJ (am : Amb) (n : Nat) (q : Bool) (F : Fn) (c : Ck) (p : PS) (x : Stmt) : Prop := ∀ ⦃cx : Cx⦄ ⦃ρ : List V⦄ ⦃A : Around⦄ ⦃res : List Addr⦄ ⦃outer : List Env⦄ ⦃π₀ : List Addr⦄ ⦃s₀ : Shared⦄ ⦃G : List Addr → Shared → Prop⦄ ⦃π : List Addr⦄ ⦃Hc : H⦄ ⦃s : Shared⦄,
  Stm am n q F c cx A res outer π₀ s₀ G ρ π Hc s → SP (am.at res) cx outer q A π₀ s₀ G (fun Q E s => wpAny am.M A (exec x cx.env) Q E s) (exS q F p ρ Hc) s
noncomputable def SsJ (am : Amb) (n : Nat) (q : Bool) (F : Fn) (c : Ck) (ps : List PS) (xs : List Stmt) : Prop := ∀ ⦃cx : Cx⦄ ⦃ρ : List V⦄ ⦃A : Around⦄ ⦃res : List Addr⦄ ⦃outer : List Env⦄ ⦃π₀ : List Addr⦄ ⦃s₀ : Shared⦄ ⦃G : List Addr → Shared → Prop⦄ ⦃π : List Addr⦄ ⦃Hc : H⦄ ⦃s : Shared⦄,
  Stm am n q F c cx A res outer π₀ s₀ G ρ π Hc s → SP (am.at res) cx outer q A π₀ s₀ G (fun Q E s => wpAny am.M A (execs xs cx.env) Q E s) (exSs q F ps ρ Hc) s

theorem SOk.here {cx : Cx} {ρ : List V} {A : Around} {res : List Addr} {outer : List Env} {π₀ : List Addr} {s₀ : Shared} {G : List Addr → Shared → Prop} {π : List Addr} {Hc : H} {s : Shared} (x : Stm am n q F c cx A res outer π₀ s₀ G ρ π Hc s) : SOk (am.at res) cx outer q A π₀ s₀ G (.ok .next ρ Hc) .next s :=
  ⟨.next, ρ, Hc, π, rfl, x.go, x.st, x.b.ne, rfl, x.g⟩

theorem ss_nil : SsJ am n q F c [] [] := fun cx ρ A res outer π₀ s₀ G π Hc s x => by
  simp only [qSs_1, qSs_2]
  exact .inr (wpAny_execs_nil (SOk.here x))
theorem sp_cons {p : PS} {ps : List PS} {y : Stmt} {ys : List Stmt} {cx : Cx} {ρ : List V} {A : Around} {res : List Addr} {outer : List Env} {π₀ : List Addr} {s₀ : Shared} {G : List Addr → Shared → Prop} {π : List Addr} {Hc : H} {s : Shared} (x : Stm am n q F c cx A res outer π₀ s₀ G ρ π Hc s)
    (h1 : SP (am.at res) cx outer q A π₀ s₀ G (fun Q E s => wpAny am.M A (exec y cx.env) Q E s) (exS q F p ρ Hc) s)
    (h2 : ∀ ρ' π' H' s', Stm am n q F c cx A res outer π₀ s₀ G ρ' π' H' s' → SP (am.at res) cx outer q A π₀ s₀ G (fun Q E s => wpAny am.M A (execs ys cx.env) Q E s) (exSs q F ps ρ' H') s') :
    SP (am.at res) cx outer q A π₀ s₀ G (fun Q E s => wpAny am.M A (execs (y :: ys) cx.env) Q E s) (exSs q F (p :: ps) ρ Hc) s := by
  rw [qSs_2]
  rcases h1 with h | h
  · exact .inl (by rw [h]; rfl)
  · cases hr : exS q F p ρ Hc with
    | bad => exact .inl rfl
    | err d ρ' H' =>
      rw [hr] at h
      refine .inr (wpAny_execs_cons (wpAny_mono h (fun f s' z => ?_) fun e s' z => z))
      obtain ⟨_, _, _, _, z, _⟩ := z; cases z
    | ok fl ρ' H' =>
      rw [hr] at h
      cases fl with
      | ret v =>
        refine .inr (wpAny_execs_cons (wpAny_mono h (fun f s' z => ?_) fun e s' z => z))
        refine hold fun _ k_ => ?_
        obtain ⟨fl, ρ2, H2, π2, z1, z2, z3, z4, z5, zg⟩ := z
        refine k_ ?_
        cases z1
        obtain ⟨xv, rfl, z6⟩ := z5
        exact ⟨_, _, _, _, rfl, z2, z3, z4, ⟨xv, rfl, z6⟩, zg⟩
      | next =>
        rw [RS.then_next]
        by_cases hb : exSs q F ps ρ' H' = .bad
        · exact .inl hb
        · refine .inr (wpAny_execs_cons (wpAny_mono h (fun f s' z => ?_) fun e s' z => ?_))
          · refine hold fun _ k_ => ?_
            obtain ⟨fl, ρ2, H2, π2, z1, z2, z3, z4, z5, zg⟩ := z
            refine k_ ?_
            cases z1
            cases z5
            rcases h2 ρ' π2 H' s' ⟨x.b.set z4, x.f, z2, z3, x.low, zg, x.gk⟩ with h3 | h3
            · exact absurd h3 hb
            · exact h3
          · obtain ⟨_, _, _, _, _, _, _, z, _⟩ := z; cases z
theorem ss_cons {p : PS} {ps : List PS} {y : Stmt} {ys : List Stmt} (h1 : SJ am n q F c p y) (h2 : SsJ am n q F c ps ys) : SsJ am n q F c (p :: ps) (y :: ys) := fun cx ρ A res outer π₀ s₀ G π Hc s x => sp_cons x (h1 x) fun _ _ _ _ x' => h2 x'

theorem s_pass {p : Pos} : SJ am n q F c .pass (.Pass p) := fun cx ρ A res outer π₀ s₀ G π Hc s x => by
  simp only [qS_1, qS_2, qS_3, qS_4, qS_5, qS_6, qS_7, qS_8, qS_9, qS_10, qS_11, qS_12, qS_13, qS_14]
  exact .inr (wpAny_Pass (SOk.here x))

theorem s_ret {e : PE} {y : Expr} {p : Pos} (h : EJ am n q F c e y) : SJ am n q F c (.ret e) (.Return (some y) p) := fun cx ρ A res outer π₀ s₀ G π Hc s x => by
  simp only [qS_1, qS_2, qS_3, qS_4, qS_5, qS_6, qS_7, qS_8, qS_9, qS_10, qS_11, qS_12, qS_13, qS_14]
  refine SP.rule (T := fun Q E s => wpAny am.M A (eval y cx.env) (fun v s₁ => Q (.ret v) s₁) E s) (sbind x (h x.b x.st) fun a b H' π' s' _ x' hv => .inr ⟨.ret b, ρ, H', π', rfl, x'.go, x'.st, x'.b.ne, ⟨a, rfl, hv⟩, x'.g⟩) fun Q E h => wpAny_Return_some h

theorem s_if {t : PE} {a b : List PS} {y : Expr} {ys zs : List Stmt} {p : Pos} (ht : TJ am n q F c t y) (ha : SsJ am n q F c a ys) (hb : SsJ am n q F c b zs) : SJ am n q F c (.ifs t a b) (.If y ys zs p) := fun cx ρ A res outer π₀ s₀ G π Hc s x => by
  have e : exS q F (.ifs t a b) ρ Hc = (tr (evE q F ρ t Hc)).st ρ fun v h => if v then exSs q F a ρ h else exSs q F b ρ h := by
    simp only [qS_1, qS_2, qS_3, qS_4, qS_5, qS_6, qS_7, qS_8, qS_9, qS_10, qS_11, qS_12, qS_13, qS_14]
    cases evE q F ρ t Hc with
    | ok v h =>
      simp only [tr, R.bind_ok, R.st_ok]
      cases truthy v with
      | none => rfl
      | some u => cases u <;> rfl
    | _ => rfl
  rw [e]
  refine SP.rule (T := fun Q E s => wpAny am.M A (isTrue y cx.env (eval y cx.env)) (fun v s₁ => if v then wpAny am.M A (execs ys cx.env) Q E s₁ else wpAny am.M A (execs zs cx.env) Q E s₁) E s) (sbind x (ht x.b x.st) fun v b' H' π' s' _ x' hv => ?_) fun Q E h => wpAny_If h
  unfold BR at hv; subst hv
  cases b' with
  | true => exact ha x'
  | false => exact hb x'

theorem not_interactive {cx : Cx} (h : CxOK cx) : interactive cx.env = false := by
  unfold interactive; simp [h.kind]

noncomputable def isCall (e : Expr) : Bool := @Expr.casesOn (fun _ => Bool) e (fun _ _ _ => false) (fun _ _ _ => false) (fun _ _ _ _ => false) (fun _ _ _ => false) (fun _ _ _ _ => false) (fun _ _ _ _ => false) (fun _ _ _ => false) (fun _ _ _ => false) (fun _ _ _ _ => false) (fun _ _ _ _ => false) (fun _ _ _ _ _ => false) (fun _ _ _ _ => false) (fun _ _ => false) (fun _ _ => false) (fun _ _ => false) (fun _ _ _ _ => false) (fun _ _ _ _ => true) (fun _ _ _ _ => false) (fun _ _ => false) (fun _ _ _ => false) (fun _ _ _ => false) (fun _ _ _ => false) (fun _ _ => false) (fun _ _ => false) (fun _ _ => false) (fun _ _ _ => false) (fun _ _ _ _ => false)
theorem s_expr {e : PE} {y : Expr} {p : Pos} (hc : isCall y = true) (h : EJ am n q F c e y) : SJ am n q F c (.expr e) (.Expr y p) := fun cx ρ A res outer π₀ s₀ G π Hc s x => by
  simp only [qS_1, qS_2, qS_3, qS_4, qS_5, qS_6, qS_7, qS_8, qS_9, qS_10, qS_11, qS_12, qS_13, qS_14]
  refine SP.rule (T := fun Q E s => wpAny am.M A (eval y cx.env) (fun v s₁ => match v with | .ref _ => False | _ => Q .next s₁) E s) (sbind x (h x.b x.st) fun a b H' π' s' _ x' hv => ?_) fun Q E h => wpAny_Expr h (not_interactive x.b.cxk) (by cases y <;> first | rfl | exact noB hc)
  cases b with
  | none => simp only [VR] at hv; subst hv; exact .inr (SOk.here x')
  | int i => first | exact .inl rfl | (simp only [VR] at hv; obtain ⟨t, rfl⟩ := hv; exact .inr (SOk.here x'))
  | _ => exact .inl rfl

/-- a comprehension, its store taken into it -/
noncomputable def isComp (e : Expr) : Bool := @Expr.casesOn (fun _ => Bool) e (fun _ _ _ => false) (fun _ _ _ => false) (fun _ _ _ _ => false) (fun _ _ _ => false) (fun _ _ _ _ => false) (fun _ _ _ _ => false) (fun _ _ _ => false) (fun _ _ _ => false) (fun _ _ _ _ => true) (fun _ _ _ _ => true) (fun _ _ _ _ _ => true) (fun _ _ _ _ => false) (fun _ _ => false) (fun _ _ => false) (fun _ _ => false) (fun _ _ _ _ => false) (fun _ _ _ _ => false) (fun _ _ _ _ => false) (fun _ _ => false) (fun _ _ _ => false) (fun _ _ _ => false) (fun _ _ _ => false) (fun _ _ => false) (fun _ _ => false) (fun _ _ => false) (fun _ _ _ => false) (fun _ _ _ _ => false)

theorem swaps_plain {y : Expr} (h : isComp y = false) (t : Option Expr) (l : Nat) (env : Env) : swapsWith y t l env = pure false := by
  cases y <;> first | rfl | exact noB h.symm

theorem s_asg_plain {i : Nat} {e : PE} {y : Expr} {v : Str} {p p' : Pos} (hv : c.var v i = true) (hk : c.names.lookup v ≠ some .free) (hinj : (c.ctx.map (·.2)).Nodup) (h : EJ am n q F c e y)
    {cx : Cx} {ρ : List V} {A : Around} {res : List Addr} {outer : List Env} {π₀ : List Addr} {s₀ : Shared} {G : List Addr → Shared → Prop} {π : List Addr} {Hc : H} {s : Shared} (x : Stm am n q F c cx A res outer π₀ s₀ G ρ π Hc s) (hs : swapsWith y (some (.Name v p')) p.line cx.env = pure false) :
    SP (am.at res) cx outer q A π₀ s₀ G (fun Q E s => wpAny am.M A (exec (.Assign [.Name v p'] y p) cx.env) Q E s) (exS q F (.asg i e) ρ Hc) s := by
  simp only [qS_1, qS_2, qS_3, qS_4, qS_5, qS_6, qS_7, qS_8, qS_9, qS_10, qS_11, qS_12, qS_13, qS_14]
  refine SP.rule (T := fun Q E s => wpAny am.M A (eval y cx.env) (fun w s₁ => wpAny am.M A (storeName cx.env v w) (fun _ => Q .next) E s₁) E s) (sbind x (h x.b x.st) fun a b H' π' s' _ x' hw => ?_) fun Q E h => wpAny_Assign_Name h hs
  exact .inr (assign_ok x' hw hv hk hinj fun s'' x'' _ _ => SOk.here x'')
end

end Mine

namespace Mine
open PySem PySem.W PyProof.Rows

section
variable {am : Amb} {n : Nat} {q : Bool} {F : Fn} {c : Ck}

theorem SR.sub {am am' : Amb} (k : ∀ a, a ∈ am'.res → a ∈ am.res) (hmg : am'.mg = am.mg) (hB : am'.B = am.B) {π : List Addr} {h : Heap} {v : V} {x : Value} (e : SR am π h v x) : SR am' π h v x := by
  rcases e with e | ⟨d, a, h1, h2, h3, C, o, vs, e1, e2⟩
  · exact .inl (e.sub k)
  · exact .inr ⟨d, a, h1, h2, h3, C, o, vs, by rw [hmg]; exact e1, by rw [hB]; exact e2⟩

theorem ER.sub {am : Amb} {r r' : List Addr} (k : ∀ a, a ∈ r' → a ∈ r) {cx : Cx} {ρ : List V} {π : List Addr} {h : Heap} (e : ER (am.at r) cx ρ π h) : ER (am.at r') cx ρ π h :=
  ⟨e.ns, e.locOff, e.cellOff, e.apart, fun x i v h1 h2 h3 h4 => let ⟨v', h5, h6⟩ := e.var x i v h1 h2 h3 h4; ⟨v', h5, SR.sub (am := am.at r) (am' := am.at r') k rfl rfl h6⟩⟩

/-- a reserved thing that is none of the frame's changes -/
theorem ER.poke {am : Amb} {cx : Cx} {ρ : List V} {π : List Addr} {h h' : Heap} {C : Addr} (e : ER am cx ρ π h) (hC : C ∈ am.res) (p : Poke C h h') (hnf : ∃ o, h.get? C = some o ∧ ∀ us, o.data ≠ .fields us) (hl : cx.env.locals ≠ C) (hc : ∀ z d, cx.env.cells.lookup z = some d → d ≠ C) : ER am cx ρ π h' := by
  obtain ⟨m, hm⟩ := e.ns
  refine ⟨⟨m, Ns.at hm fun o z => p _ o hl z⟩, e.locOff, fun z d hd => ?_, e.apart, fun z j w e1 e2 e3 e4 => ?_⟩
  · refine hold fun _ k_ => ?_
    obtain ⟨a1, a2, u, o, ho, r⟩ := e.cellOff z d hd
    refine k_ ?_
    exact ⟨a1, a2, u, o, p d o (hc z d hd) ho, r⟩
  · obtain ⟨u, e5, e6⟩ := e.var z j w e1 e2 e3 e4
    refine ⟨u, ?_, ?_⟩
    · rcases e5 with ⟨k, m', e7, e8⟩ | ⟨k, d, e7, o, ho, r⟩
      · exact .inl ⟨k, m', Ns.at e7 fun o z => p _ o hl z, e8⟩
      · exact .inr ⟨k, d, e7, o, p d o (hc z d e7) ho, r⟩
    · rcases e6 with e6 | ⟨d, a, f1, f2, f3, C', o, vs, g1, g2, g3, g4, g5⟩
      · exact .inl (e6.free fun b o hb z => p b o (fun q => hb (q ▸ hC)) z)
      · exact .inr ⟨d, a, f1, f2, f3, C', o, vs, g1, p a o (fun q => (ne_nf hnf g2 g4) q.symm) g2, g3, g4, g5⟩

/-- what was not there at the start need not be named -/
theorem Mv.unhold {R Fs π π' : List Addr} {s s' : Shared} {C : Addr} (x : Mv (C :: R) Fs π s π' s') (hC : s.heap.get? C = none) : Mv R Fs π s π' s' := by
  have ne : ∀ {b o}, s.heap.get? b = some o → b ∉ R → b ∉ C :: R := fun {b o} e hb q => by
    rcases List.mem_cons.mp q with rfl | h
    · rw [hC] at e; cases e
    · exact hb h
  exact ⟨x.same, fun a o e h1 h2 h3 => x.keep a o e h1 h2 (ne e h3), fun a o e h1 h3 => x.slots a o e h1 (ne e h3), x.alive, x.grow⟩

theorem cell_in {am : Amb} {stack : List Env} {π π1 : List Addr} {s s' : Shared} {vs : List V} {H1 : H} {l : Addr} {xs : List Value} (h3 : vs.length ≤ 1000000) (h4 : s.heap.get? l = none) (h5 : l ∉ π1 ∧ l ∉ Fs stack ∧ am.B.get? l = none) (h6 : Step (Fs stack) π s π1 s') (h7 : HR (am.hold l) stack π1 H1 s'.heap)
    (h8 : PL s'.heap l xs) (h9 : VRs (am.hold l) π1 s'.heap vs xs) : Step (Fs stack) π s (π1 ++ [l]) s' ∧ HR am stack (π1 ++ [l]) (H1 ++ [.list vs]) s'.heap ∧ VR am (π1 ++ [l]) s'.heap (.ref H1.length) (.ref l) := by
  refine ⟨⟨h6.same, h6.ext, ?_⟩, ⟨h7.base, h7.frames, by simp [h7.len], ?_, h7.unhold.res, ?_, ?_⟩, ?_⟩
  · obtain ⟨δ, rfl, hδ⟩ := h6.grow
    refine ⟨δ ++ [l], by simp, fun a ha => ?_⟩
    rcases List.mem_append.mp ha with ha | ha
    · exact hδ a ha
    · rw [List.mem_singleton.mp ha]; exact h4
  · rw [List.nodup_append]
    exact ⟨h7.nodup, by simp, fun a ha b hb => by rw [List.mem_singleton.mp hb]; exact fun q => h5.1 (q ▸ ha)⟩
  · intro a ha
    rcases List.mem_append.mp ha with ha | ha
    · exact h7.off a ha
    · rw [List.mem_singleton.mp ha]; exact ⟨h5.2.2, h5.2.1⟩
  · intro i c a hi ha
    by_cases hlt : i < H1.length
    · rw [List.getElem?_append_left hlt] at hi
      rw [List.getElem?_append_left (by rw [h7.len]; exact hlt)] at ha
      obtain ⟨o, ys, q0, q1, q2, q3⟩ := h7.cell i c a hi ha
      exact ⟨o, ys, q0, q1, q2, q3.reserve.1⟩
    · have hi' : i = H1.length := by
        have := (List.getElem?_eq_some_iff.mp hi).1
        simp only [List.length_append, List.length_singleton] at this
        omega
      subst hi'
      simp only [List.getElem?_concat_length, Option.some.injEq] at hi
      rw [← h7.len] at ha
      simp only [List.getElem?_concat_length, Option.some.injEq] at ha
      subst hi ha
      exact .ofList h8 h3 h9.reserve.1
  · simp only [VR]
    exact ⟨l, rfl, by rw [← h7.len]; simp⟩

noncomputable def asgFin (own : Bool) (i : Nat) (ρ : List V) (rs : List V) (Hf : H) : RS := if own then .ok .next (ρ.set i (.ref Hf.length)) (Hf ++ [.list rs]) else .ok .next (ρ.set i (.lst rs)) Hf
theorem asg_shape {F : Fn} {own : Bool} {i j : Nat} {elt : PE} {it : PIt} {cond : Option PE} {ρ : List V} {Hc : H} : exS true F (.asg i (if own then .own (.comp elt j it cond) else .comp elt j it cond)) ρ Hc = (evIt true F ρ it Hc).st ρ fun vs h =>
    match compL vs.2 (fun v h => evE true F (ρ.set j v) elt h) (fun v h => evC true F (ρ.set j v) cond h) vs.1 h with
    | .ok r h => if r.length ≤ 1000000 then asgFin own i ρ r h else .bad
    | _ => .bad := by
  simp only [qS_1, qS_2, qS_3, qS_4, qS_5, qS_6, qS_7, qS_8, qS_9, qS_10, qS_11, qS_12, qS_13, qS_14]
  have hc : evE true F ρ (.comp elt j it cond) Hc = (evIt true F ρ it Hc).bind fun vs h => match compL vs.2 (fun v h => evE true F (ρ.set j v) elt h) (fun v h => evC true F (ρ.set j v) cond h) vs.1 h with
    | .ok r h => R.opt (mkL r) h
    | _ => .bad := by first | (simp only [qE_1, qE_2, qE_3, qE_4, qE_5, qE_6, qE_7, qE_8, qE_9, qE_10, qE_11, qE_12, qE_13, qE_14, qE_15, qE_16, qE_17, qE_18, qE_19, qE_20, qE_21, qE_22, qE_23, qE_24, qE_25, qE_26, qE_27, qE_28, qE_29, qE_30, qE_31, qE_32, qE_33, qE_34, qE_35, qE_36, qE_37, qE_38]; rw [if_neg (by simp)]; done) | (simp only [qE_1, qE_2, qE_3, qE_4, qE_5, qE_6, qE_7, qE_8, qE_9, qE_10, qE_11, qE_12, qE_13, qE_14, qE_15, qE_16, qE_17, qE_18, qE_19, qE_20, qE_21, qE_22, qE_23, qE_24, qE_25, qE_26, qE_27, qE_28, qE_29, qE_30, qE_31, qE_32, qE_33, qE_34, qE_35, qE_36, qE_37, qE_38]; rw [if_neg (by simp)]; rfl)
  cases own with
  | false =>
    simp only [Bool.false_eq_true, if_false, asgFin]
    rw [hc]
    cases evIt true F ρ it Hc with
    | ok b h =>
      simp only [R.bind_ok, R.st_ok]
      cases compL b.2 (fun v h => evE true F (ρ.set j v) elt h) (fun v h => evC true F (ρ.set j v) cond h) b.1 h with
      | ok r h => simp only [mkL]; split <;> rfl
      | _ => rfl
    | _ => rfl
  | true =>
    simp only [if_true, asgFin]
    have ho : evE true F ρ (.own (.comp elt j it cond)) Hc = (evE true F ρ (.comp elt j it cond) Hc).bind fun x h => match x with | .lst vs => .ok (.ref h.length) (h ++ [.list vs]) | _ => .bad := by first | (simp only [qE_1, qE_2, qE_3, qE_4, qE_5, qE_6, qE_7, qE_8, qE_9, qE_10, qE_11, qE_12, qE_13, qE_14, qE_15, qE_16, qE_17, qE_18, qE_19, qE_20, qE_21, qE_22, qE_23, qE_24, qE_25, qE_26, qE_27, qE_28, qE_29, qE_30, qE_31, qE_32, qE_33, qE_34, qE_35, qE_36, qE_37, qE_38]; done) | (simp only [qE_1, qE_2, qE_3, qE_4, qE_5, qE_6, qE_7, qE_8, qE_9, qE_10, qE_11, qE_12, qE_13, qE_14, qE_15, qE_16, qE_17, qE_18, qE_19, qE_20, qE_21, qE_22, qE_23, qE_24, qE_25, qE_26, qE_27, qE_28, qE_29, qE_30, qE_31, qE_32, qE_33, qE_34, qE_35, qE_36, qE_37, qE_38]; rfl)
    rw [ho, hc]
    cases evIt true F ρ it Hc with
    | ok b h =>
      simp only [R.bind_ok, R.st_ok]
      cases compL b.2 (fun v h => evE true F (ρ.set j v) elt h) (fun v h => evC true F (ρ.set j v) cond h) b.1 h with
      | ok r h => simp only [mkL]; split <;> rfl
      | _ => rfl
    | _ => rfl

theorem s_asg_comp {i : Nat} {elt : PE} {j : Nat} {it : PIt} {cond : Option PE} {own : Bool} {e iter : Expr} {x : Str} {px pos p p' : Pos} {ifs : List Expr} {scope : Scope} {v : Str} (hset : isSet iter = false) (hsc : scopeOk c x scope = true) (hi : c.ctx.all (fun p => p.2 != j) = true)
    (hit : ItJ am n F c it iter) (helt : EJ am n true F (c.inner x j scope) elt e) (hcond : CJ am n F (c.inner x j scope) cond ifs)
    (hv : c.var v i = true) (hk : c.names.lookup v ≠ some .free) (hinj : (c.ctx.map (·.2)).Nodup)
    {cx : Cx} {ρ : List V} {A : Around} {res : List Addr} {outer : List Env} {π₀ : List Addr} {s₀ : Shared} {G : List Addr → Shared → Prop} {π : List Addr} {Hc : H} {s : Shared} (X : Stm am n true F c cx A res outer π₀ s₀ G ρ π Hc s)
    (hs : swapsWith (.ListComp e [⟨.Name x px, iter, ifs, 0⟩] scope pos) (some (.Name v p')) p.line cx.env = pure true) :
    SP (am.at res) cx outer true A π₀ s₀ G (fun Q E s => wpAny am.M A (exec (.Assign [.Name v p'] (.ListComp e [⟨.Name x px, iter, ifs, 0⟩] scope pos) p) cx.env) Q E s) (exS true F (.asg i (if own then .own (.comp elt j it cond) else .comp elt j it cond)) ρ Hc) s := by
  have hsc0 := hsc
  unfold scopeOk at hsc
  simp only [Bool.and_eq_true, List.all_eq_true, beq_iff_eq, Bool.not_eq_true', Bool.or_eq_true, bne_iff_ne, ne_eq] at hsc
  refine hold fun _ k_ => ?_
  obtain ⟨⟨⟨⟨hkind, hall⟩, hxl⟩, hx0⟩, h00⟩ := hsc
  refine k_ ?_
  have B := X.b
  obtain ⟨cl, hclos, hcl1, hcl2⟩ := closure_for (scope := scope) (env := cx.env) (fun p hp hf => B.cxk.clos p.1 (by
    unfold Env.kindOf; rw [B.ck.names]
    rcases (hall p hp).1.2 with (z | z) | z
    · exact absurd hf z
    · exact .inl z
    · exact .inr z))
  have hnames : ∀ y ∈ scope.names, y.2 = .local → scope.names.lookup y.1 = some .local := fun y hy hl => by
    rcases (hall y hy).1.1 with z | z
    · exact absurd hl z
    · exact z.2
  -- what the store leaves
  rw [asg_shape]
  have hI := hit B X.st
  have key : ∀ (r : RS), (∀ vs wt H1, evIt true F ρ it Hc = .ok (vs, wt) H1 → ∃ rs Hf, compL wt (fun v h => evE true F (ρ.set j v) elt h) (fun v h => evC true F (ρ.set j v) cond h) vs H1 = .ok rs Hf ∧ rs.length ≤ 1000000 ∧ r = asgFin own i ρ rs Hf) →
      (∀ c' H', evIt true F ρ it Hc = .err c' H' → r = .err c' ρ H') → evIt true F ρ it Hc ≠ .bad →
      SP (am.at res) cx outer true A π₀ s₀ G (fun Q E s => wpAny am.M A (exec (.Assign [.Name v p'] (.ListComp e [⟨.Name x px, iter, ifs, 0⟩] scope pos) p) cx.env) Q E s) r s := by
    intro r h1 h2 h3
    rcases hI with hI | hI
    · exact absurd hI h3
    · refine .inr ?_
      have erp : ∀ y s', ErP (am.at res) cx.stack π s (evIt true F ρ it Hc) y s' → SEr (am.at res) cx outer true A π₀ s₀ r y s' := fun y s' h => by
        refine hold fun _ k_ => ?_
        obtain ⟨c', H'', π', e', C, fl, hh, g2, g3, g4, g5, g6⟩ := h
        refine k_ ?_
        have Y := X.step g4 g5
        exact ⟨c', ρ, H'', π', e', C, fl, h2 c' H'' hh, g2, g3, Y.go, Y.st, X.b.ne, g6.mono (ground_in X.f X.go)⟩
      refine wp_gen fun Q' E' kq ke => ?_
      replace erp := fun y s' h => ke y s' (erp y s' h)
      rw [exec_Assign_Name_used _ _ _ _ hs, arm_evalThenUse_ListComp]
      refine wpAny_bind (wpAny_standAt (wpAny_bind (wpAny_bind ?_)))
      refine wpAny_comprehension_free (Q := fun _ s' => wpAny am.M A (pure () : Sem Unit) (fun _ s' => wpAny am.M A (pure Flow.next : Sem Flow) Q' E' s') E' s')
        (use := some (assign (.Name v p') cx.env)) rfl (set_iter hset cx.env) hclos hkind hnames (wpAny_mono hI (fun xv s₁ h₁ => wpAny_mono h₁ (fun itv s₂ h₂ => ?_) erp) erp)
      refine hold fun _ k_ => ?_
      obtain ⟨⟨vs, wt⟩, H1, π1, e1, e2, e3, e4⟩ := h₂
      refine k_ ?_
      refine hold fun _ k_ => ?_
      obtain ⟨rs, Hf, e5, e6, e7⟩ := h1 vs wt H1 e1
      refine k_ ?_
      refine comp_core (RR := fun acc C => compPost am.M A E' (some (assign (.Name v p') cx.env)) _ acc C) B X.st e2 e3 e4 hsc0 hi helt hcond hcl1 hcl2 e5 e6 fun D C s' le => ?_
      refine hold fun _ k_ => ?_
      obtain ⟨π', xs, m, l1, l2, l3, l4, l5, l6, l7⟩ := le.rest
      refine k_ ?_
      show wpAny am.M A (assign (.Name v p') cx.env (.ref D)) _ _ s'
      -- with the block's own names reserved still
      have hs0C : s₀.heap.get? C = none := by
        cases hq : s₀.heap.get? C with
        | none => rfl
        | some o => obtain ⟨o', z⟩ := X.go.ext.alive C o hq; rw [le.freshC] at z; cases z
      have hDC : D ∉ (am.at (C :: res)).res := by simp only [Amb.at, List.mem_cons, not_or]; exact ⟨le.ne, le.resD⟩
      have hR : HR (am.at (D :: C :: res)) cx.stack π' Hf s'.heap := HR.sub (am := am) (r := C :: D :: res) (r' := D :: C :: res) (by intro a ha; simp only [List.mem_cons] at ha ⊢; rcases ha with ha | ha | ha <;> simp [ha]) l2
      have hV : VRs ((am.at (C :: res)).hold D) π' s'.heap rs xs := VRs.sub (am' := (am.at (C :: res)).hold D) (by intro a ha; simp only [Amb.hold, Amb.at, List.mem_cons] at ha ⊢; rcases ha with ha | ha | ha <;> simp [ha]) l4
      have hok : ∃ w H2 π2, r = .ok .next (ρ.set i w) H2 ∧ Step (Fs cx.stack) π s π2 s' ∧ HR (am.at (C :: res)) cx.stack π2 H2 s'.heap ∧ VR (am.at (C :: res)) π2 s'.heap w (.ref D) ∧ C ∉ π2 := by
        cases own with
        | false =>
          refine ⟨.lst rs, Hf, π', by rw [e7]; rfl, l1, HR.unhold (am := am.at (C :: res)) hR, ?_, l7⟩
          simp only [VR]
          exact ⟨D, xs, rfl, ⟨l6, hDC⟩, l3.is, e6, hV.reserve.2⟩
        | true =>
          have z := cell_in (am := am.at (C :: res)) (s := s) e6 le.freshD ⟨l6, le.fsD, le.baseD⟩ l1 hR l3 hV
          refine ⟨_, _, π' ++ [D], by rw [e7]; rfl, z.1, z.2.1, z.2.2, ?_⟩
          rw [List.mem_append, not_or, List.mem_singleton]
          exact ⟨l7, Ne.symm le.ne⟩
      refine hold fun _ k_ => ?_
      obtain ⟨w, H2, π2, k2, k3, k4, k5, k6⟩ := hok
      refine k_ ?_
      have erC : ER (am.at (C :: res)) cx ρ π2 s'.heap := (X.st.er.held (l := C) le.freshC).step k3
      have Y : Stm am n true F c cx A (C :: res) outer π₀ s₀ (fun π' s' => Mv (C :: res) (Fs cx.stack) π s π' s') ρ π2 H2 s' :=
        ⟨X.b, ⟨X.f.top, List.mem_cons_of_mem _ X.f.res, X.f.base, X.f.fresh, fun z d hd => let ⟨a1, a2, a3⟩ := X.f.cell z d hd; ⟨List.mem_cons_of_mem _ a1, a2, a3⟩⟩, X.go.inn X.f k3, ⟨k4, erC, X.st.hd.step k3⟩, X.low, .of k3, fun _ _ _ _ h m => h.trans m⟩
      have hlC : cx.env.locals ≠ C := fun q => by
        obtain ⟨m0, hm0⟩ := X.st.er.ns
        obtain ⟨o, ho⟩ := Heap.Ns.exist hm0
        rw [q, le.freshC] at ho; cases ho
      have hcC : ∀ z d, cx.env.cells.lookup z = some d → d ≠ C := fun z d hd q => by
        refine hold fun _ k_ => ?_
        obtain ⟨_, _, u, hu⟩ := X.st.er.cellOff z d hd
        refine k_ ?_
        obtain ⟨o, ho⟩ := Heap.IsCell.exist hu
        rw [q, le.freshC] at ho; cases ho
      refine wpAny_assign_Name (assign_ok Y k5 hv hk hinj fun s'' Z hkeep _ => ?_)
      refine ⟨m, Ns.at l5 fun o ho => hkeep C hs0C (Ne.symm hlC) hcC o ho, fun h' sb => ?_⟩
      have p' : Poke C s''.heap h' := fun b o hb e => sb.extBut b o hb e
      have l5' : s''.heap.Ns C m := Ns.at l5 fun o ho => hkeep C hs0C (Ne.symm hlC) hcC o ho
      refine wpAny_pure (wpAny_pure ?_)
      subst k2
      refine kq _ _ ⟨.next, _, _, π2, rfl, Z.go.poke (tk := s''.toks) hs0C p', ⟨HR.out (am := am.at res) Z.st.hr le.resC le.baseC k6 le.fsC p', ?_, ?_⟩, Z.b.ne, rfl, ?_⟩
      · exact ER.sub (am := am) (r := C :: res) (fun a ha => List.mem_cons_of_mem _ ha) (Z.st.er.poke (am := am.at (C :: res)) List.mem_cons_self p' (Ns.nf l5') hlC hcC)
      · exact Z.st.hd
      · refine X.gk _ _ _ _ X.g (Mv.poke (tk := s''.toks) (Mv.unhold Z.g le.freshC) (.inr le.freshC) p')
  cases hev : evIt true F ρ it Hc with
  | bad => exact .inl rfl
  | err c' H' => exact key _ (fun _ _ _ z => by rw [hev] at z; cases z) (fun _ _ z => by rw [hev] at z; cases z; rfl) (by rw [hev]; simp)
  | ok b H1 =>
    obtain ⟨vs, wt⟩ := b
    simp only [R.st_ok]
    cases hc : compL wt (fun v h => evE true F (ρ.set j v) elt h) (fun v h => evC true F (ρ.set j v) cond h) vs H1 with
    | bad => exact .inl rfl
    | err _ _ => exact .inl rfl
    | ok rs Hf =>
      simp only
      split
      · rename_i hle
        refine key _ (fun vs' wt' H1' z => ?_) (fun _ _ z => by rw [hev] at z; cases z) (by rw [hev]; simp)
        rw [hev] at z; cases z
        exact ⟨rs, Hf, hc, hle, rfl⟩
      · exact .inl rfl
end

end Mine

namespace Mine
open PySem PySem.W PyProof.Rows

section
variable {am : Amb} {n : Nat} {q : Bool} {F : Fn} {c : Ck}

/-- the frames, seen from where the call began -/
theorem frames_low {am : Amb} {cx : Cx} {outer : List Env} {π₀ π : List Addr} {s₀ : Shared} {Hc : H} {h : Heap} (f : Frm am cx outer s₀) (hr : HR am cx.stack π Hc h) : h.FunFrames (ground outer π₀ s₀.heap) cx.stack := by
  have go : ∀ l : List Env, (∀ a ∈ Fs l, (ground outer π₀ s₀.heap).get? a = none) → h.FunFrames am.B l → h.FunFrames (ground outer π₀ s₀.heap) l := by
    intro l
    induction l with
    | nil => intro _ _; trivial
    | cons e l ih =>
      intro hn ⟨h1, ⟨L, o, h2, _, h4, h5⟩, h6⟩
      refine ⟨h1, ⟨L, o, h2, hn L (by simp [Fs, h2]), h4, h5⟩, ih (fun a ha => hn a ?_) h6⟩
      simp only [Fs, List.filterMap_cons, h2, List.mem_cons]
      exact .inr ha
  refine go _ (fun a ha => ?_) hr.frames
  rw [f.fs] at ha
  rcases List.mem_cons.mp ha with rfl | ha
  · cases hq : (ground outer π₀ s₀.heap).get? cx.env.locals with
    | none => rfl
    | some o => have := of_hideAll _ hq; rw [f.fresh] at this; cases this
  · exact hideAll_none _ (List.mem_append.mpr (.inr ha))

/-- records turned that were not there at the call's beginning -/
theorem Step.touch {am : Amb} {cx : Cx} {outer : List Env} {s₀ s : Shared} {π₀ π : List Addr} {Hc : H} (f : Frm am cx outer s₀) (x : Step (Fs outer) π₀ s₀ π s) (hr : HR am cx.stack π Hc s.heap) {h' : Heap} (t : Touch (ground outer π₀ s₀.heap) s.heap h') : Step (Fs outer) π₀ s₀ π { s with heap := h' } := by
  have frm : ∀ a ∈ Fs outer, ∃ o, s.heap.get? a = some o ∧ ∀ us, o.data ≠ .fields us := fun a ha => (hr.frames.mem (show a ∈ Fs cx.stack by rw [f.fs]; exact List.mem_cons_of_mem _ ha)).2
  have cel : ∀ a ∈ π₀, ∃ o, s.heap.get? a = some o ∧ ∀ us, o.data ≠ .fields us := fun a ha => by
    obtain ⟨δ, e, _⟩ := x.grow
    obtain ⟨i, hi, e1⟩ := List.getElem_of_mem (show a ∈ π by rw [e]; exact List.mem_append.mpr (.inl ha))
    have h1 : π[i]? = some a := by rw [List.getElem?_eq_getElem hi, e1]
    have h2 : i < Hc.length := by rw [← hr.len]; exact hi
    exact (hr.cell i Hc[i] a (by simp [h2]) h1).obj
  have keep : ∀ a o, s₀.heap.get? a = some o → a ∉ π₀ → a ∉ Fs outer → h'.get? a = some o := fun a o e h1 h2 => t.stays a o (hideAll_get _ e (by rw [List.mem_append, not_or]; exact ⟨h1, h2⟩))
  obtain ⟨hh, tk, rfl⟩ := x.same
  refine ⟨⟨h', tk, rfl⟩, ⟨keep, fun a o e h1 => ?_, fun a o e => ?_⟩, x.grow⟩
  · by_cases h2 : a ∈ Fs outer
    · obtain ⟨sl, h3⟩ := x.ext.slots a o e h1
      obtain ⟨o', h4, h5⟩ := frm a h2
      rw [h3] at h4; cases h4
      obtain ⟨sl', h6⟩ := t.slots a _ h3 h5
      exact ⟨sl', h6⟩
    · exact ⟨o.slots, keep a o e h1 h2⟩
  · by_cases h1 : a ∈ π₀
    · obtain ⟨o', h4, h5⟩ := cel a h1
      obtain ⟨sl', h6⟩ := t.slots a _ h4 h5
      exact ⟨_, h6⟩
    · by_cases h2 : a ∈ Fs outer
      · obtain ⟨o', h4, h5⟩ := frm a h2
        obtain ⟨sl', h6⟩ := t.slots a _ h4 h5
        exact ⟨_, h6⟩
      · exact ⟨o, keep a o e h1 h2⟩

theorem St.touch {am : Amb} {cx : Cx} {ρ : List V} {A : Around} {base : Heap} {s : Shared} {π : List Addr} {Hc : H} (x : St am true cx ρ π Hc A s) (ne : NoExc ρ) (low : am.B.StaysIn base) {h' : Heap} (t : Touch base s.heap h') : St am true cx ρ π Hc A { s with heap := h' } :=
  ⟨x.hr.upto t.slots fun b o e => t.stays b o (low b o e), x.er.upto t.slots ne, x.hd⟩

/-- an exception on its way out of a loop -/
theorem SEr.back {am : Amb} {cx : Cx} {outer : List Env} {A : Around} {π₀ : List Addr} {s₀ : Shared} {r : RS} {y : Value} {s' : Shared} (f : Frm am cx outer s₀) (fr : A.frames = some cx.stack) (low : am.B.StaysIn (ground outer π₀ s₀.heap)) (h : SEr am cx outer true A π₀ s₀ r y s') {E' : Value → Shared → Prop} (ke : ∀ y s, SEr am cx outer true A π₀ s₀ r y s → E' y s) :
    notedBy am.M A cx.env (cameBackBy am.M A cx.env E') y s' := by
  refine hold fun _ k_ => ?_
  obtain ⟨d, ρ', H', π', e, C, fl, h1, rfl, h3, h4, h5, h6, h7⟩ := h
  refine k_ ?_
  rw [f.top.1] at fr
  have fl' := frames_low (π₀ := π₀) f h5.hr
  rw [f.top.1] at fl'
  unfold notedBy
  refine x_note fr fl' f.top.2 h7 fun h₁ x₁ t₁ => ?_
  have g1 := h4.touch f h5.hr t₁
  have g2 := h5.touch (h6 rfl) low t₁
  unfold cameBackBy
  refine hold fun _ k_ => ?_
  obtain ⟨_, _, oe, vs, w1, w2, w3, w4, T, oT, ts, w5, w6, w7, w8, w9, w10⟩ := id x₁
  refine k_ ?_
  refine wpAny_bind (wpAny_field w1 w3 w5 ?_)
  rw [if_neg (by simp)]
  refine x_flight (fr := cx.env.frame) x₁ fun h₂ x₂ t₂ => ?_
  exact ke _ _ ⟨d, ρ', H', π', e, C, _, h1, rfl, h3, g1.touch f g2.hr t₂, g2.touch (h6 rfl) low t₂, h6, x₂⟩

theorem forL_nil {w : Watch} {b : List V → V → Option (List V)} {body : List V → H → RS} {ρ : List V} {h : H} : forL w b body [] ρ h = if w.ok h then .ok .next ρ h else .bad := rfl
theorem forL_cons {w : Watch} {b : List V → V → Option (List V)} {body : List V → H → RS} {v : V} {vs ρ : List V} {h : H} : forL w b body (v :: vs) ρ h = if w.ok h then (match b ρ v with
      | some ρ' => (body ρ' h).then fun ρ h => forL w b body vs ρ h
      | none => .bad) else .bad := rfl

/-- where a loop stands -/
inductive ForInv (am : Amb) (cx : Cx) (outer : List Env) (A : Around) (π₀ : List Addr) (s₀ : Shared) (res π : List Addr) (s : Shared) (Sx : Nat → List Addr → Heap → Prop) (wt : Watch) (bi : List V → V → Option (List V)) (fb : List V → H → RS) (vs : List V) (r : RS) (k : Nat) (s' : Shared) : Prop
  | mk (j : Nat) (ρ' : List V) (H' : H) (π' : List Addr) (e : k = vs.length - j) (hj : j ≤ vs.length) (ne : NoExc ρ') (g1 : Step (Fs outer) π₀ s₀ π' s') (g2 : St am true cx ρ' π' H' A s') (g3 : Mv res (Fs cx.stack) π s π' s') (g4 : Sx j π' s'.heap) (g5 : forL wt bi fb (vs.drop j) ρ' H' = r)

theorem s_for1 {i : Nat} {it : PIt} {body : List PS} {iter : Expr} {v : Str} {p p' : Pos} {ys : List Stmt} (hset : isSet iter = false) (hit : ItJ am n F c it iter) (hbody : SsJ am n true F c body ys)
    (hv : c.var v i = true) (hk : c.names.lookup v ≠ some .free) (hinj : (c.ctx.map (·.2)).Nodup) : SJ am n true F c (.for1 i it body) (.For (.Name v p') iter ys [] p) := fun cx ρ A res outer π₀ s₀ G π Hc s X => by
  have B := X.b
  have shape : exS true F (.for1 i it body) ρ Hc = (evIt true F ρ it Hc).st ρ fun vs h => forL vs.2 (bind1 i) (fun ρ h => exSs true F body ρ h) vs.1 ρ h := by
    simp only [qS_1, qS_2, qS_3, qS_4, qS_5, qS_6, qS_7, qS_8, qS_9, qS_10, qS_11, qS_12, qS_13, qS_14]; rw [if_neg (by simp)]
  rw [shape]
  have hI := hit B X.st
  have key : ∀ (r : RS), r ≠ .bad → (∀ vs wt H1, evIt true F ρ it Hc = .ok (vs, wt) H1 → forL wt (bind1 i) (fun ρ h => exSs true F body ρ h) vs ρ H1 = r) →
      (∀ c' H', evIt true F ρ it Hc = .err c' H' → r = .err c' ρ H') → evIt true F ρ it Hc ≠ .bad →
      SP (am.at res) cx outer true A π₀ s₀ G (fun Q E s => wpAny am.M A (exec (.For (.Name v p') iter ys [] p) cx.env) Q E s) r s := by
    intro r hrb h1 h2 h3
    rcases hI with hI | hI
    · exact absurd hI h3
    · refine .inr ?_
      have erp : ∀ y s', ErP (am.at res) cx.stack π s (evIt true F ρ it Hc) y s' → SEr (am.at res) cx outer true A π₀ s₀ r y s' := fun y s' h => by
        refine hold fun _ k_ => ?_
        obtain ⟨c', H'', π', e', C, fl, hh, g2, g3, g4, g5, g6⟩ := h
        refine k_ ?_
        have Y := X.step g4 g5
        exact ⟨c', ρ, H'', π', e', C, fl, h2 c' H'' hh, g2, g3, Y.go, Y.st, X.b.ne, g6.mono (ground_in X.f X.go)⟩
      refine wp_gen fun Q' E' kq ke => ?_
      replace erp := fun y s' h => ke y s' (erp y s' h)
      refine wpAny_For (wpAny_mono hI (fun xv s₁ h₁ => wpAny_mono h₁ (fun itv s₂ h₂ => ?_) erp) erp) (set_iter hset cx.env)
      refine hold fun _ k_ => ?_
      obtain ⟨⟨vs, wt⟩, H1, π1, e1, e2, e3, I, rfl, e5, e6, ⟨Sx, IT, e7⟩, _⟩ := h₂
      refine k_ ?_
      have e0 := h1 vs wt H1 e1
      have fr : A.frames = some cx.stack := B.as.frames
      have back : ∀ y s', SEr (am.at res) cx outer true A π₀ s₀ r y s' → notedBy am.M A cx.env (cameBackBy am.M A cx.env E') y s' := fun y s' h => SEr.back X.f fr X.low h ke
      have hs0I : s₀.heap.get? I = none := by
        cases hq : s₀.heap.get? I with
        | none => rfl
        | some o => obtain ⟨o', z⟩ := X.go.ext.alive I o hq; rw [e5] at z; cases z
      -- the state, the thing that goes through the list turned
      have poke : ∀ {ρ' : List V} {π' : List Addr} {H' : H} {s' : Shared} {h' : Heap} {tk k : Nat}, NoExc ρ' → Step (Fs outer) π₀ s₀ π' s' → St (am.at res) true cx ρ' π' H' A s' → Mv res (Fs cx.stack) π s π' s' → Sx k π' s'.heap → Poke I s'.heap h' →
          Step (Fs outer) π₀ s₀ π' { s' with heap := h', toks := tk } ∧ St (am.at res) true cx ρ' π' H' A { s' with heap := h', toks := tk } ∧ Mv res (Fs cx.stack) π s π' { s' with heap := h', toks := tk } := by
        intro ρ' π' H' s' h' tk k ne g1 g2 g3 g4 pk
        refine hold fun _ k_ => ?_
        obtain ⟨_, _, o, us, ho, hd⟩ := IT.own k π' _ g4
        refine k_ ?_
        exact ⟨g1.poke hs0I pk, ⟨g2.hr.poke pk ho hd e6, g2.er.upto (pk.slots ho hd) ne, g2.hd⟩, g3.poke (.inr e5) pk⟩
      refine hold fun _ k_ => ?_
      obtain ⟨Inv, toInv, ofInv⟩ : ∃ Inv : Nat → Shared → Prop, (∀ k s', ForInv (am.at res) cx outer A π₀ s₀ res π s Sx wt (bind1 i) (fun ρ h => exSs true F body ρ h) vs r k s' → Inv k s') ∧ (∀ k s', Inv k s' → ForInv (am.at res) cx outer A π₀ s₀ res π s Sx wt (bind1 i) (fun ρ h => exSs true F body ρ h) vs r k s') := ⟨_, fun _ _ h => h, fun _ _ h => h⟩
      refine k_ ?_
      refine codeAny_forLoop_any Inv
        (fun k s' hk' => ?_) vs.length (toInv _ _ ⟨0, ρ, H1, π1, by omega, by omega, B.ne rfl, X.go.inn X.f e2, X.st.step e2 e3, .of e2, e7, by simpa using e0⟩)
      refine hold fun _ k_ => ?_
      obtain ⟨j, ρ', H', π', rfl, hj, ne, g1, g2, g3, g4, g5⟩ := ofInv _ _ hk'
      refine k_ ?_
      rcases Nat.lt_or_ge j vs.length with hlt | hge
      · have hdrop : vs.drop j = vs[j] :: vs.drop (j + 1) := List.drop_eq_getElem_cons hlt
        rw [hdrop, forL_cons] at g5
        by_cases hw : wt.ok H' = true
        · rw [if_pos hw] at g5
          simp only [bind1] at g5
          refine IT.item j π' H' s' vs[j] _ _ g4 g2.hr hw (by simp [hlt]) fun x h' tk pk hx hs' => ?_
          obtain ⟨k1, k2, k3⟩ := poke (tk := tk) ne g1 g2 g3 g4 pk
          show wpAny am.M A (letOwnedTupleGo (.Name v p') (.ref I) x) _ _ _
          refine wpAny_of_eq (a := ()) rfl ?_
          let G' : List Addr → Shared → Prop := fun π' s' => Mv res (Fs cx.stack) π s π' s' ∧ Sx (j + 1) π' s'.heap
          have Y : Stm am n true F c cx A res outer π₀ s₀ G' ρ' π' H' { s' with heap := h', toks := tk } :=
            ⟨B.set fun _ => ne, X.f, k1, k2, X.low, ⟨k3, hs'⟩, fun _ _ _ _ h m => ⟨h.1.trans m, IT.move _ _ _ _ _ h.2 m⟩⟩
          refine wpAny_assign_Name (assign_ok Y hx hv hk hinj fun s'' Z _ _ => ?_)
          rcases hbody Z with hb | hb
          · rw [hb] at g5; exact absurd g5.symm hrb
          · refine wpAny_mono hb (fun fl s3 hs3 => ?_) fun y s3 hs3 => ?_
            · refine hold fun _ k_ => ?_
              obtain ⟨f', ρ2, H2, π2, z1, z2, z3, z4, z5, z6⟩ := hs3
              refine k_ ?_
              rw [z1] at g5
              cases f' with
              | next =>
                cases z5
                exact ⟨vs.length - (j + 1), by omega, toInv _ _ ⟨j + 1, ρ2, H2, π2, rfl, by omega, z4 rfl, z2, z3, z6.1, z6.2, by simpa using g5⟩⟩
              | ret w =>
                obtain ⟨xv, rfl, hxv⟩ := z5
                exact kq _ _ ⟨.ret w, ρ2, H2, π2, g5.symm, z2, z3, z4, ⟨xv, rfl, hxv⟩, X.gk _ _ _ _ X.g z6.1⟩
            · refine hold fun _ k_ => ?_
              obtain ⟨d, ρ2, H2, π2, e', C, fl, z1, z2, z3, z4, z5, z6, z7⟩ := hs3
              refine k_ ?_
              rw [z1] at g5
              exact back y s3 ⟨d, ρ2, H2, π2, e', C, fl, g5.symm, z2, z3, z4, z5, z6, z7⟩
        · rw [if_neg hw] at g5; exact absurd g5.symm hrb
      · have hje : j = vs.length := by omega
        subst hje
        rw [List.drop_length, forL_nil] at g5
        by_cases hw : wt.ok H' = true
        · rw [if_pos hw] at g5
          refine IT.done π' H' s' _ _ g4 g2.hr hw fun h' tk pk => ?_
          obtain ⟨k1, k2, k3⟩ := poke (tk := tk) ne g1 g2 g3 g4 pk
          refine wpAny_execs_nil ?_
          exact kq _ _ ⟨.next, ρ', H', π', g5.symm, k1, k2, fun _ => ne, rfl, X.gk _ _ _ _ X.g k3⟩
        · rw [if_neg hw] at g5; exact absurd g5.symm hrb
  cases hev : evIt true F ρ it Hc with
  | bad => exact .inl rfl
  | err c' H' => exact key _ (by simp [R.st]) (fun _ _ _ z => by rw [hev] at z; cases z) (fun _ _ z => by rw [hev] at z; cases z; rfl) (by rw [hev]; simp)
  | ok b H1 =>
    obtain ⟨vs, wt⟩ := b
    simp only [R.st_ok]
    by_cases hb : forL wt (bind1 i) (fun ρ h => exSs true F body ρ h) vs ρ H1 = .bad
    · exact .inl hb
    · refine key _ hb (fun vs' wt' H1' z => ?_) (fun _ _ z => by rw [hev] at z; cases z) (by rw [hev]; simp)
      rw [hev] at z; cases z; rfl
end

end Mine

namespace Mine
open PySem PySem.W PyProof.Rows

section
variable {am : Amb} {n : Nat} {F : Fn} {c : Ck}

/-- where a while loop stands -/
inductive WhInv (am : Amb) (cx : Cx) (outer : List Env) (A : Around) (π₀ : List Addr) (s₀ : Shared) (res π : List Addr) (s : Shared) (f : Nat → List V → H → RS) (r : RS) (k : Nat) (s' : Shared) : Prop
  | mk (ρ' : List V) (H' : H) (π' : List Addr) (ne : NoExc ρ') (g1 : Step (Fs outer) π₀ s₀ π' s') (g2 : St am true cx ρ' π' H' A s') (g3 : Mv res (Fs cx.stack) π s π' s') (g5 : f k ρ' H' = r)

theorem whileL_succ (t : PE) (body : List PS) (k : Nat) (ρ : List V) (h : H) : whileL (fun ρ h => evE true F ρ t h) (fun ρ h => exSs true F body ρ h) (k + 1) ρ h =
    (tr (evE true F ρ t h)).st ρ fun b h => if b then (exSs true F body ρ h).then fun ρ h => whileL (fun ρ h => evE true F ρ t h) (fun ρ h => exSs true F body ρ h) k ρ h else .ok .next ρ h := by
  rw [whileL]
  cases evE true F ρ t h with
  | ok v h =>
    simp only [tr, R.bind_ok, R.st_ok]
    cases truthy v with
    | none => rfl
    | some u => cases u <;> rfl
  | _ => rfl

theorem s_while {t : PE} {body : List PS} {y : Expr} {ys : List Stmt} {p : Pos} (ht : TJ am n true F c t y) (hbody : SsJ am n true F c body ys) : SJ am n true F c (.while t body) (.While y ys [] p) := fun cx ρ A res outer π₀ s₀ G π Hc s X => by
  have B := X.b
  have shape : exS true F (.while t body) ρ Hc = whileL (fun ρ h => evE true F ρ t h) (fun ρ h => exSs true F body ρ h) turns ρ Hc := by
    rw [qS_10, if_neg (by decide)]
  rw [shape]
  generalize hr : whileL (fun ρ h => evE true F ρ t h) (fun ρ h => exSs true F body ρ h) turns ρ Hc = r
  by_cases hrb : r = .bad
  · exact .inl hrb
  refine .inr (wp_gen fun Q' E' kq ke => ?_)
  have fr : A.frames = some cx.stack := B.as.frames
  have back : ∀ y s', SEr (am.at res) cx outer true A π₀ s₀ r y s' → notedBy am.M A cx.env (cameBackBy am.M A cx.env E') y s' := fun y s' h => SEr.back X.f fr X.low h ke
  refine hold fun _ k_ => ?_
  obtain ⟨Inv, toInv, ofInv⟩ : ∃ Inv : Nat → Shared → Prop, (∀ k s', WhInv (am.at res) cx outer A π₀ s₀ res π s (whileL (fun ρ h => evE true F ρ t h) (fun ρ h => exSs true F body ρ h)) r k s' → Inv k s') ∧ (∀ k s', Inv k s' → WhInv (am.at res) cx outer A π₀ s₀ res π s (whileL (fun ρ h => evE true F ρ t h) (fun ρ h => exSs true F body ρ h)) r k s') := ⟨_, fun _ _ h => h, fun _ _ h => h⟩
  refine k_ ?_
  refine wpAny_While (codeAny_whileLoop Inv (fun k s' hk => ?_) turns (toInv _ _ ⟨ρ, Hc, π, B.ne rfl, X.go, X.st, .of (Step.refl _ _ _), hr⟩))
  refine hold fun _ k_ => ?_
  obtain ⟨ρ', H', π', ne, g1, g2, g3, g5⟩ := ofInv _ _ hk
  refine k_ ?_
  cases k with
  | zero => exact absurd g5.symm hrb
  | succ k =>
    rw [whileL_succ] at g5
    have Y : Stm am n true F c cx A res outer π₀ s₀ (fun π' s' => Mv res (Fs cx.stack) π s π' s') ρ' π' H' s' := ⟨B.set fun _ => ne, X.f, g1, g2, X.low, g3, fun _ _ _ _ h m => h.trans m⟩
    rcases ht Y.b Y.st with hb | hb
    · rw [hb] at g5; exact absurd g5.symm hrb
    · refine wpAny_mono hb (fun b s2 h2 => ?_) fun e s2 h2 => ?_
      · refine hold fun _ k_ => ?_
        obtain ⟨b', H2, π2, e1, e2, e3, e4⟩ := h2
        refine k_ ?_
        unfold BR at e4; subst e4
        rw [e1, R.st_ok] at g5
        have Z := Y.step e2 e3
        cases b' with
        | false =>
          rw [if_neg (by simp)] at g5 ⊢
          exact wpAny_execs_nil (kq _ _ ⟨.next, ρ', H2, π2, g5.symm, Z.go, Z.st, fun _ => ne, rfl, X.gk _ _ _ _ X.g Z.g⟩)
        | true =>
          rw [if_pos rfl] at g5 ⊢
          rcases hbody Z with hb | hb
          · rw [hb] at g5; exact absurd g5.symm hrb
          · refine wpAny_mono hb (fun fl s3 hs3 => ?_) fun y s3 hs3 => ?_
            · refine hold fun _ k_ => ?_
              obtain ⟨f', ρ2, H2, π2, z1, z2, z3, z4, z5, z6⟩ := hs3
              refine k_ ?_
              rw [z1] at g5
              cases f' with
              | next =>
                cases z5
                exact ⟨k, Nat.lt_succ_self k, toInv _ _ ⟨ρ2, H2, π2, z4 rfl, z2, z3, z6, g5⟩⟩
              | ret w =>
                obtain ⟨xv, rfl, hxv⟩ := z5
                exact kq _ _ ⟨.ret w, ρ2, H2, π2, g5.symm, z2, z3, z4, ⟨xv, rfl, hxv⟩, X.gk _ _ _ _ X.g z6⟩
            · refine hold fun _ k_ => ?_
              obtain ⟨d, ρ2, H2, π2, e', C, fl, z1, z2, z3, z4, z5, z6, z7⟩ := hs3
              refine k_ ?_
              rw [z1] at g5
              exact back y s3 ⟨d, ρ2, H2, π2, e', C, fl, g5.symm, z2, z3, z4, z5, z6, z7⟩
      · refine hold fun _ k_ => ?_
        obtain ⟨c', H2, π2, e', C, fl, e1, e2, e3, e4, e5, e6⟩ := h2
        refine k_ ?_
        rw [e1] at g5
        have Z := Y.step e4 e5
        exact back e s2 ⟨c', ρ', H2, π2, e', C, fl, g5.symm, e2, e3, Z.go, Z.st, fun _ => ne, e6.mono (ground_in X.f g1)⟩
end

end Mine

namespace Mine
open PySem PySem.W PyProof.Rows

/-- two records are turned alone -/
noncomputable def Poke2 (I J : Addr) (h h' : Heap) : Prop := ∀ b o, b ≠ I → b ≠ J → h.get? b = some o → h'.get? b = some o
theorem Poke2.slots {I J : Addr} {h h' : Heap} (p : Poke2 I J h h') {o o' : Obj} {us us' : Array Value} (ho : h.get? I = some o) (hd : o.data = .fields us) (ho' : h.get? J = some o') (hd' : o'.data = .fields us') : h.UpToSlots h' := fun b x hb hn =>
  ⟨x.slots, p b x (fun q => by subst q; rw [ho] at hb; cases hb; exact hn us hd) (fun q => by subst q; rw [ho'] at hb; cases hb; exact hn us' hd') hb⟩
theorem ne_none2 {h : Heap} {b I : Addr} {o : Obj} (hI : h.get? I = none) (e : h.get? b = some o) : b ≠ I := fun q => by subst q; rw [hI] at e; cases e
theorem Step.poke2 {Fs π π' : List Addr} {s s' : Shared} {I J : Addr} {h'' : Heap} {tk : Nat} (x : Step Fs π s π' s') (hI : s.heap.get? I = none) (hJ : s.heap.get? J = none) (p : Poke2 I J s'.heap h'') : Step Fs π s π' { s' with heap := h'', toks := tk } := by
  obtain ⟨h', tk', rfl⟩ := x.same
  refine ⟨⟨h'', tk, rfl⟩, ⟨fun a o e h1 h2 => p a o (ne_none2 hI e) (ne_none2 hJ e) (x.ext.keep a o e h1 h2), fun a o e h1 => ?_, fun a o e => ?_⟩, x.grow⟩
  · obtain ⟨sl, h3⟩ := x.ext.slots a o e h1
    exact ⟨sl, p a _ (ne_none2 hI e) (ne_none2 hJ e) h3⟩
  · obtain ⟨o', h3⟩ := x.ext.alive a o e
    exact ⟨o', p a o' (ne_none2 hI e) (ne_none2 hJ e) h3⟩
theorem Mv.poke2 {R Fs π π' : List Addr} {s s' : Shared} {I J : Addr} {h'' : Heap} {tk : Nat} (x : Mv R Fs π s π' s') (hI : s.heap.get? I = none) (hJ : s.heap.get? J = none) (p : Poke2 I J s'.heap h'') : Mv R Fs π s π' { s' with heap := h'', toks := tk } := by
  obtain ⟨h', tk', rfl⟩ := x.same
  refine ⟨⟨h'', tk, rfl⟩, fun a o e h1 h2 h3 => p a o (ne_none2 hI e) (ne_none2 hJ e) (x.keep a o e h1 h2 h3), fun a o e h1 h3 => ?_, fun a o e => ?_, x.grow⟩
  · obtain ⟨sl, h4⟩ := x.slots a o e h1 h3
    exact ⟨sl, p a _ (ne_none2 hI e) (ne_none2 hJ e) h4⟩
  · obtain ⟨o', h4⟩ := x.alive a o e
    exact ⟨o', p a o' (ne_none2 hI e) (ne_none2 hJ e) h4⟩

theorem enum_len : ∀ (n : Nat) (vs : List V), (enumFrom n vs).length = vs.length
  | _, [] => rfl
  | n, v :: vs => by rw [enumFrom, List.length_cons, List.length_cons, enum_len (n + 1) vs]
theorem enum_get : ∀ (n : Nat) (vs : List V) (j : Nat), (enumFrom n vs)[j]? = vs[j]?.map fun v => .tup [.int ((n + j : Nat) : Int), v]
  | _, [], j => by simp [enumFrom]
  | n, v :: vs, 0 => rfl
  | n, v :: vs, j + 1 => by
    rw [enumFrom, List.getElem?_cons_succ, List.getElem?_cons_succ, enum_get (n + 1) vs j, Nat.add_right_comm n 1 j]; rfl
theorem enum_drop {vs : List V} {j : Nat} {v : V} (h : vs[j]? = some v) : (enumFrom 0 vs).drop j = .tup [.int (j : Int), v] :: (enumFrom 0 vs).drop (j + 1) := by
  have hl : j < (enumFrom 0 vs).length := by rw [enum_len]; exact (List.getElem?_eq_some_iff.1 h).1
  have e := enum_get 0 vs j
  rw [h, List.getElem?_eq_getElem hl] at e
  rw [List.drop_eq_getElem_cons hl, Option.some.inj e, Nat.zero_add]

/-- an enumerate object and the iterator under it, j things on -/
structure ES (am : Amb) (stack : List Env) (e it : Addr) (i : Nat) (j : Nat) (π : List Addr) (h : Heap) : Prop where
  e1 : e ∉ π
  e2 : e ∉ Fs stack
  e3 : e ∉ am.res
  t1 : it ∉ π
  t2 : it ∉ Fs stack
  t3 : it ∉ am.res
  ne : e ≠ it
  en : ∃ old, IsEnum h e it j old
  li : ∃ l, π[i]? = some l ∧ h.IsListIter it l j
theorem ES.move {am : Amb} {stack : List Env} {e it : Addr} {i j : Nat} {π π' : List Addr} {s s' : Shared} (x : ES am stack e it i j π s.heap) (m : Mv am.res (Fs stack) π s π' s') : ES am stack e it i j π' s'.heap := by
  obtain ⟨e1, e2, e3, t1, t2, t3, ne, ⟨old, he⟩, l, hl, o, ho, hr⟩ := x
  obtain ⟨δ, ed, _⟩ := m.grow
  refine ⟨m.notin he e1, e2, e3, m.notin ho t1, t2, t3, ne, ⟨old, m.keep _ _ he e1 e2 e3⟩, l, ?_, o, m.keep _ _ ho t1 t2 t3, hr⟩
  rw [ed, List.getElem?_append_left (List.getElem?_eq_some_iff.mp hl).1]; exact hl

section
variable {am : Amb} {n : Nat} {q : Bool} {F : Fn} {c : Ck}

/-- an enumerate object at its start -/
noncomputable def EnR (am : Amb) (stack : List Env) (h₀ : Heap) (π : List Addr) (h : Heap) (b : List V × Watch) (x : Value) : Prop :=
  ∃ e it i vs, x = .ref e ∧ b = (enumFrom 0 vs, some (i, .list vs)) ∧ (h₀.get? e = none ∧ h₀.get? it = none ∧ am.B.get? e = none ∧ am.B.get? it = none) ∧ ES am stack e it i 0 π h

theorem it_enum {e : PE} {y : Expr} {p p' : Pos} (hx : c.glob "enumerate" = true) (hy : isStar y = false) (h : EJ am n true F c e y) {cx : Cx} {ρ : List V} {A : Around} {res π : List Addr} {Hc : H} {s : Shared} (B : Base am n true F c cx ρ A) (st : St (am.at res) true cx ρ π Hc A s) :
    JT (am.at res) cx.stack (fun Q E s => wpAny am.M A (eval (.Call (.Name "enumerate" p) [y] [] p') cx.env) (fun xv s₁ => wpAny am.M A (pyIter xv) Q E s₁) E s) (evIt true F ρ (.enum e) Hc) (EnR (am.at res) cx.stack s.heap) π s := by
  rw [qI_5]
  refine JT.rule (T := fun Q E s => wpAny am.M A (eval y cx.env) (fun v s₁ => wpAny am.M A (PySem.call (.type "enumerate") [v]) (fun xv s₂ => wpAny am.M A (pyIter xv) Q E s₂) E s₁) E s)
    (JT.bind (fun _ => PT.seq _ _ fun _ => PT.wp _ _) (h B st) fun z v H1 π1 s1 _ hs1 hr1 hv1 => ?_) fun Q E h => wp_call_bt B st.hr hx (bt_mem (by kernel_rfl)) (by simpa using hy) (spl1 h)
  cases v with
  | ref i =>
    simp only [VR] at hv1
    obtain ⟨l, rfl, hi⟩ := hv1
    simp only [enumOf]
    cases hH : H1[i]? with
    | none => exact .inl rfl
    | some cc => cases cc with
      | dict es => exact .inl rfl
      | list vs =>
        obtain ⟨xs, pl, hz, hv⟩ := (hr1.cell i _ l hH hi).list
        refine .inr (call_enumerate_list pl.is fun h' hE hIt hsz hk => wpAny_pyIter_enum hE ?_)
        have n1 : s1.heap.get? s1.heap.objs.size = none := size_none _
        have n2 : s1.heap.get? (s1.heap.objs.size + 1) = none := by
          cases hq : s1.heap.get? (s1.heap.objs.size + 1) with
          | none => rfl
          | some o => exact absurd (Heap.lt_size hq) (Nat.not_lt_of_le (Nat.le_succ _))
        have z1 : ∀ a, s1.heap.get? a = none → s.heap.get? a = none := fun a ha => by
          cases hq : s.heap.get? a with
          | none => rfl
          | some o => obtain ⟨o', z⟩ := hs1.ext.alive a o hq; rw [ha] at z; cases z
        refine OkP.keeps (tk := s1.toks) hr1 hk ⟨_, _, i, vs, rfl, rfl, ⟨z1 _ n2, z1 _ n1, none_of_stays hr1.base n2, none_of_stays hr1.base n1⟩, ?_⟩
        exact ⟨fresh_pi hr1 n2, fresh_fs hr1 n2, fresh_res hr1 n2, fresh_pi hr1 n1, fresh_fs hr1 n1, fresh_res hr1 n1, Nat.succ_ne_self _, ⟨_, hE⟩, l, hi, hIt⟩
  | _ => exact .inl rfl
end
end Mine

namespace Mine
open PySem PySem.W PyProof.Rows

section
variable {am : Amb} {n : Nat} {q : Bool} {F : Fn} {c : Ck}

theorem s_forE {i i' : Nat} {e : PE} {body : List PS} {y : Expr} {v v' : Str} {p p1 p2 p3 p4 p5 : Pos} {x1 : Nat} {ys : List Stmt} (hx : c.glob "enumerate" = true) (hy : isStar y = false) (he : EJ am n true F c e y) (hbody : SsJ am n true F c body ys)
    (hv : c.var v i = true) (hk : c.names.lookup v ≠ some .free) (hv' : c.var v' i' = true) (hf' : c.names.lookup v' ≠ some .free) (hinj : (c.ctx.map (·.2)).Nodup) :
    SJ am n true F c (.for2 i i' (.enum e) body) (.For (.Tuple [.Name v p1, .Name v' p2] x1 p3) (.Call (.Name "enumerate" p4) [y] [] p5) ys [] p) := fun cx ρ A res outer π₀ s₀ G π Hc s X => by
  have B := X.b
  have shape : exS true F (.for2 i i' (.enum e) body) ρ Hc = (evIt true F ρ (.enum e) Hc).st ρ fun vs h => forL vs.2 (bind2 i i') (fun ρ h => exSs true F body ρ h) vs.1 ρ h := by
    rw [qS_9, if_neg (by simp)]
  rw [shape]
  have hI := it_enum (p := p4) (p' := p5) hx hy he B X.st
  have key : ∀ (r : RS), r ≠ .bad → (∀ vs wt H1, evIt true F ρ (.enum e) Hc = .ok (vs, wt) H1 → forL wt (bind2 i i') (fun ρ h => exSs true F body ρ h) vs ρ H1 = r) →
      (∀ c' H', evIt true F ρ (.enum e) Hc = .err c' H' → r = .err c' ρ H') → evIt true F ρ (.enum e) Hc ≠ .bad →
      SP (am.at res) cx outer true A π₀ s₀ G (fun Q E s => wpAny am.M A (exec (.For (.Tuple [.Name v p1, .Name v' p2] x1 p3) (.Call (.Name "enumerate" p4) [y] [] p5) ys [] p) cx.env) Q E s) r s := by
    intro r hrb h1 h2 h3
    rcases hI with hI | hI
    · exact absurd hI h3
    · refine .inr ?_
      have erp : ∀ y s', ErP (am.at res) cx.stack π s (evIt true F ρ (.enum e) Hc) y s' → SEr (am.at res) cx outer true A π₀ s₀ r y s' := fun y s' h => by
        refine hold fun _ k_ => ?_
        obtain ⟨c', H'', π', e', C, fl, hh, g2, g3, g4, g5, g6⟩ := h
        refine k_ ?_
        have Y := X.step g4 g5
        exact ⟨c', ρ, H'', π', e', C, fl, h2 c' H'' hh, g2, g3, Y.go, Y.st, X.b.ne, g6.mono (ground_in X.f X.go)⟩
      refine wp_gen fun Q' E' kq ke => ?_
      replace erp := fun y s' h => ke y s' (erp y s' h)
      refine wpAny_For (wpAny_mono hI (fun xv s₁ h₁ => wpAny_mono h₁ (fun itv s₂ h₂ => ?_) erp) erp) (set_iter rfl cx.env)
      refine hold fun _ k_ => ?_
      obtain ⟨b, H1, π1, q1, q2, q3, e, it, ci, vs, rfl, rfl, ⟨n1, n2, n3, n4⟩, es⟩ := h₂
      refine k_ ?_
      have e0 := h1 _ _ H1 q1
      have fr : A.frames = some cx.stack := B.as.frames
      have hh := Hd.quiet X.st.hd
      have back : ∀ y s', SEr (am.at res) cx outer true A π₀ s₀ r y s' → notedBy am.M A cx.env (cameBackBy am.M A cx.env E') y s' := fun y s' h => SEr.back X.f fr X.low h ke
      have hs0 : ∀ I, s.heap.get? I = none → s₀.heap.get? I = none := fun I hI => by
        cases hq : s₀.heap.get? I with
        | none => rfl
        | some o => obtain ⟨o', z⟩ := X.go.ext.alive I o hq; rw [hI] at z; cases z
      -- the state, the two records turned
      have poke : ∀ {ρ' : List V} {π' : List Addr} {H' : H} {s' : Shared} {h' : Heap} {tk k : Nat}, NoExc ρ' → Step (Fs outer) π₀ s₀ π' s' → St (am.at res) true cx ρ' π' H' A s' → Mv res (Fs cx.stack) π s π' s' → ES (am.at res) cx.stack e it ci k π' s'.heap → Poke2 e it s'.heap h' →
          Step (Fs outer) π₀ s₀ π' { s' with heap := h', toks := tk } ∧ St (am.at res) true cx ρ' π' H' A { s' with heap := h', toks := tk } ∧ Mv res (Fs cx.stack) π s π' { s' with heap := h', toks := tk } ∧ s'.heap.UpToSlots h' := by
        intro ρ' π' H' s' h' tk k ne g1 g2 g3 g4 pk
        obtain ⟨old, ho⟩ := g4.en
        obtain ⟨l, _, o, ho', _, hd'⟩ := g4.li
        have sl := pk.slots ho rfl ho' hd'
        exact ⟨g1.poke2 (hs0 _ n1) (hs0 _ n2) pk, ⟨g2.hr.upto sl fun b o e => pk b o (ne_none2 n3 e) (ne_none2 n4 e) (g2.hr.base b o e), g2.er.upto sl ne, g2.hd⟩, g3.poke2 n1 n2 pk, sl⟩
      refine hold fun _ k_ => ?_
      obtain ⟨Inv, toInv, ofInv⟩ : ∃ Inv : Nat → Shared → Prop, (∀ k s', ForInv (am.at res) cx outer A π₀ s₀ res π s (ES (am.at res) cx.stack e it ci) (some (ci, .list vs)) (bind2 i i') (fun ρ h => exSs true F body ρ h) (enumFrom 0 vs) r k s' → Inv k s') ∧ (∀ k s', Inv k s' → ForInv (am.at res) cx outer A π₀ s₀ res π s (ES (am.at res) cx.stack e it ci) (some (ci, .list vs)) (bind2 i i') (fun ρ h => exSs true F body ρ h) (enumFrom 0 vs) r k s') := ⟨_, fun _ _ h => h, fun _ _ h => h⟩
      refine k_ ?_
      refine codeAny_forLoop_any Inv
        (fun k s' hk' => ?_) (enumFrom 0 vs).length (toInv _ _ ⟨0, ρ, H1, π1, (Nat.sub_zero _).symm, Nat.zero_le _, B.ne rfl, X.go.inn X.f q2, X.st.step q2 q3, .of q2, es, by simpa using e0⟩)
      refine hold fun _ k_ => ?_
      obtain ⟨j, ρ', H', π', rfl, hj, ne, g1, g2, g3, g4, g5⟩ := ofInv _ _ hk'
      refine k_ ?_
      obtain ⟨old, en⟩ := g4.en
      obtain ⟨l, hl, li⟩ := g4.li
      by_cases hw : Watch.ok (some (ci, Cell.list vs)) H' = true
      · have hcell : H'[ci]? = some (.list vs) := by simpa [Watch.ok] using hw
        obtain ⟨xs, pl, _, hvs⟩ := (g2.hr.cell ci _ l hcell hl).list
        rcases Nat.lt_or_ge j vs.length with hlt | hge
        · have hget : vs[j]? = some vs[j] := List.getElem?_eq_getElem hlt
          rw [enum_drop hget, forL_cons, if_pos hw] at g5
          rw [show bind2 i i' ρ' (.tup [.int (j : Int), vs[j]]) = some ((ρ'.set i (.int (j : Int))).set i' vs[j]) from rfl] at g5
          dsimp only at g5
          obtain ⟨xj, hxj, hvx⟩ := hvs.get j _ hget
          refine wpAny_pyNext_enum_item en li pl.is (by simpa using hxj) g4.ne fun h₁ heo hit₁ ht₁ hz₁ hk₁ => ?_
          refine wpAny_letOwnedTupleGo_enum heo fun h₂ he₂ hs₂ => ?_
          replace hs₂ : Heap.SameBut e h₁ h₂ := hs₂
          have heH : e < s'.heap.objs.size := Heap.lt_size en
          have hiH : it < s'.heap.objs.size := by obtain ⟨o, ho, _⟩ := li; exact Heap.lt_size ho
          have ht₂ : h₂.IsTuple s'.heap.objs.size #[.int j s'.toks, xj] := ⟨_, (hs₂.2 _ (Nat.ne_of_gt heH)).trans ht₁, rfl, _, rfl⟩
          have hz₂ : h₂.objs.size = s'.heap.objs.size + 1 := hs₂.1.trans hz₁
          refine wpAny_assign_Tuple hh ht₂ rfl rfl fun h₃ hx₃ => ?_
          replace hx₃ : Heap.ExtBut h₂.objs.size h₂ h₃ := hx₃
          have old₃ : ∀ b o, b < s'.heap.objs.size → h₂.get? b = some o → h₃.get? b = some o := fun b o hb x => hx₃ b o (by rw [hz₂]; exact Nat.ne_of_lt (Nat.lt_succ_of_lt hb)) x
          have pk : Poke2 e it s'.heap h₃ := fun b o h1 h2 x => old₃ b o (Heap.lt_size x) (hs₂.extBut b o h1 (hk₁ b o h1 h2 x))
          obtain ⟨k1, k2, k3, sl⟩ := poke (tk := s'.toks + 1) ne g1 g2 g3 g4 pk
          have es' : ES (am.at res) cx.stack e it ci (j + 1) π' h₃ := by
            refine ⟨g4.e1, g4.e2, g4.e3, g4.t1, g4.t2, g4.t3, g4.ne, ⟨_, old₃ e _ heH he₂⟩, l, hl, ?_⟩
            exact (hit₁.extBut hs₂.extBut (Ne.symm g4.ne)).at fun o x => old₃ it o hiH x
          let G' : List Addr → Shared → Prop := fun π' s' => Mv res (Fs cx.stack) π s π' s' ∧ ES (am.at res) cx.stack e it ci (j + 1) π' s'.heap
          have Y : Stm am n true F c cx A res outer π₀ s₀ G' ρ' π' H' { s' with heap := h₃, toks := s'.toks + 1 } :=
            ⟨B.set fun _ => ne, X.f, k1, k2, X.low, ⟨k3, es'⟩, fun _ _ _ _ h m => ⟨h.1.trans m, h.2.move m⟩⟩
          have hx3 : VR (am.at res) π' h₃ vs[j] xj := hvx.upto sl
          show wpAny _ A (do holding [xj] (assign (.Name v p1) cx.env (.int j s'.toks)); do holding [] (assign (.Name v' p2) cx.env xj); pure ()) _ _ _
          refine wpAny_bind (wpAny_holding (wpAny_assign_Name (assign_ok Y (v := .int j) (by simp only [VR]; exact ⟨_, rfl⟩) hv hk hinj fun s'' Z _ kf => ?_)))
          refine wpAny_bind (wpAny_holding (wpAny_assign_Name (assign_ok Z (hx3.free kf) hv' hf' hinj fun s3' Z' _ _ => wpAny_pure ?_)))
          rcases hbody Z' with hb | hb
          · rw [hb] at g5; exact absurd g5.symm hrb
          · refine wpAny_mono hb (fun fl s3 hs3 => ?_) fun y s3 hs3 => ?_
            · refine hold fun _ k_ => ?_
              obtain ⟨f', ρ2, H2, π2, z1, z2, z3, z4, z5, z6⟩ := hs3
              refine k_ ?_
              rw [z1] at g5
              cases f' with
              | next =>
                cases z5
                have hl' : j < (enumFrom 0 vs).length := by rw [enum_len]; exact hlt
                exact ⟨(enumFrom 0 vs).length - (j + 1), Nat.sub_lt_sub_left hl' (Nat.lt_succ_self j), toInv _ _ ⟨j + 1, ρ2, H2, π2, rfl, hl', z4 rfl, z2, z3, z6.1, z6.2, by simpa using g5⟩⟩
              | ret w =>
                obtain ⟨xv, rfl, hxv⟩ := z5
                exact kq _ _ ⟨.ret w, ρ2, H2, π2, g5.symm, z2, z3, z4, ⟨xv, rfl, hxv⟩, X.gk _ _ _ _ X.g z6.1⟩
            · refine hold fun _ k_ => ?_
              obtain ⟨d, ρ2, H2, π2, e', C, fl, z1, z2, z3, z4, z5, z6, z7⟩ := hs3
              refine k_ ?_
              rw [z1] at g5
              exact back y s3 ⟨d, ρ2, H2, π2, e', C, fl, g5.symm, z2, z3, z4, z5, z6, z7⟩
        · have hje : (enumFrom 0 vs).drop j = [] := List.drop_eq_nil_of_le (by rw [enum_len]; exact hge)
          rw [hje, forL_nil, if_pos hw] at g5
          refine wpAny_pyNext_enum_end hh en li pl.is (by rw [List.getElem?_toArray]; exact List.getElem?_eq_none (by rw [hvs.len]; exact hge)) fun h₁ hx₁ => ?_
          obtain ⟨k1, k2, k3, _⟩ := poke (tk := s'.toks) ne g1 g2 g3 g4 fun b o _ h2 x => hx₁ b o h2 x
          refine wpAny_execs_nil ?_
          exact kq _ _ ⟨.next, ρ', H', π', g5.symm, k1, k2, fun _ => ne, rfl, X.gk _ _ _ _ X.g k3⟩
      · cases hd : (enumFrom 0 vs).drop j with
        | nil => rw [hd, forL_nil, if_neg hw] at g5; exact absurd g5.symm hrb
        | cons a as => rw [hd, forL_cons, if_neg hw] at g5; exact absurd g5.symm hrb
  cases hev : evIt true F ρ (.enum e) Hc with
  | bad => exact .inl rfl
  | err c' H' => exact key _ (by simp [R.st]) (fun _ _ _ z => by rw [hev] at z; cases z) (fun _ _ z => by rw [hev] at z; cases z; rfl) (by rw [hev]; simp)
  | ok b H1 =>
    obtain ⟨vs, wt⟩ := b
    simp only [R.st_ok]
    by_cases hb : forL wt (bind2 i i') (fun ρ h => exSs true F body ρ h) vs ρ H1 = .bad
    · exact .inl hb
    · refine key _ hb (fun vs' wt' H1' z => ?_) (fun _ _ z => by rw [hev] at z; cases z) (by rw [hev]; simp)
      rw [hev] at z; cases z; rfl
end
end Mine

namespace Mine
open PySem PySem.W PyProof.Rows

theorem tail_keeps {h h' : Heap} {bmB tl : List Value} (T : OwnTail h bmB tl) (hk : ∀ b o, h.get? b = some o → h'.get? b = some o) : OwnTail h' bmB tl := by
  induction T with
  | base => exact .base
  | own h1 h2 h3 _ ih => exact .own (hk _ _ h1) (ns_stays hk h2) h3 ih

section
variable {am : Amb} {n : Nat} {q : Bool} {F : Fn} {c : Ck}

theorem s_raise {d : String} {t : Str} {k : Nat} {np cpos pos p : Pos} (hd : d ∈ excNames) (hg : c.glob (Str.ofString d) = true) :
    SJ am n q F c (.raise d) (.Raise (some (.Call (.Name (Str.ofString d) np) [.Constant (.str t) k p] [] cpos)) none pos) := fun cx ρ A res outer π₀ s₀ G π Hc s x => by
  simp only [qS_1, qS_2, qS_3, qS_4, qS_5, qS_6, qS_7, qS_8, qS_9, qS_10, qS_11, qS_12, qS_13, qS_14]
  cases q with
  | false => exact .inl rfl
  | true =>
    rw [if_neg (by simp)]
    obtain ⟨C, X⟩ := x.b.ok.exc d hd
    refine hold fun _ k_ => ?_
    obtain ⟨nm, qn, N, bs, bm, hdct, sn, sub, ab, col, dd, k0, k1, k2, k3, k5, mN, r1, r2, r3, r4⟩ := x.b.ok.rs d hd C X.name
    refine k_ ?_
    have hpl : backTo cpos (starEach [.Constant (.str t) k p] cx.env) = plainArgs [.Constant (.str t) k p] cx.env := starEach_plain _ (fun z hz => by rw [List.mem_singleton.mp hz]; rfl) _
    have kb := x.st.hr.base
    refine .inr (wpAny_Raise_call_subT (C := C) (nm := nm) (q := qn) (N := N) (bs := bs) (bm := bm) (hdct := hdct) (sn := sn) (sub := sub) (ab := ab) (col := col) (dd := dd) (k0 := k0) (k1 := k1) (k2 := k2) (k3 := k3) (k5 := k5) _root_.PySem.F.excBase_ValueError (r4.tail.hasType (by decide)) x.st.hd (by rw [hpl]; rfl) (r3 _ (.head _)) (wp_glob x.b x.st.hr hg X.name ⟨rfl, ?_⟩))
    rw [hpl]
    refine Calls.evalArgs_plain (spl1 (wpAny_Constant_str ⟨rfl, by simp; decide, kb _ _ r1, ns_stays kb r2, tail_keeps r4.tail kb, fun h' e hm => ?_⟩))
    have y : Step (Fs cx.stack) π s π { s with heap := h', toks := s.toks + 1 } := .keeps hm.keeps
    have Y := x.step y (x.st.hr.keeps hm.keeps)
    refine hold fun _ k_ => ?_
    obtain ⟨t', e1, e2, e3⟩ := hm.there
    refine k_ ?_
    have low : (ground outer π₀ s₀.heap).StaysIn s.heap := fun b o e => of_hideAll _ (ground_in x.f x.go b o e)
    exact ⟨d, ρ, Hc, π, e, C, none, rfl, rfl, X.name, Y.go, Y.st, x.b.ne, ⟨fun b o e => hm.keeps b o (low b o e), none_of_stays low hm.new, _, _, e1, ⟨rfl, rfl⟩, rfl, rfl, rfl⟩⟩
theorem ER.setLocal {am : Amb} {cx : Cx} {ρ : List V} {π : List Addr} {h h' : Heap} {v : Str} {i : Nat} {w : V} {xo : Option Value} {m : Str → Option Value} (er : ER am cx ρ π h) (hm : h.Ns cx.env.locals m) (hn' : h'.Ns cx.env.locals (fun y => if y = v then xo else m y)) (p : Poke cx.env.locals h h') (hres : cx.env.locals ∈ am.res)
    (hv : cx.ctx.lookup v = some i) (hkl : cx.env.kindOf v = some .local) (uniq : ∀ z, cx.ctx.lookup z = some i → z = v) (hw : w ≠ .undef → ∃ xv, xo = some xv ∧ SR am π h' w xv) : ER am cx (ρ.set i w) π h' := by
  have hlt : ∀ u, (ρ.set i w)[i]? = some u → u = w := fun u hu => by
    have hl : i < ρ.length := by have := (List.getElem?_eq_some_iff.mp hu).1; simpa using this
    rw [List.getElem?_set_self hl] at hu; cases hu; rfl
  refine ⟨⟨_, hn'⟩, er.locOff, fun z d hd => ?_, er.apart, fun z j u e1 e2 e3 e4 => ?_⟩
  · refine hold fun _ k_ => ?_
    obtain ⟨a1, a2, u, o, ho, r⟩ := er.cellOff z d hd
    refine k_ ?_
    exact ⟨a1, a2, u, o, p d o a2 ho, r⟩
  · by_cases hj : j = i
    · subst hj
      have := uniq z e1; subst this
      have := hlt u e2; subst this
      obtain ⟨xv, rfl, hs⟩ := hw e3
      exact ⟨xv, .inl ⟨hkl, _, hn', by simp⟩, hs⟩
    · have hz : z ≠ v := fun q => by subst q; rw [hv] at e1; cases e1; exact hj rfl
      rw [List.getElem?_set_ne (Ne.symm hj)] at e2
      obtain ⟨x', e5, e6⟩ := er.var z j u e1 e2 e3 e4
      refine ⟨x', ?_, ?_⟩
      · rcases e5 with ⟨k, m', e7, e8⟩ | ⟨k, d, e7, o, ho, r⟩
        · refine .inl ⟨k, _, hn', ?_⟩
          have hmm : m z = m' z := by
            refine hold fun _ k_ => ?_
            obtain ⟨o1, es1, ep1, a1, a2, a3, a4⟩ := hm
            refine k_ ?_
            refine hold fun _ k_ => ?_
            obtain ⟨o2, es2, ep2, b1, b2, b3, b4⟩ := e7
            refine k_ ?_
            rw [a1] at b1; cases b1; rw [a2] at b2; cases b2
            rw [← a4 z, ← b4 z]
          simp only [hz, if_false]
          rw [hmm]; exact e8
        · exact .inr ⟨k, d, e7, o, p d o (er.cellOff z d e7).2.1 ho, r⟩
      · rcases e6 with e6 | ⟨d, a, f1, f2, f3, C', o, vs, g1, g2, g3, g4, g5⟩
        · exact .inl (e6.free fun b o hb z => p b o (fun q => hb (q ▸ hres)) z)
        · exact .inr ⟨d, a, f1, f2, f3, C', o, vs, g1, p a o (fun q => (ne_nf (Ns.nf hm) g2 g4) q.symm) g2, g3, g4, g5⟩

theorem one_slot {c : Ck} {cx : Cx} {v : Str} {i : Nat} (ck : CkR am c cx) (h1 : c.ctx.lookup v = some i) (hinj : (c.ctx.map (·.2)).Nodup) : ∀ z, cx.ctx.lookup z = some i → z = v := by
  intro z hz
  rw [ck.ctx] at hz
  have a1 := lookup_mem hz
  have a2 := lookup_mem h1
  have : ∀ (l : List (Str × Nat)), (l.map (·.2)).Nodup → (z, i) ∈ l → (v, i) ∈ l → z = v := by
    intro l
    induction l with
    | nil => intro _ h _; simp at h
    | cons p l ih =>
      intro hn hz hy
      rw [List.map_cons, List.nodup_cons] at hn
      rcases List.mem_cons.mp hz with hz1 | hz2
      · rcases List.mem_cons.mp hy with hy1 | hy2
        · rw [← hz1] at hy1; cases hy1; rfl
        · exact absurd (List.mem_map.mpr ⟨(v, i), hy2, by rw [← hz1]⟩ : p.2 ∈ l.map (·.2)) hn.1
      · rcases List.mem_cons.mp hy with hy1 | hy2
        · exact absurd (List.mem_map.mpr ⟨(z, i), hz2, by rw [← hy1]⟩ : p.2 ∈ l.map (·.2)) hn.1
        · exact ih hn.2 hz2 hy2
  exact this _ hinj a1 a2

/-- a record is no cell and no frame -/
theorem rec_off {am : Amb} {stack : List Env} {π : List Addr} {Hc : H} {h : Heap} (hr : HR am stack π Hc h) {e : Addr} {o : Obj} {vs : Array Value} (ho : h.get? e = some o) (hd : o.data = .fields vs) : e ∉ π ∧ e ∉ Fs stack := by
  refine ⟨fun hm => ?_, fun hm => ?_⟩
  · obtain ⟨i, hi, e1⟩ := List.getElem_of_mem hm
    have h1 : π[i]? = some e := by rw [List.getElem?_eq_getElem hi, e1]
    have h2 : i < Hc.length := by rw [← hr.len]; exact hi
    obtain ⟨o', ho', hn⟩ := (hr.cell i Hc[i] e (by simp [h2]) h1).obj
    rw [ho] at ho'; cases ho'; exact hn vs hd
  · refine hold fun _ k_ => ?_
    obtain ⟨_, o', ho', hn⟩ := hr.frames.mem hm
    refine k_ ?_
    rw [ho] at ho'; cases ho'; exact hn vs hd

theorem try_shape {F : Fn} {body : List PS} {i : Nat} {f : String} {ρ : List V} {Hc : H} : exS true F (.try body "RingError" i [.ret (.callX f i)]) ρ Hc = (match exSs true F body ρ Hc with
    | .err d ρ' H' => if excNames.contains d then (match evE false F (ρ'.set i (.exc d)) (.callX f i) H' with
      | .ok w H2 => .ok (.ret w) ((ρ'.set i (.exc d)).set i .undef) H2
      | _ => .bad) else .bad
    | r => r) := by
  simp only [qS_1, qS_2, qS_3, qS_4, qS_5, qS_6, qS_7, qS_8, qS_9, qS_10, qS_11, qS_12, qS_13, qS_14]
  rw [if_neg (by simp)]
  cases exSs true F body ρ Hc with
  | bad => rfl
  | ok f ρ h => rfl
  | err d ρ' H' =>
    simp only [beq_self_eq_true, Bool.and_true, qSs_1, qSs_2, qS_1, qS_2, qS_3, qS_4, qS_5, qS_6, qS_7, qS_8, qS_9, qS_10, qS_11, qS_12, qS_13, qS_14]
    split
    · cases evE false F (ρ'.set i (.exc d)) (.callX f i) H' <;> rfl
    · rfl

theorem s_try {body : List PS} {ys : List Stmt} {i : Nat} {f : String} {v : Str} {p p1 p2 p3 p4 tp hp : Pos} (hbody : SsJ am n true F c body ys) (hg : c.glob (Str.ofString "RingError") = true) (hv : c.var v i = true) (hkl : c.names.lookup v = some .local) (hinj : (c.ctx.map (·.2)).Nodup)
    (hx : c.glob (Str.ofString f) = true) (hf : f ∈ c.fns) {cx : Cx} {ρ : List V} {A : Around} {res : List Addr} {outer : List Env} {π₀ : List Addr} {s₀ : Shared} {π : List Addr} {Hc : H} {s : Shared} (X : Stm am n true F c cx A res outer π₀ s₀ (fun _ _ => True) ρ π Hc s) :
    SP (am.at res) cx outer true A π₀ s₀ (fun _ _ => True) (fun Q E s => wpAny am.M A (exec (.Try ys [.ExceptHandler (some (.Name (Str.ofString "RingError") tp)) (some v) [.Return (some (.Call (.Name (Str.ofString f) p1) [.Name v p2] [] p3)) p4] hp] [] [] p) cx.env) Q E s)
      (exS true F (.try body "RingError" i [.ret (.callX f i)]) ρ Hc) s := by
  rw [try_shape]
  rcases hbody X with hb | hb
  · rw [hb]; exact .inl rfl
  cases hr : exSs true F body ρ Hc with
  | bad => exact .inl rfl
  | ok fl ρ' H' =>
    rw [hr] at hb
    refine .inr (wpAny_Try_except (wpAny_mono hb (fun g s' z => ?_) fun y s' z => ?_))
    · refine hold fun _ k_ => ?_
      obtain ⟨fl', ρ2, H2, π2, z1, z2, z3, z4, z5, z6⟩ := z
      refine k_ ?_
      cases z1
      cases fl with
      | next => cases z5; exact wpAny_execs_nil ⟨.next, _, _, π2, rfl, z2, z3, z4, rfl, trivial⟩
      | ret w => obtain ⟨xv, rfl, hxv⟩ := z5; exact ⟨.ret w, _, _, π2, rfl, z2, z3, z4, ⟨xv, rfl, hxv⟩, trivial⟩
    · obtain ⟨_, _, _, _, _, _, _, z, _⟩ := z; cases z
  | err d ρ' H' =>
    rw [hr] at hb
    simp only
    by_cases hdc : excNames.contains d = true
    · rw [if_pos hdc]
      have hdm : d ∈ excNames := by simpa using hdc
      cases hev : evE false F (ρ'.set i (.exc d)) (.callX f i) H' with
      | bad => exact .inl rfl
      | err _ _ => exact .inl rfl
      | ok w H2 =>
        simp only
        refine .inr (wp_gen fun Q' E' kq _ => ?_)
        refine wpAny_Try_except (wpAny_mono hb (fun g s' z => ?_) fun y s' z => ?_)
        · obtain ⟨_, _, _, _, z, _⟩ := z; cases z
        refine hold fun _ k_ => ?_
        obtain ⟨d', ρ2, H3, π', e, C, fl, z1, rfl, hC, g1, g2, ne, x0⟩ := z
        refine k_ ?_
        cases z1
        have fr : A.frames = some cx.stack := X.b.as.frames
        have ne := ne rfl
        have fr' : A.frames = some (cx.env :: outer) := by rw [← X.f.top.1]; exact fr
        have fl' := frames_low (π₀ := π₀) X.f g2.hr
        rw [X.f.top.1] at fl'
        refine x_note fr' fl' X.f.top.2 x0 fun h₁ x₁ t₁ => ?_
        have g1 := g1.touch X.f g2.hr t₁
        have g2 := g2.touch ne X.low t₁
        refine x_flight (fr := none) x₁ fun h₂ x₂ t₂ => ?_
        have g1 := g1.touch X.f g2.hr t₂
        have g2 := g2.touch ne X.low t₂
        obtain ⟨D, XD⟩ := X.b.ok.exc "RingError" (by simp [excNames])
        have AS' : AS n cx.stack (A.mark (some (.ref e))) := ⟨X.b.as.frames, X.b.as.depth, X.b.as.units⟩
        have BF : ∀ ρ, Base am n false F c cx ρ (A.mark (some (.ref e))) := fun ρ => ⟨X.b.ok, X.b.fn, X.b.ck, X.b.cxk, AS', fun q => by cases q⟩
        refine wpAny_handleBy_cons (codeAny_handlers_test (wp_glob (BF ρ') g2.hr hg XD.name ?_)) (by intro q; cases q)
        refine hold fun _ k_ => ?_
        obtain ⟨_, _, oe, vs, w1, w2, w3, w4, _⟩ := id x₂
        refine k_ ?_
        have LT : Looks am.M h₂ (typeOf (.ref e)) (.ref C) := by
          rw [← w2.1]
          exact (Looks.ld w1).andThen .now
        have XK : Frag.In am.K h₂ := fun a o q => g2.hr.base a o (X.b.ok.K a o q)
        refine (exm_one (M := am.M) XK LT (X.b.ok.exm d hdm C D hC XD.name)) _ _ _ _ (fun _ _ q => q) ?_
        refine codeAny_handlers_suite_as (x_flight (fr := none) x₂ fun h₃ x₃ t₃ => ?_)
        have g1 := g1.touch X.f g2.hr t₃
        have g2 := g2.touch ne X.low t₃
        have hv0 := hv
        unfold Ck.var at hv
        simp only [Bool.and_eq_true, beq_iff_eq, Bool.not_eq_true'] at hv
        refine hold fun _ k_ => ?_
        obtain ⟨⟨⟨hv1, hv2⟩, hv3⟩, hv4⟩ := hv
        refine k_ ?_
        have hkl' : cx.env.kindOf v = some .local := by rw [kind_is X.b.ck]; exact hkl
        have hctx : cx.ctx.lookup v = some i := by rw [X.b.ck.ctx]; exact hv1
        have uniq := one_slot X.b.ck hv1 hinj
        obtain ⟨m, hm⟩ := g2.er.ns
        refine wpAny_storeName_local hkl' hm (fun h₄ hn₄ sb₄ => ?_) (by simp [X.b.cxk.kind])
        have p₄ : Poke cx.env.locals h₃ h₄ := fun b o hb q => sb₄.extBut b o hb q
        refine hold fun _ k_ => ?_
        obtain ⟨st3, bn3, oe3, vs3, q1, q2, q3, q4, _⟩ := id x₃
        refine k_ ?_
        have off := rec_off g2.hr q1 q3
        have hel : e ≠ cx.env.locals := fun q => (ne_nf (Ns.nf hm) q1 q3) q.symm
        have hr4 : HR (am.at res) cx.stack π' H' h₄ := g2.hr.freed X.f.res X.f.base g2.er.locOff p₄ (Ns.nf hn₄)
        have ex4 : ExcAt (am.at res) h₄ d e := ⟨C, oe3, vs3, hC, p₄ e oe3 hel q1, q2, q3, q4, none_of_stays X.low bn3⟩
        have er4 : ER (am.at res) cx (ρ'.set i (.exc d)) π' h₄ := ER.setLocal (am := am.at res) g2.er hm hn₄ p₄ X.f.res hctx hkl' uniq (fun _ => ⟨.ref e, rfl, .inr ⟨d, e, rfl, rfl, off.1, ex4⟩⟩)
        have hd4 : Hd false (A.mark (some (.ref e))) π' (Fs cx.stack) h₄ := ⟨e, oe3, vs3, rfl, off.1, off.2, p₄ e oe3 hel q1, q3, q4⟩
        have g1 := g1.poke (tk := s'.toks + 1) X.f.fresh p₄
        have J := ej_callX (p := p1) (p' := p3) (p2 := p2) hx hf hv0 (BF (ρ'.set i (.exc d))) (s := { s' with heap := h₄, toks := s'.toks + 1 }) ⟨hr4, er4, hd4⟩
        rw [hev] at J
        rcases J with J | J
        · cases J
        refine wpAny_execs_cons (wpAny_Return_some (wpAny_mono J (fun xv s₅ z => ?_) fun y s₅ z => ?_))
        · refine hold fun _ k_ => ?_
          obtain ⟨b, H4, π5, z1, z2, z3, z4⟩ := z
          refine k_ ?_
          cases z1
          have er5 := er4.step (s' := s₅) z2
          obtain ⟨m5, hm5⟩ := er5.ns
          have g1 := g1.inn X.f z2
          refine wpAny_nameGoes_keeps hkl' hm5 (by simp [X.b.cxk.kind]) fun h₆ v₆ hn₆ sb₆ => ?_
          have p₆ : Poke cx.env.locals s₅.heap h₆ := fun b o hb q => sb₆.extBut b o hb q
          have g1 := g1.poke (tk := s₅.toks + 1) X.f.fresh p₆
          refine kq _ _ ⟨.ret w, _, _, π5, rfl, g1, ⟨z3.freed X.f.res X.f.base er5.locOff p₆ (Ns.nf hn₆), ER.setLocal (am := am.at res) er5 hm5 hn₆ p₆ X.f.res hctx hkl' uniq (fun q => absurd rfl q), X.st.hd⟩, fun _ => ?_, ⟨xv, rfl, z4.free fun b o hb z => p₆ b o (fun q => hb (q ▸ X.f.res)) z⟩, trivial⟩
          intro u hu k hk
          rw [List.set_set] at hu
          exact ne.set (v := .undef) (by simp) u hu k hk
        · obtain ⟨_, _, _, _, _, _, z, _⟩ := z; cases z
    · rw [if_neg hdc]; exact .inl rfl

end

end Mine

namespace Mine
open PySem PySem.W PyProof.Rows

-- recognizers begin
noncomputable def yExpr (e : Stmt) (p : Expr → Bool) : Bool := dite (e.ctorIdx = 24) (fun hc => (@Stmt.Expr.elim (fun _ => Bool) e hc fun y _ => p y)) fun _ => false
theorem expr_any {e : Stmt} {p : Expr → Bool} {G : Stmt → Prop} (h : yExpr e p = true) (k : ∀ y q, p y = true → G (.Expr y q)) : G e :=
  dite_any h fun hc h => @Stmt.Expr.elim (fun e => ∀ hc : e.ctorIdx = 24, (@Stmt.Expr.elim (fun _ => Bool) e hc fun y _ => p y) = true → G e) e hc (fun y q _ h => k y q h) hc h
noncomputable def yAsg (e : Stmt) (p : List Expr → Expr → Bool) : Bool := dite (e.ctorIdx = 5) (fun hc => (@Stmt.Assign.elim (fun _ => Bool) e hc fun ts y _ => p ts y)) fun _ => false
theorem asg_any {e : Stmt} {p : List Expr → Expr → Bool} {G : Stmt → Prop} (h : yAsg e p = true) (k : ∀ ts y q, p ts y = true → G (.Assign ts y q)) : G e :=
  dite_any h fun hc h => @Stmt.Assign.elim (fun e => ∀ hc : e.ctorIdx = 5, (@Stmt.Assign.elim (fun _ => Bool) e hc fun ts y _ => p ts y) = true → G e) e hc (fun ts y q _ h => k ts y q h) hc h
noncomputable def yRet (e : Stmt) (p : Option Expr → Bool) : Bool := dite (e.ctorIdx = 3) (fun hc => (@Stmt.Return.elim (fun _ => Bool) e hc fun y _ => p y)) fun _ => false
theorem ret_any {e : Stmt} {p : Option Expr → Bool} {G : Stmt → Prop} (h : yRet e p = true) (k : ∀ y q, p y = true → G (.Return y q)) : G e :=
  dite_any h fun hc h => @Stmt.Return.elim (fun e => ∀ hc : e.ctorIdx = 3, (@Stmt.Return.elim (fun _ => Bool) e hc fun y _ => p y) = true → G e) e hc (fun y q _ h => k y q h) hc h
noncomputable def yIf (e : Stmt) (p : Expr → List Stmt → List Stmt → Bool) : Bool := dite (e.ctorIdx = 12) (fun hc => (@Stmt.If.elim (fun _ => Bool) e hc fun t a b _ => p t a b)) fun _ => false
theorem ifs_any {e : Stmt} {p : Expr → List Stmt → List Stmt → Bool} {G : Stmt → Prop} (h : yIf e p = true) (k : ∀ t a b q, p t a b = true → G (.If t a b q)) : G e :=
  dite_any h fun hc h => @Stmt.If.elim (fun e => ∀ hc : e.ctorIdx = 12, (@Stmt.If.elim (fun _ => Bool) e hc fun t a b _ => p t a b) = true → G e) e hc (fun t a b q _ h => k t a b q h) hc h
noncomputable def yWhile (e : Stmt) (p : Expr → List Stmt → List Stmt → Bool) : Bool := dite (e.ctorIdx = 11) (fun hc => (@Stmt.While.elim (fun _ => Bool) e hc fun t a b _ => p t a b)) fun _ => false
theorem while_any {e : Stmt} {p : Expr → List Stmt → List Stmt → Bool} {G : Stmt → Prop} (h : yWhile e p = true) (k : ∀ t a b q, p t a b = true → G (.While t a b q)) : G e :=
  dite_any h fun hc h => @Stmt.While.elim (fun e => ∀ hc : e.ctorIdx = 11, (@Stmt.While.elim (fun _ => Bool) e hc fun t a b _ => p t a b) = true → G e) e hc (fun t a b q _ h => k t a b q h) hc h
noncomputable def yFor (e : Stmt) (p : Expr → Expr → List Stmt → List Stmt → Bool) : Bool := dite (e.ctorIdx = 9) (fun hc => (@Stmt.For.elim (fun _ => Bool) e hc fun t y a b _ => p t y a b)) fun _ => false
theorem for_any {e : Stmt} {p : Expr → Expr → List Stmt → List Stmt → Bool} {G : Stmt → Prop} (h : yFor e p = true) (k : ∀ t y a b q, p t y a b = true → G (.For t y a b q)) : G e :=
  dite_any h fun hc h => @Stmt.For.elim (fun e => ∀ hc : e.ctorIdx = 9, (@Stmt.For.elim (fun _ => Bool) e hc fun t y a b _ => p t y a b) = true → G e) e hc (fun t y a b q _ h => k t y a b q h) hc h
noncomputable def yRaise (e : Stmt) (p : Option Expr → Option Expr → Bool) : Bool := dite (e.ctorIdx = 16) (fun hc => (@Stmt.Raise.elim (fun _ => Bool) e hc fun y z _ => p y z)) fun _ => false
theorem raise_any {e : Stmt} {p : Option Expr → Option Expr → Bool} {G : Stmt → Prop} (h : yRaise e p = true) (k : ∀ y z q, p y z = true → G (.Raise y z q)) : G e :=
  dite_any h fun hc h => @Stmt.Raise.elim (fun e => ∀ hc : e.ctorIdx = 16, (@Stmt.Raise.elim (fun _ => Bool) e hc fun y z _ => p y z) = true → G e) e hc (fun y z q _ h => k y z q h) hc h
noncomputable def yPass (e : Stmt) (p : Bool) : Bool := dite (e.ctorIdx = 25) (fun hc => (@Stmt.Pass.elim (fun _ => Bool) e hc fun _ => p)) fun _ => false
theorem pass_any {e : Stmt} {p : Bool} {G : Stmt → Prop} (h : yPass e p = true) (k : ∀ q, p = true → G (.Pass q)) : G e :=
  dite_any h fun hc h => @Stmt.Pass.elim (fun e => ∀ hc : e.ctorIdx = 25, (@Stmt.Pass.elim (fun _ => Bool) e hc fun _ => p) = true → G e) e hc (fun q _ h => k q h) hc h
noncomputable def yTry (e : Stmt) (p : List Stmt → List ExceptHandler → List Stmt → List Stmt → Bool) : Bool := dite (e.ctorIdx = 17) (fun hc => (@Stmt.Try.elim (fun _ => Bool) e hc fun a hs b d _ => p a hs b d)) fun _ => false
theorem try_any {e : Stmt} {p : List Stmt → List ExceptHandler → List Stmt → List Stmt → Bool} {G : Stmt → Prop} (h : yTry e p = true) (k : ∀ a hs b d q, p a hs b d = true → G (.Try a hs b d q)) : G e :=
  dite_any h fun hc h => @Stmt.Try.elim (fun e => ∀ hc : e.ctorIdx = 17, (@Stmt.Try.elim (fun _ => Bool) e hc fun a hs b d _ => p a hs b d) = true → G e) e hc (fun a hs b d q _ h => k a hs b d q h) hc h
-- recognizers end
noncomputable def yHand (x : ExceptHandler) (p : Option Expr → Option Str → List Stmt → Bool) : Bool := @ExceptHandler.casesOn (fun _ => Bool) x fun t v b _ => p t v b
theorem hand_any {x : ExceptHandler} {p : Option Expr → Option Str → List Stmt → Bool} {G : ExceptHandler → Prop} (h : yHand x p = true) (k : ∀ t v b q, p t v b = true → G (.ExceptHandler t v b q)) : G x :=
  @ExceptHandler.casesOn (fun x => yHand x p = true → G x) x (fun t v b q h => k t v b q h) h
noncomputable def xStr (e : Expr) : Bool := dite (e.ctorIdx = 19) (fun hc => @Expr.Constant.elim (fun _ => Bool) e hc fun v _ _ => decide (v.ctorIdx = (Const.str "").ctorIdx)) fun _ => false
theorem str_any {e : Expr} {G : Expr → Prop} (h : xStr e = true) (k : ∀ t n q, G (.Constant (.str t) n q)) : G e :=
  dite_any h fun hc h => @Expr.Constant.elim (fun e => ∀ hc : e.ctorIdx = 19, (@Expr.Constant.elim (fun _ => Bool) e hc fun v _ _ => decide (v.ctorIdx = (Const.str "").ctorIdx)) = true → G e) e hc (fun v n q _ h => @Const.str.elim (fun v => G (.Constant v n q)) v (of_decide_eq_true h) fun t => k t n q) hc h

noncomputable def pComp (e : PE) (p : PE → Nat → PIt → Option PE → Bool) : Bool := dite (e.ctorIdx = 25) (fun hc => @PE.comp.elim (fun _ => Bool) e hc p) fun _ => false
theorem pComp_any {e : PE} {p : PE → Nat → PIt → Option PE → Bool} {G : PE → Prop} (h : pComp e p = true) (k : ∀ a b c d, p a b c d = true → G (.comp a b c d)) : G e :=
  dite_any h fun hc h => @PE.comp.elim (fun e => ∀ hc : e.ctorIdx = 25, @PE.comp.elim (fun _ => Bool) e hc p = true → G e) e hc (fun a b c d _ h => k a b c d h) hc h
noncomputable def pCompO (e : PE) (p : Bool → PE → Bool) : Bool := (pComp e fun a b c d => p false (.comp a b c d)) || dite (e.ctorIdx = 27) (fun hc => @PE.own.elim (fun _ => Bool) e hc fun a => pComp a fun a b c d => p true (.comp a b c d)) fun _ => false
theorem pCompO_any {e : PE} {p : Bool → PE → Bool} {G : PE → Prop} (h : pCompO e p = true) (k : ∀ o a b c d, p o (.comp a b c d) = true → G (if o then .own (.comp a b c d) else .comp a b c d)) : G e := by
  rcases (Bool.or_eq_true _ _).mp h with h | h
  · exact pComp_any h fun a b c d h => k false a b c d h
  · exact dite_any h fun hc h => @PE.own.elim (fun e => ∀ hc : e.ctorIdx = 27, @PE.own.elim (fun _ => Bool) e hc (fun a => pComp a fun a b c d => p true (.comp a b c d)) = true → G e) e hc (fun a _ h => pComp_any (G := fun a => G (.own a)) h fun a b c d h => k true a b c d h) hc h
/-- what may be stored -/
noncomputable def ckA (c : Ck) (e : PE) (y : Expr) : Bool := (!isComp y && ckE c e y) || pCompO e fun _ e => ckE c e y
noncomputable def ckEn (c : Ck) : PIt → Expr → Bool
  | .enum e, y => xNamed y "enumerate" fun xs => one xs fun z => c.glob "enumerate" && ckE c e z
  | _, _ => false
mutual
noncomputable def ckS (c : Ck) : PS → Stmt → Bool
  | .expr e, x => yExpr x fun y => isCall y && ckE c e y
  | .asg i e, x => yAsg x fun ts y => one ts fun u => xName u fun v => c.var v i && (c.names.lookup v != some .free && ckA c e y)
  | .ret e, x => yRet x fun t => oneO t fun y => ckE c e y
  | .ifs t a b, x => yIf x fun t' a' b' => ckE c t t' && (ckSs c a a' && ckSs c b b')
  | .while t a, x => yWhile x fun t' a' b' => ckE c t t' && (ckSs c a a' && b'.isEmpty)
  | .for1 i it body, x => yFor x fun t y a b => b.isEmpty && (ckIt c it y && (!isSet y && ((xName t fun v => c.var v i && c.names.lookup v != some .free) && ckSs c body a)))
  | .for2 i i' it body, x => yFor x fun t y a b => b.isEmpty && (ckEn c it y && ((xTup t fun ts => two ts fun t1 t2 => (xName t1 fun v => c.var v i && c.names.lookup v != some .free) && (xName t2 fun v => c.var v i' && c.names.lookup v != some .free)) && ckSs c body a))
  | .raise d, x => yRaise x fun y z => z.isNone && oneO y fun e => xNamed e (Str.ofString d) fun xs => one xs fun z => c.glob (Str.ofString d) && (excNames.contains d && xStr z)
  | .pass, x => yPass x true
  | _, _ => false
noncomputable def ckSs (c : Ck) : List PS → List Stmt → Bool
  | [], xs => xs.isEmpty
  | p :: ps, xs => (match xs with | x :: xs => ckS c p x && ckSs c ps xs | [] => false)
end

/-- a handler that hands the exception on to a def -/
noncomputable def pRet (e : PS) (p : PE → Bool) : Bool := dite (e.ctorIdx = 5) (fun hc => @PS.ret.elim (fun _ => Bool) e hc p) fun _ => false
theorem pRet_any {e : PS} {p : PE → Bool} {G : PS → Prop} (h : pRet e p = true) (k : ∀ a, p a = true → G (.ret a)) : G e :=
  dite_any h fun hc h => @PS.ret.elim (fun e => ∀ hc : e.ctorIdx = 5, @PS.ret.elim (fun _ => Bool) e hc p = true → G e) e hc (fun a _ h => k a h) hc h
noncomputable def pCallX (e : PE) (p : String → Nat → Bool) : Bool := dite (e.ctorIdx = 22) (fun hc => @PE.callX.elim (fun _ => Bool) e hc p) fun _ => false
theorem pCallX_any {e : PE} {p : String → Nat → Bool} {G : PE → Prop} (h : pCallX e p = true) (k : ∀ a b, p a b = true → G (.callX a b)) : G e :=
  dite_any h fun hc h => @PE.callX.elim (fun e => ∀ hc : e.ctorIdx = 22, @PE.callX.elim (fun _ => Bool) e hc p = true → G e) e hc (fun a b _ h => k a b h) hc h
/-- what the handler of a try is -/
noncomputable def ckHand (c : Ck) (i : Nat) (hd : List PS) (z : ExceptHandler) : Bool :=
  one hd fun r => pRet r fun e => pCallX e fun f j => decide (j = i) && yHand z fun t v b => (oneO t fun e => xNameIs e (Str.ofString "RingError") true) &&
    oneO v fun v => c.var v i && (c.names.lookup v == some .local && one b fun b => yRet b fun r => oneO r fun e => xNamed e (Str.ofString f) fun xs => one xs fun a => xNameIs a v true && (c.glob (Str.ofString f) && c.fns.contains f))
/-- a statement of a def's body itself -/
noncomputable def ckTry (c : Ck) (body : List PS) (d : String) (i : Nat) (hd : List PS) (x : Stmt) : Bool :=
  yTry x fun a hs b e => one hs fun z => b.isEmpty && (e.isEmpty && (decide (d = "RingError") && (ckSs c body a && (c.glob (Str.ofString "RingError") && ckHand c i hd z))))
noncomputable def ckT (c : Ck) : PS → Stmt → Bool
  | .try body d i hd, x => ckTry c body d i hd x
  | p, x => ckS c p x
noncomputable def ckTs (c : Ck) : List PS → List Stmt → Bool
  | [], xs => xs.isEmpty
  | p :: ps, xs => (match xs with | x :: xs => ckT c p x && ckTs c ps xs | [] => false)

section
variable {am : Amb} {n : Nat} {F : Fn}

theorem swaps_comp {e : Expr} {gs : List Comprehension} {scope : Scope} {pos p' : Pos} {v : Str} {l : Nat} {env : Env} : ∃ b, swapsWith (.ListComp e gs scope pos) (some (.Name v p')) l env = pure b := ⟨_, rfl⟩

theorem asgComp_ok {q own : Bool} {c : Ck} (hinj : (c.ctx.map (·.2)).Nodup) {i j : Nat} {elt : PE} {it : PIt} {cond : Option PE} {v : Str} {y : Expr} {p p' : Pos} (hv : c.var v i = true) (hk : c.names.lookup v ≠ some .free) (h : ckE c (.comp elt j it cond) y = true) : SJ am n q F c (.asg i (if own then .own (.comp elt j it cond) else .comp elt j it cond)) (.Assign [.Name v p'] y p) := by
  have hx := ckE_ok (am := am) (n := n) (F := F) q c (.comp elt j it cond) y h
  have he : EJ am n q F c (if own then .own (.comp elt j it cond) else .comp elt j it cond) y := by
    cases own
    · exact hx.1.1
    · exact (hx.2 rfl).1
  refine lc_any (G := fun y => EJ am n q F c (if own then .own (.comp elt j it cond) else .comp elt j it cond) y → SJ am n q F c (.asg i (if own then .own (.comp elt j it cond) else .comp elt j it cond)) (.Assign [.Name v p'] y p)) h (fun el gs scope pos h he => ?_) he
  refine gen_any (G := fun gs => EJ am n q F c (if own then .own (.comp elt j it cond) else .comp elt j it cond) (.ListComp el gs scope pos) → SJ am n q F c (.asg i (if own then .own (.comp elt j it cond) else .comp elt j it cond)) (.Assign [.Name v p'] (.ListComp el gs scope pos) p)) h (fun x' iter ifs px hh he => ?_) he
  have h1 := al hh
  have hh := ar hh
  have h2 := nt (al hh)
  have hh := ar hh
  have h3 := al hh
  have hh := ar hh
  have h4 := al hh
  have hh := ar hh
  intro cx ρ A res outer π₀ s₀ G π Hc s x
  obtain ⟨b, hb⟩ := swaps_comp (e := el) (gs := [⟨.Name x' px, iter, ifs, 0⟩]) (scope := scope) (pos := pos) (p' := p') (v := v) (l := p.line) (env := cx.env)
  cases b with
  | false => exact s_asg_plain hv hk hinj he x hb
  | true =>
    cases q with
    | false => exact .inl (by cases own <;> rfl)
    | true => exact s_asg_comp h2 h3 h4 (ckIt_ok c it _ h1) (ckE_ok true _ elt _ (al hh)).1.1 (ckC_ok _ cond _ (ar hh)) hv hk hinj x hb
theorem asg_ok {q : Bool} {c : Ck} (hinj : (c.ctx.map (·.2)).Nodup) {i : Nat} {e : PE} {v : Str} {y : Expr} {p p' : Pos} (hv : c.var v i = true) (hk : c.names.lookup v ≠ some .free) (h : ckA c e y = true) : SJ am n q F c (.asg i e) (.Assign [.Name v p'] y p) := by
  rcases (Bool.or_eq_true _ _).mp h with h | h
  · exact fun cx ρ A res outer π₀ s₀ G π Hc s x => s_asg_plain hv hk hinj (ckE_ok (am := am) (n := n) (F := F) q c e y (ar h)).1.1 x (swaps_plain (nt (al h)) _ _ _)
  · exact pCompO_any (G := fun e => SJ am n q F c (.asg i e) (.Assign [.Name v p'] y p)) h fun o a b d e h => asgComp_ok hinj hv hk h

mutual
theorem ckS_ok {c : Ck} (hinj : (c.ctx.map (·.2)).Nodup) (q : Bool) : ∀ (p : PS) (x : Stmt), ckS c p x = true → SJ am n q F c p x
  | .expr e, x, h => by
    refine expr_any (G := SJ am n q F c (.expr e)) h fun y p h => ?_
    exact s_expr (al h) (ckE_ok q c e _ (ar h)).1.1
  | .asg i e, x, h => by
    refine asg_any (G := SJ am n q F c (.asg i e)) h fun ts y p h => ?_
    refine one_any (G := fun ts => SJ am n q F c (.asg i e) (.Assign ts y p)) h fun u h => ?_
    refine name_any (G := fun u => SJ am n q F c (.asg i e) (.Assign [u] y p)) h fun v p' h => ?_
    exact asg_ok hinj (al h) (bne_iff_ne.mp (al (ar h))) (ar (ar h))
  | .ret e, x, h => by
    refine ret_any (G := SJ am n q F c (.ret e)) h fun t p h => ?_
    refine oneO_any (G := fun t => SJ am n q F c (.ret e) (.Return t p)) h fun y h => ?_
    exact s_ret (ckE_ok q c e _ h).1.1
  | .ifs t a b, x, h => by
    refine ifs_any (G := SJ am n q F c (.ifs t a b)) h fun t' a' b' p h => ?_
    exact s_if (ckE_ok q c t _ (al h)).1.2 (ckSs_ok hinj q a _ (al (ar h))) (ckSs_ok hinj q b _ (ar (ar h)))
  | .for1 i it body, x, h => by
    refine for_any (G := SJ am n q F c (.for1 i it body)) h fun t y a b p h => ?_
    refine emp_any (G := fun b => SJ am n q F c (.for1 i it body) (.For t y a b p)) (al h) ?_
    refine name_any (G := fun t => SJ am n q F c (.for1 i it body) (.For t y a [] p)) (al (ar (ar (ar h)))) fun v p' h7 => ?_
    cases q with
    | true => exact s_for1 (nt (al (ar (ar h)))) (ckIt_ok c it _ (al (ar h))) (ckSs_ok hinj true body _ (ar (ar (ar (ar h))))) (al h7) (bne_iff_ne.mp (ar h7)) hinj
    | false => exact fun cx ρ A res outer π₀ s₀ G π Hc s x => .inl rfl
  | .raise d, x, h => by
    refine raise_any (G := SJ am n q F c (.raise d)) h fun y z p h => ?_
    refine none_any (G := fun z => SJ am n q F c (.raise d) (.Raise y z p)) (al h) ?_
    refine oneO_any (G := fun y => SJ am n q F c (.raise d) (.Raise y none p)) (ar h) fun e h => ?_
    refine named_any (G := fun e => SJ am n q F c (.raise d) (.Raise (some e) none p)) h fun xs q1 q2 h => ?_
    refine one_any (G := fun xs => SJ am n q F c (.raise d) (.Raise (some (.Call (.Name (Str.ofString d) q1) xs [] q2)) none p)) h fun z h => ?_
    refine str_any (G := fun z => SJ am n q F c (.raise d) (.Raise (some (.Call (.Name (Str.ofString d) q1) [z] [] q2)) none p)) (ar (ar h)) fun t k p3 => ?_
    exact s_raise (List.contains_iff_mem.mp (al (ar h))) (al h)
  | .pass, x, h => pass_any (G := SJ am n q F c .pass) h fun p _ => s_pass
  | .asgT .., x, h => by cases h
  | .while t a, x, h => by
    refine while_any (G := SJ am n q F c (.while t a)) h fun t' a' b' p h => ?_
    refine emp_any (G := fun b' => SJ am n q F c (.while t a) (.While t' a' b' p)) (ar (ar h)) ?_
    cases q with
    | true => exact s_while (ckE_ok true c t _ (al h)).1.2 (ckSs_ok hinj true a _ (al (ar h)))
    | false => exact fun cx ρ A res outer π₀ s₀ G π Hc s x => .inl rfl
  | .setIdx .., x, h => by cases h
  | .setIdx2 .., x, h => by cases h
  | .for2 i i' it body, x, h => by
    refine for_any (G := SJ am n q F c (.for2 i i' it body)) h fun t y a b p h => ?_
    refine emp_any (G := fun b => SJ am n q F c (.for2 i i' it body) (.For t y a b p)) (al h) ?_
    refine tup_any (G := fun t => SJ am n q F c (.for2 i i' it body) (.For t y a [] p)) (al (ar (ar h))) fun ts k tp h7 => ?_
    refine two_any (G := fun ts => SJ am n q F c (.for2 i i' it body) (.For (.Tuple ts k tp) y a [] p)) h7 fun t1 t2 h8 => ?_
    refine name_any (G := fun t1 => SJ am n q F c (.for2 i i' it body) (.For (.Tuple [t1, t2] k tp) y a [] p)) (al h8) fun v p1 h9 => ?_
    refine name_any (G := fun t2 => SJ am n q F c (.for2 i i' it body) (.For (.Tuple [.Name v p1, t2] k tp) y a [] p)) (ar h8) fun v' p2 h10 => ?_
    have hb := ckSs_ok hinj q body _ (ar (ar (ar h)))
    have hen := al (ar h)
    cases q with
    | false => exact fun cx ρ A res outer π₀ s₀ G π Hc s x => .inl rfl
    | true =>
      cases it with
      | enum e =>
        refine named_any (G := fun y => SJ am n true F c (.for2 i i' (.enum e) body) (.For (.Tuple [.Name v p1, .Name v' p2] k tp) y a [] p)) hen fun xs p4 p5 hh => ?_
        refine one_any (G := fun xs => SJ am n true F c (.for2 i i' (.enum e) body) (.For (.Tuple [.Name v p1, .Name v' p2] k tp) (.Call (.Name "enumerate" p4) xs [] p5) a [] p)) hh fun z hh => ?_
        exact s_forE (al hh) (ck_isStar (ar hh)) (ckE_ok true c e _ (ar hh)).1.1 hb (al h9) (bne_iff_ne.mp (ar h9)) (al h10) (bne_iff_ne.mp (ar h10)) hinj
      | _ => cases hen
  | .try .., x, h => by cases h
  | .frz .., x, h => by cases h
theorem ckSs_ok {c : Ck} (hinj : (c.ctx.map (·.2)).Nodup) (q : Bool) : ∀ (ps : List PS) (xs : List Stmt), ckSs c ps xs = true → SsJ am n q F c ps xs
  | [], xs, h => emp_any (G := SsJ am n q F c []) h ss_nil
  | p :: ps, xs, h => by
    cases xs with
    | nil => cases h
    | cons x xs =>
      have h : (ckS c p x && ckSs c ps xs) = true := h
      exact ss_cons (ckS_ok hinj q p x (al h)) (ckSs_ok hinj q ps xs (ar h))
end

/-- a try in the body of a def -/
noncomputable def YJ (am : Amb) (n : Nat) (F : Fn) (c : Ck) (body hd : List PS) (d : String) (i : Nat) (x : Stmt) : Prop := ∀ ⦃cx : Cx⦄ ⦃ρ : List V⦄ ⦃A : Around⦄ ⦃res : List Addr⦄ ⦃outer : List Env⦄ ⦃π₀ : List Addr⦄ ⦃s₀ : Shared⦄ ⦃π : List Addr⦄ ⦃Hc : H⦄ ⦃s : Shared⦄,
    Stm am n true F c cx A res outer π₀ s₀ (fun _ _ => True) ρ π Hc s → SP (am.at res) cx outer true A π₀ s₀ (fun _ _ => True) (fun Q E s => wpAny am.M A (exec x cx.env) Q E s) (exS true F (.try body d i hd) ρ Hc) s
theorem hand_ok {c : Ck} (hinj : (c.ctx.map (·.2)).Nodup) {body hd : List PS} {i : Nat} {a : List Stmt} {z : ExceptHandler} {p : Pos} (ha : SsJ am n true F c body a) (hg : c.glob (Str.ofString "RingError") = true) (h : ckHand c i hd z = true) : YJ am n F c body hd "RingError" i (.Try a [z] [] [] p) := by
  refine one_any (G := fun hd => YJ am n F c body hd "RingError" i (.Try a [z] [] [] p)) h fun r h => ?_
  refine pRet_any (G := fun r => YJ am n F c body [r] "RingError" i (.Try a [z] [] [] p)) h fun e h => ?_
  refine pCallX_any (G := fun e => YJ am n F c body [.ret e] "RingError" i (.Try a [z] [] [] p)) h fun f j h => ?_
  cases of_decide_eq_true (al h)
  refine hand_any (G := fun z => YJ am n F c body [.ret (.callX f i)] "RingError" i (.Try a [z] [] [] p)) (ar h) fun t v b hp h => ?_
  refine oneO_any (G := fun t => YJ am n F c body [.ret (.callX f i)] "RingError" i (.Try a [.ExceptHandler t v b hp] [] [] p)) (al h) fun e h0 => ?_
  refine nameIs_any (G := fun e => YJ am n F c body [.ret (.callX f i)] "RingError" i (.Try a [.ExceptHandler (some e) v b hp] [] [] p)) h0 fun tp _ => ?_
  refine oneO_any (G := fun v => YJ am n F c body [.ret (.callX f i)] "RingError" i (.Try a [.ExceptHandler (some (.Name (Str.ofString "RingError") tp)) v b hp] [] [] p)) (ar h) fun v h => ?_
  have b1 := al h
  have b2 := beq_iff_eq.mp (al (ar h))
  refine one_any (G := fun b => YJ am n F c body [.ret (.callX f i)] "RingError" i (.Try a [.ExceptHandler (some (.Name (Str.ofString "RingError") tp)) (some v) b hp] [] [] p)) (ar (ar h)) fun b h => ?_
  refine ret_any (G := fun b => YJ am n F c body [.ret (.callX f i)] "RingError" i (.Try a [.ExceptHandler (some (.Name (Str.ofString "RingError") tp)) (some v) [b] hp] [] [] p)) h fun r p4 h => ?_
  refine oneO_any (G := fun r => YJ am n F c body [.ret (.callX f i)] "RingError" i (.Try a [.ExceptHandler (some (.Name (Str.ofString "RingError") tp)) (some v) [.Return r p4] hp] [] [] p)) h fun e h => ?_
  refine named_any (G := fun e => YJ am n F c body [.ret (.callX f i)] "RingError" i (.Try a [.ExceptHandler (some (.Name (Str.ofString "RingError") tp)) (some v) [.Return (some e) p4] hp] [] [] p)) h fun xs p1 p3 h => ?_
  refine one_any (G := fun xs => YJ am n F c body [.ret (.callX f i)] "RingError" i (.Try a [.ExceptHandler (some (.Name (Str.ofString "RingError") tp)) (some v) [.Return (some (.Call (.Name (Str.ofString f) p1) xs [] p3)) p4] hp] [] [] p)) h fun y h => ?_
  refine nameIs_any (G := fun y => YJ am n F c body [.ret (.callX f i)] "RingError" i (.Try a [.ExceptHandler (some (.Name (Str.ofString "RingError") tp)) (some v) [.Return (some (.Call (.Name (Str.ofString f) p1) [y] [] p3)) p4] hp] [] [] p)) (al h) fun p2 _ => ?_
  exact fun cx ρ A res outer π₀ s₀ π Hc s X => s_try ha hg b1 b2 hinj (al (ar h)) (List.contains_iff_mem.mp (ar (ar h))) X
theorem ckTry_true {c : Ck} (hinj : (c.ctx.map (·.2)).Nodup) {body hd : List PS} {d : String} {i : Nat} {x : Stmt} (h : ckTry c body d i hd x = true) : YJ am n F c body hd d i x := by
  refine try_any (G := YJ am n F c body hd d i) h fun a hs b e p h => ?_
  refine one_any (G := fun hs => YJ am n F c body hd d i (.Try a hs b e p)) h fun z h => ?_
  refine emp_any (G := fun b => YJ am n F c body hd d i (.Try a [z] b e p)) (al h) ?_
  have h := ar h
  refine emp_any (G := fun e => YJ am n F c body hd d i (.Try a [z] [] e p)) (al h) ?_
  have h := ar h
  cases of_decide_eq_true (al h)
  have h := ar h
  exact hand_ok hinj (ckSs_ok hinj true _ _ (al h)) (al (ar h)) (ar (ar h))

theorem ckTry_ok {c : Ck} (hinj : (c.ctx.map (·.2)).Nodup) (q : Bool) {body hd : List PS} {d : String} {i : Nat} {x : Stmt} (h : ckTry c body d i hd x = true) ⦃cx : Cx⦄ ⦃ρ : List V⦄ ⦃A : Around⦄ ⦃res : List Addr⦄ ⦃outer : List Env⦄ ⦃π₀ : List Addr⦄ ⦃s₀ : Shared⦄ ⦃π : List Addr⦄ ⦃Hc : H⦄ ⦃s : Shared⦄
    (X : Stm am n q F c cx A res outer π₀ s₀ (fun _ _ => True) ρ π Hc s) : SP (am.at res) cx outer q A π₀ s₀ (fun _ _ => True) (fun Q E s => wpAny am.M A (exec x cx.env) Q E s) (exS q F (.try body d i hd) ρ Hc) s := by
  cases q with
  | true => exact ckTry_true hinj h X
  | false => exact .inl rfl

/-- the body of a def -/
noncomputable def TsJ (am : Amb) (n : Nat) (q : Bool) (F : Fn) (c : Ck) (ps : List PS) (xs : List Stmt) : Prop := ∀ ⦃cx : Cx⦄ ⦃ρ : List V⦄ ⦃A : Around⦄ ⦃res : List Addr⦄ ⦃outer : List Env⦄ ⦃π₀ : List Addr⦄ ⦃s₀ : Shared⦄ ⦃π : List Addr⦄ ⦃Hc : H⦄ ⦃s : Shared⦄,
  Stm am n q F c cx A res outer π₀ s₀ (fun _ _ => True) ρ π Hc s → SP (am.at res) cx outer q A π₀ s₀ (fun _ _ => True) (fun Q E s => wpAny am.M A (execs xs cx.env) Q E s) (exSs q F ps ρ Hc) s

theorem ts_cons {q : Bool} {c : Ck} {p : PS} {ps : List PS} {y : Stmt} {ys : List Stmt}
    (h1 : ∀ ⦃cx : Cx⦄ ⦃ρ : List V⦄ ⦃A : Around⦄ ⦃res : List Addr⦄ ⦃outer : List Env⦄ ⦃π₀ : List Addr⦄ ⦃s₀ : Shared⦄ ⦃π : List Addr⦄ ⦃Hc : H⦄ ⦃s : Shared⦄, Stm am n q F c cx A res outer π₀ s₀ (fun _ _ => True) ρ π Hc s → SP (am.at res) cx outer q A π₀ s₀ (fun _ _ => True) (fun Q E s => wpAny am.M A (exec y cx.env) Q E s) (exS q F p ρ Hc) s)
    (h2 : TsJ am n q F c ps ys) : TsJ am n q F c (p :: ps) (y :: ys) := fun cx ρ A res outer π₀ s₀ π Hc s x => sp_cons x (h1 x) fun _ _ _ _ x' => h2 x'

theorem ckTs_ok {c : Ck} (hinj : (c.ctx.map (·.2)).Nodup) (q : Bool) : ∀ (ps : List PS) (xs : List Stmt), ckTs c ps xs = true → TsJ am n q F c ps xs
  | [], xs, h => by
    cases xs with
    | nil => exact fun cx ρ A res outer π₀ s₀ π Hc s x => ss_nil x
    | cons _ _ => cases h
  | p :: ps, xs, h => by
    cases xs with
    | nil => cases h
    | cons x xs =>
      obtain ⟨h1, h2⟩ := Bool.and_eq_true_iff.mp (show (ckT c p x && ckTs c ps xs) = true from h)
      refine ts_cons ?_ (ckTs_ok hinj q ps xs h2)
      intro cx ρ A res outer π₀ s₀ π Hc s X
      cases p with
      | «try» body d i hd => exact ckTry_ok hinj q h1 X
      | _ => exact ckS_ok hinj q _ _ h1 X
end

end Mine

namespace Mine
open PySem PySem.W PyProof.Rows

theorem fm_congr {α β : Type} {f g : α → Option β} : ∀ {l : List α}, (∀ x ∈ l, f x = g x) → l.filterMap f = l.filterMap g
  | [], _ => rfl
  | a :: l, h => by
    rw [List.filterMap_cons, List.filterMap_cons, h a (by simp), fm_congr fun x hx => h x (by simp [hx])]

theorem lookup_zip {ns : List Str} (hn : ns.Nodup) : ∀ {vs : List Value}, vs.length = ns.length → ns.filterMap (fun n => ((ns.zip vs).lookup n).map (n, ·)) = ns.zip vs := by
  induction ns with
  | nil => intro vs _; simp
  | cons a ns ih =>
    intro vs hl
    cases vs with
    | nil => simp at hl
    | cons v vs =>
      rw [List.nodup_cons] at hn
      simp only [List.zip_cons_cons, List.filterMap_cons, List.lookup_cons, beq_self_eq_true, Option.map_some]
      congr 1
      refine Eq.trans (fm_congr fun x hx => ?_) (ih hn.2 (vs := vs) (by simpa using hl))
      have : (x == a) = false := by
        rw [beq_eq_false_iff_ne]; rintro rfl; exact hn.1 hx
      rw [this]

theorem lookup_some {ns : List Str} : ∀ {vs : List Value}, vs.length = ns.length → ∀ n ∈ ns, ((ns.zip vs).lookup n).isSome = true := by
  induction ns with
  | nil => intro vs _ n hn; cases hn
  | cons a ns ih =>
    intro vs hl n hn
    cases vs with
    | nil => simp at hl
    | cons v vs =>
      simp only [List.zip_cons_cons, List.lookup_cons]
      cases hq : n == a with
      | true => rfl
      | false =>
        rcases List.mem_cons.mp hn with rfl | h
        · simp at hq
        · exact ih (by simpa using hl) n h

theorem bind_shape {nm qn : Str} {as : List Arg} {kd : List (Option Expr)} {df : List Expr} {body : FuncBody} {scope : Scope} {globals : Addr} {closure : List (Str × Addr)} {kwd doc pm : Value} {an : Option Addr} {co ct : Value} {bi : Addr} {vals : List Value} :
    ∃ (X Y : Sem (List (Str × Value))) (f : Str × Value → List (Str × Value) → Sem (ForInStep (List (Str × Value)))) (g : List (Str × Value) → Sem (List (Str × Value))), (∀ slots, g slots = pure ((as.map Arg.arg ++ []).filterMap fun n => (List.lookup n slots).map (n, ·))) ∧
      bindArgs ⟨nm, qn, ⟨[], as, none, [], kd, none, df⟩, body, scope, globals, closure, .none, kwd, doc, pm, an, co, ct, bi⟩ ⟨vals, []⟩ =
       (if (decide (vals.length > (as.map Arg.arg).length) && true) = true then X
        else if (!((((as.map Arg.arg).take ((as.map Arg.arg).length - (([] : List Value).drop (([] : List Value).length - (as.map Arg.arg).length)).length)).filter fun n => (List.lookup n ((as.map Arg.arg).zip vals)).isNone).isEmpty)) = true then Y
        else forIn (((as.map Arg.arg).drop ((as.map Arg.arg).length - (([] : List Value).drop (([] : List Value).length - (as.map Arg.arg).length)).length)).zip (([] : List Value).drop (([] : List Value).length - (as.map Arg.arg).length))) ((as.map Arg.arg).zip vals) f >>= g) := by
  refine ⟨_, _, _, _, fun _ => rfl, rfl⟩
theorem bind_plain {fd : FuncData} {vals : List Value} (hp : fd.params.posonlyargs = []) (hk : fd.params.kwonlyargs = []) (hv : fd.params.vararg = none) (hw : fd.params.kwarg = none) (hd : fd.defaults = .none)
    (hn : (fd.params.args.map (·.arg)).Nodup) (hl : vals.length = fd.params.args.length) : bindArgs fd ⟨vals, []⟩ = pure ((fd.params.args.map (·.arg)).zip vals) := by
  have hl' : vals.length = (fd.params.args.map (·.arg)).length := by simpa using hl
  have hm : ((fd.params.args.map (·.arg)).filter fun n => (((fd.params.args.map (·.arg)).zip vals).lookup n).isNone) = [] := by
    rw [List.filter_eq_nil_iff]
    intro n hn'
    have := lookup_some hl' n hn'
    cases hq : ((fd.params.args.map (·.arg)).zip vals).lookup n with
    | none => rw [hq] at this; cases this
    | some _ => simp
  have hz := lookup_zip hn hl'
  obtain ⟨nm, qn, ⟨po, as, va, ko, kd, kw, df⟩, body, scope, globals, closure, dfl, kwd, doc, pm, an, co, ct, bi⟩ := fd
  simp only at hp hk hv hw hd hm hz hl'
  subst hp hk hv hw hd
  obtain ⟨X, Y, f, g, hg, e⟩ := bind_shape (nm := nm) (qn := qn) (as := as) (kd := kd) (df := df) (body := body) (scope := scope) (globals := globals) (closure := closure) (kwd := kwd) (doc := doc) (pm := pm) (an := an) (co := co) (ct := ct) (bi := bi) (vals := vals)
  rw [e]
  generalize as.map Arg.arg = ns at hl' hm hz hg
  have hgt : ¬ vals.length > ns.length := by omega
  rw [List.drop_nil, if_neg (by simp [hgt]), List.zip_nil_right, if_neg (by simp [hm])]
  show g (ns.zip vals) = _
  rw [hg, List.append_nil, hz]

noncomputable def plainDefaults : Value → Bool
  | .none => true
  | _ => false
noncomputable def stmtsOf : FuncBody → Option (List Stmt)
  | .stmts b => some b
  | _ => none

/-- a def of the text is a def of the table; nm: its names, slot by slot -/
noncomputable def ckFn (fns : List String) (nums : List (String × Int)) (d : FnDef) (nm : List String) (fd : FuncData) : Bool :=
  let ns := nm.map Str.ofString
  (match stmtsOf fd.body with | some b => ckTs ⟨ns.zipIdx, fd.scope.names, fns, nums⟩ d.body b | none => false) &&
  fd.params.posonlyargs.isEmpty && fd.params.kwonlyargs.isEmpty && fd.params.vararg.isNone && fd.params.kwarg.isNone && plainDefaults fd.defaults &&
  decide (fd.params.args.map (·.arg) = ns.take d.arity) && decide (d.arity ≤ nm.length) && decide (nm.length ≤ d.slots) && decide ns.Nodup &&
  fd.closure.isEmpty && fd.scope.kind == .function && !fd.scope.isGenerator && !fd.scope.isCoroutine && decide (fd.globals = mainGlobals) && decide (fd.builtins = builtinsNs) &&
  ns.all (fun x => fd.scope.names.lookup x == some .local || fd.scope.names.lookup x == some .cell) && fd.scope.names.all (fun p => p.2 != .free)

/-- the text holds the table's defs -/
structure ProgOK (am : Amb) (P : Tab) (nm : String → List String) (fns : List String) (nums : List (String × Int)) : Prop where
  fn : ∀ f d a o fd, P f = some d → am.mg (Str.ofString f) = some (.ref a) → am.B.get? a = some o → o.data = .func fd → ckFn fns nums d (nm f) fd = true ∧ am.B.CodeRec fd.code fd.qualname
  fns : ∀ f ∈ fns, ∃ a, FunAt am f a
  nums : ∀ p ∈ nums, ∃ t, am.mg (Str.ofString p.1) = some (.int p.2 t)

theorem VR.more {am : Amb} {π : List Addr} {h : Heap} {r : List Addr} {v : V} {x : Value} : ∀ (new : List Addr), (∀ l ∈ new, h.get? l = none) → VR (am.at r) π h v x → VR (am.at (new ++ r)) π h v x
  | [], _, e => e
  | l :: new, hl, e => VR.held (am := am.at (new ++ r)) (hl l (by simp)) (VR.more new (fun a ha => hl a (by simp [ha])) e)
theorem VRs.more {am : Amb} {π : List Addr} {h : Heap} {r : List Addr} {vs : List V} {xs : List Value} : ∀ (new : List Addr), (∀ l ∈ new, h.get? l = none) → VRs (am.at r) π h vs xs → VRs (am.at (new ++ r)) π h vs xs
  | [], _, e => e
  | l :: new, hl, e => VRs.held (am := am.at (new ++ r)) (hl l (by simp)) (VRs.more new (fun a ha => hl a (by simp [ha])) e)

theorem cells_some : ∀ (names : List (Str × NameKind)) (k : Nat) (acc : List (Str × Addr)) (x : Str), (names.lookup x = some .cell ∨ (acc.lookup x).isSome = true) → ((cellsFrom k names acc).lookup x).isSome = true
  | [], k, acc, x, h => by
    rcases h with h | h
    · simp at h
    · exact h
  | (y, kd) :: r, k, acc, x, h => by
    unfold cellsFrom
    cases hxy : x == y with
    | true =>
      have hxy := beq_iff_eq.mp hxy
      subst hxy
      split
      · exact cells_some r _ _ x (.inr (by simp))
      · rename_i hk
        refine cells_some r _ _ x ?_
        rcases h with h | h
        · simp only [List.lookup_cons, beq_self_eq_true, Option.some.injEq] at h
          subst h; simp at hk
        · exact .inr h
    | false =>
      have h' : r.lookup x = some .cell ∨ (acc.lookup x).isSome = true := by
        rcases h with h | h
        · rw [List.lookup_cons, hxy] at h; exact .inl h
        · exact .inr h
      split
      · refine cells_some r _ _ x ?_
        rcases h' with h | h
        · exact .inl h
        · exact .inr (by rw [List.lookup_cons, hxy]; exact h)
      · exact cells_some r _ _ x h'

theorem bindL_get (kd : Str → Option NameKind) : ∀ (ns : List Str) (vs : List Value) (m : Str → Option Value), ns.Nodup → vs.length = ns.length → ∀ (i : Nat) (x : Str) (v : Value), ns[i]? = some x → vs[i]? = some v → kd x = some .local → bindL kd (ns.zip vs) m x = some v
  | [], vs, m, _, _, i, x, v, h, _, _ => by simp at h
  | a :: ns, [], m, _, hl, i, x, v, h, _, _ => by simp at hl
  | a :: ns, w :: vs, m, hn, hl, i, x, v, h1, h2, h3 => by
    have keep : ∀ (ns : List Str) (vs : List Value) (m : Str → Option Value) (x : Str), x ∉ ns → bindL kd (ns.zip vs) m x = m x := by
      intro ns
      induction ns with
      | nil => intro vs m x _; rfl
      | cons b ns ih =>
        intro vs m x hx
        cases vs with
        | nil => rfl
        | cons u vs =>
          simp only [List.mem_cons, not_or] at hx
          rw [List.zip_cons_cons, bindL, ih _ _ _ hx.2]
          split
          · exact if_neg hx.1
          · rfl
    rw [List.nodup_cons] at hn
    rw [List.zip_cons_cons, bindL]
    cases i with
    | zero =>
      simp only [List.getElem?_cons_zero, Option.some.injEq] at h1 h2
      subst h1 h2
      rw [keep _ _ _ _ hn.1, if_pos h3]; simp
    | succ i =>
      exact bindL_get kd ns vs _ hn.2 (by simpa using hl) i x v (by simpa using h1) (by simpa using h2) h3

theorem bindC_get (kd : Str → Option NameKind) : ∀ (ns : List Str) (vs : List Value) (m : Str → Option Value), ns.Nodup → vs.length = ns.length → ∀ (i : Nat) (x : Str) (v : Value), ns[i]? = some x → vs[i]? = some v → kd x = some .cell → bindC kd (ns.zip vs) m x = some v
  | [], vs, m, _, _, i, x, v, h, _, _ => by simp at h
  | a :: ns, [], m, _, hl, i, x, v, h, _, _ => by simp at hl
  | a :: ns, w :: vs, m, hn, hl, i, x, v, h1, h2, h3 => by
    have keep : ∀ (ns : List Str) (vs : List Value) (m : Str → Option Value) (x : Str), x ∉ ns → bindC kd (ns.zip vs) m x = m x := by
      intro ns
      induction ns with
      | nil => intro vs m x _; rfl
      | cons b ns ih =>
        intro vs m x hx
        cases vs with
        | nil => rfl
        | cons u vs =>
          simp only [List.mem_cons, not_or] at hx
          rw [List.zip_cons_cons, bindC, ih _ _ _ hx.2]
          split
          · rfl
          · exact if_neg hx.1
    rw [List.nodup_cons] at hn
    rw [List.zip_cons_cons, bindC]
    cases i with
    | zero =>
      simp only [List.getElem?_cons_zero, Option.some.injEq] at h1 h2
      subst h1 h2
      rw [keep _ _ _ _ hn.1, if_neg (by rw [h3]; simp)]; simp
    | succ i =>
      exact bindC_get kd ns vs _ hn.2 (by simpa using hl) i x v (by simpa using h1) (by simpa using h2) h3

theorem zipIdx_lookup {ns : List Str} {x : Str} {i : Nat} (h : ns.zipIdx.lookup x = some i) : ns[i]? = some x := by
  have := lookup_mem h
  rw [List.mem_zipIdx_iff_getElem?] at this
  simpa using this

theorem zipIdx_nodup (ns : List Str) : (ns.zipIdx.map (·.2)).Nodup := by
  have : ns.zipIdx.map (·.2) = List.range ns.length := by
    apply List.ext_getElem
    · simp
    · intro i h1 h2; simp
  rw [this]; exact List.nodup_range
end Mine

namespace Mine
open PySem PySem.W PyProof.Rows

section
variable {am : Amb} {P : Tab} {nm : String → List String} {fns : List String} {nums : List (String × Int)}

theorem VRs.len' {am : Amb} {π : List Addr} {h : Heap} {vs : List V} {xs : List Value} (e : VRs am π h vs xs) : xs.length = vs.length := by
  have := e.len; omega

theorem args_len {am : Amb} {q : Bool} {π : List Addr} {h : Heap} {vs : List V} {xs : List Value} (e : ArgR am q π h vs xs) : xs.length = vs.length := by
  rcases e with e | ⟨_, c, a, rfl, rfl, _⟩
  · exact e.len'
  · rfl

/-- an argument, as the frame will read it -/
theorem args_get {am : Amb} {q : Bool} {π : List Addr} {h : Heap} {vs : List V} {xs : List Value} (e : ArgR am q π h vs xs) {i : Nat} {v : V} (hv : vs[i]? = some v) : ∃ x, xs[i]? = some x ∧ SR am π h v x := by
  rcases e with e | ⟨_, c, a, rfl, rfl, h1, h2⟩
  · obtain ⟨x, h1, h2⟩ := e.get i v hv
    exact ⟨x, h1, .inl h2⟩
  · cases i with
    | zero =>
      simp only [List.getElem?_cons_zero, Option.some.injEq] at hv
      subst hv
      exact ⟨_, rfl, .inr ⟨c, a, rfl, rfl, h1, h2⟩⟩
    | succ i => simp at hv

theorem run_ok (ok : AmbX am) (pk : ProgOK am P nm fns nums) : ∀ n, FnOK am n (run P n)
  | 0 => ⟨fun res q f a vs xs stack A π Hc s _ _ _ _ _ => .inl rfl⟩
  | n + 1 => ⟨fun res q f a vs xs stack A π Hc s fa as hr hd ha => by
    have IH := run_ok ok pk n
    refine hold fun _ k_ => ?_
    obtain ⟨hga, o, fd, ho, hdata⟩ := fa
    refine k_ ?_
    show JAt _ _ _ _ (match P f with | some d => runD q (run P n) d vs Hc | Option.none => .bad) _ _ _
    cases hP : P f with
    | none => exact .inl rfl
    | some d =>
    simp only
    obtain ⟨hck, hcode⟩ := pk.fn f d a o fd hP hga ho hdata
    unfold runD
    by_cases hlen' : ¬ vs.length = d.arity
    · rw [if_neg hlen']; exact .inl rfl
    have hlen := Classical.not_not.mp hlen'
    rw [if_pos hlen]
    unfold ckFn at hck
    simp only [Bool.and_eq_true, decide_eq_true_eq, beq_iff_eq, Bool.not_eq_true', List.isEmpty_iff, Option.isNone_iff_eq_none] at hck
    refine hold fun _ k_ => ?_
    obtain ⟨⟨⟨⟨⟨⟨⟨⟨⟨⟨⟨⟨⟨⟨⟨⟨⟨k1, k2⟩, k3⟩, k4⟩, k5⟩, k6⟩, k7⟩, k8⟩, k9⟩, k10⟩, k11⟩, k12⟩, k13⟩, k14⟩, k15⟩, k16⟩, k17⟩, k18⟩ := hck
    refine k_ ?_
    cases hb : stmtsOf fd.body with
    | none => rw [hb] at k1; cases k1
    | some body =>
    rw [hb] at k1
    simp only at k1
    have hbody : fd.body = .stmts body := by
      cases hq : fd.body with
      | stmts b => rw [hq] at hb; cases hb; rfl
      | expr e => rw [hq] at hb; cases hb
    have hdef : fd.defaults = .none := by
      cases hq : fd.defaults <;> rw [hq] at k6 <;> first | rfl | cases k6
    let ns := (nm f).map Str.ofString
    let c : Ck := ⟨ns.zipIdx, fd.scope.names, fns, nums⟩
    have hns : ns.Nodup := k10
    have hpn : fd.params.args.map (·.arg) = ns.take d.arity := k7
    have hnl : ns.length = (nm f).length := by simp [ns]
    have hxl : xs.length = d.arity := by rw [args_len ha, hlen]
    have hpl : fd.params.args.length = d.arity := by
      have := congrArg List.length hpn
      rw [List.length_map, List.length_take] at this
      omega
    have hbind : bindArgs fd ⟨xs, []⟩ = pure ((ns.take d.arity).zip xs) := by
      rw [← hpn]
      refine bind_plain k2 k3 k4 k5 hdef ?_ (by omega)
      rw [hpn]; exact hns.sublist (List.take_sublist _ _)
    have hkind : ∀ x ∈ ns, fd.scope.names.lookup x = some .local ∨ fd.scope.names.lookup x = some .cell := fun x hx => by
      have := List.all_eq_true.mp k17 x hx
      simpa using this
    have TS := ckTs_ok (am := am) (n := n) (F := run P n) (c := c) (zipIdx_nodup ns) q d.body body k1
    -- the call
    have hlim : s.heap.NoLimit := ok.nolimit.keeps hr.base
    by_cases hbad : exSs q (run P n) d.body (vs ++ List.replicate (d.slots - d.arity) .undef) Hc = .bad
    · rw [hbad]; exact .inl rfl
    refine .inr (wpAny_call (codeAny_call_cells (binds := (ns.take d.arity).zip xs) (body := body) (o := o) (fd := fd) (by have := as.depth; unfold recursionLimit; omega) (hr.base a o ho) hdata hlim (hcode.keeps hr.base) hbody hbind k11 (fun x hx => ?_) (fun s₁ I => ?_) k14 k13 k12))
    · have hm : x.1 ∈ ns := List.mem_of_mem_take (List.of_mem_zip hx).1
      rcases hkind x.1 hm with h | h
      · exact .inl h
      · exact .inr ⟨h, cells_some _ _ _ _ (.inl h)⟩
    generalize hE : callEnvC fd s.heap.objs.size a = env at I
    have eloc : env.locals = s.heap.objs.size := by rw [← hE]; rfl
    have efr : env.frame = some env.locals := by rw [← hE]; rfl
    have esc : env.scope = fd.scope := by rw [← hE]; rfl
    have egl : env.globals = mainGlobals := by rw [← hE]; exact k15
    have ebl : env.builtins = builtinsNs := by rw [← hE]; exact k16
    have ecl : env.cells = cellsFrom (s.heap.objs.size + 1) fd.scope.names [] := by rw [← hE]; rfl
    have ekd : ∀ x, env.kindOf x = fd.scope.names.lookup x := fun x => by unfold Env.kindOf; rw [esc]
    have hfresh : ∀ b, s.heap.objs.size ≤ b → s.heap.get? b = none := fun b hb => by
      cases hq : s.heap.get? b with
      | none => rfl
      | some o' => exact absurd (Heap.lt_size hq) (Nat.not_lt_of_le hb)
    have fL : s.heap.get? env.locals = none := hfresh _ (by rw [eloc]; exact Nat.le_refl _)
    have fC : ∀ x cc, (x, cc) ∈ env.cells → s.heap.get? cc = none := fun x cc h => hfresh _ (Nat.le_of_lt (eloc ▸ I.above x cc h))
    let new : List Addr := env.locals :: env.cells.filterMap fun p => env.cells.lookup p.1
    have hcm : ∀ l, l ∈ env.cells.filterMap (fun p => env.cells.lookup p.1) → ∃ y, env.cells.lookup y = some l := by
      intro l hl
      obtain ⟨p, _, h2⟩ := List.mem_filterMap.mp hl
      exact ⟨p.1, h2⟩
    have hmc : ∀ y l, env.cells.lookup y = some l → l ∈ env.cells.filterMap (fun p => env.cells.lookup p.1) := fun y l h => List.mem_filterMap.mpr ⟨(y, l), mem_of_lookup h, h⟩
    have hnew : ∀ l ∈ new, s.heap.get? l = none := by
      intro l hl
      rcases List.mem_cons.mp hl with rfl | hl
      · exact fL
      · obtain ⟨y, h1⟩ := hcm l hl
        exact fC y l (mem_of_lookup h1)
    have keep := I.toInCall.keep
    have nfL := Ns.nf I.toInCall.ns
    have bn : ∀ l, s.heap.get? l = none → am.B.get? l = none := fun l h => none_of_stays hr.base h
    have hdn : ∀ a' ∈ π, ∃ o, s.heap.get? a' = some o := by
      intro a' ha'
      obtain ⟨i, hi, e1⟩ := List.getElem_of_mem ha'
      have h1 : π[i]? = some a' := by rw [List.getElem?_eq_getElem hi, e1]
      have h2 : i < Hc.length := by rw [← hr.len]; exact hi
      obtain ⟨o, ho, _⟩ := (hr.cell i Hc[i] a' (by simp [h2]) h1).obj
      exact ⟨o, ho⟩
    have offN : ∀ l, s.heap.get? l = none → l ∉ π := fun l h hm => by obtain ⟨o, ho⟩ := hdn l hm; rw [h] at ho; cases ho
    -- the state at the body's start
    let cx : Cx := ⟨env, env :: stack, ns.zipIdx⟩
    have hr1 : HR (am.at (new ++ res)) (env :: stack) π Hc s₁.heap := by
      refine ⟨fun b o e => keep b o (hr.base b o e), ⟨by rw [esc, k12]; simp, ?_, hr.frames.of_keeps fun b o e _ => ⟨o, keep b o e, rfl⟩⟩, hr.len, hr.nodup, ?_, ?_, ?_⟩
      · obtain ⟨o, ho, hn⟩ := nfL
        exact ⟨env.locals, o, efr, bn _ fL, ho, hn⟩
      · intro l hl
        rcases List.mem_append.mp hl with hl | hl
        · rcases List.mem_cons.mp hl with rfl | hl
          · exact nfL
          · obtain ⟨y, h1⟩ := hcm l hl
            obtain ⟨o, ho, hd'⟩ := I.cell y l h1
            exact ⟨o, ho, fun us q => by rw [hd'] at q; cases q⟩
        · obtain ⟨o, ho, hn⟩ := hr.res l hl
          exact ⟨o, keep l o ho, hn⟩
      · intro l hl
        refine ⟨(hr.off l hl).1, ?_⟩
        rw [List.filterMap_cons, efr]
        rw [List.mem_cons, not_or]
        exact ⟨fun q => offN _ fL (q ▸ hl), (hr.off l hl).2⟩
      · intro i cc l h1 h2
        obtain ⟨o, ys, q0, q1, q2, q3⟩ := hr.cell i cc l h1 h2
        exact (show CellAt (am.at (new ++ res)) π s.heap cc l from ⟨o, ys, q0, q1, q2, VRs.more new hnew q3⟩).keeps keep
    have sr1 : ∀ {v : V} {x : Value}, SR (am.at res) π s.heap v x → SR (am.at (new ++ res)) π s₁.heap v x := by
      intro v x e
      rcases e with e | ⟨d', b, e1, e2, e3, C, o', us, e4, e5, e6⟩
      · exact .inl ((VR.more new hnew e).keeps keep)
      · exact .inr ⟨d', b, e1, e2, e3, C, o', us, e4, keep b o' e5, e6⟩
    have er1 : ER (am.at (new ++ res)) cx (vs ++ List.replicate (d.slots - d.arity) .undef) π s₁.heap := by
      refine ⟨⟨_, I.toInCall.ns⟩, offN _ fL, fun y l hl => ⟨offN _ (fC y l (mem_of_lookup hl)), ?_, _, I.cell y l hl⟩, fun x y l h1 h2 => ?_, fun x i v h1 h2 h3 h4 => ?_⟩
      · exact Nat.ne_of_gt (I.above y l (mem_of_lookup hl))
      · exact name_of_addr I.apart (mem_of_lookup h1) (mem_of_lookup h2)
      · have hx : ns[i]? = some x := zipIdx_lookup h1
        have hi : i < vs.length := by
          rcases Nat.lt_or_ge i vs.length with h | h
          · exact h
          · rw [List.getElem?_append_right h] at h2
            have := List.mem_of_getElem? h2
            rw [List.mem_replicate] at this
            exact absurd this.2 h3
        rw [List.getElem?_append_left hi] at h2
        obtain ⟨xv, h5, h6⟩ := args_get ha h2
        have hxi : (ns.take d.arity)[i]? = some x := by rw [List.getElem?_take_of_lt (by omega)]; exact hx
        have hnt : (ns.take d.arity).Nodup := hns.sublist (List.take_sublist _ _)
        have hlt : xs.length = (ns.take d.arity).length := by rw [List.length_take]; omega
        refine ⟨xv, ?_, sr1 h6⟩
        rcases hkind x (List.mem_of_getElem? hx) with hk | hk
        · have hk' : env.kindOf x = some .local := by rw [ekd]; exact hk
          exact .inl ⟨hk', _, I.toInCall.ns, bindL_get _ _ _ _ hnt hlt i x xv hxi h5 hk'⟩
        · have hk' : env.kindOf x = some .cell := by rw [ekd]; exact hk
          have hcs := cells_some fd.scope.names (s.heap.objs.size + 1) [] x (.inl hk)
          rw [← ecl] at hcs
          obtain ⟨l, hl⟩ := Option.isSome_iff_exists.mp hcs
          refine .inr ⟨.inl hk', l, hl, ?_⟩
          have := I.cell x l hl
          rw [bindC_get _ _ _ _ hnt hlt i x xv hxi h5 hk'] at this
          exact this
    have as1 : AS n (env :: stack) (A.deeper env) := by
      refine ⟨?_, ?_, ?_⟩
      · show A.frames.map (env :: ·) = _; rw [as.frames]; rfl
      · show A.depth + 1 + n < 800; have := as.depth; omega
      · show A.units + 3 + 10 * n < 9000; have := as.units; omega
    have hd1 : Hd q (A.deeper env) π (Fs (env :: stack)) s₁.heap := by
      unfold Hd at hd ⊢
      split
      · rename_i hq; rw [if_pos hq] at hd; exact hd
      · rename_i hq
        rw [if_neg hq] at hd
        refine hold fun _ k_ => ?_
        obtain ⟨he, o', us, e1, e2, e3, e4, e5⟩ := hd
        refine k_ ?_
        refine ⟨he, o', us, e1, e2, ?_, keep he o' e4, e5⟩
        simp only [Fs, List.filterMap_cons, efr, List.mem_cons, not_or]
        exact ⟨(fun q' => by rw [q', fL] at e4; cases e4), e3⟩
    have topE : TopEnv env := ⟨by rw [esc]; exact k13, by rw [esc]; exact k14, egl, ebl⟩
    have cxk : CxOK cx := by
      refine ⟨fun x hx => ?_, by show env.scope.kind = _; rw [esc]; exact k12, egl, ebl, ⟨env, stack, rfl, rfl, topE⟩⟩
      rcases hx with hx | hx
      · have hx : fd.scope.names.lookup x = some .cell := by rw [← ekd]; exact hx
        have hcs := cells_some fd.scope.names (s.heap.objs.size + 1) [] x (.inl hx)
        rw [← ecl] at hcs
        exact Option.isSome_iff_exists.mp hcs
      · have hx : fd.scope.names.lookup x = some .free := by rw [← ekd]; exact hx
        have := List.all_eq_true.mp k18 _ (lookup_mem hx)
        simp at this
    have ne1 : q = true → NoExc (vs ++ List.replicate (d.slots - d.arity) .undef) := by
      intro hq v hv k hk
      subst hk
      rcases List.mem_append.mp hv with hv | hv
      · rcases ha with ha | ⟨h, _⟩
        · obtain ⟨i, hi, e1⟩ := List.getElem_of_mem hv
          obtain ⟨x, _, h2⟩ := ha.get i (.exc k) (by rw [List.getElem?_eq_getElem hi, e1])
          exact h2
        · rw [hq] at h; cases h
      · rw [List.mem_replicate] at hv; cases hv.2
    have st1 : Step (Fs stack) π s π s₁ := by
      obtain ⟨h', tk, e⟩ := I.toInCall.same
      exact ⟨⟨h', tk, e⟩, .of_keeps keep, [], by simp, by simp⟩
    have X : Stm am n q (run P n) c cx (A.deeper env) (new ++ res) stack π s (fun _ _ => True) (vs ++ List.replicate (d.slots - d.arity) .undef) π Hc s₁ :=
      ⟨⟨ok, IH, ⟨rfl, by show env.scope.names = _; rw [esc], pk.fns, pk.nums⟩, cxk, as1, ne1⟩,
        ⟨⟨rfl, efr⟩, List.mem_append.mpr (.inl List.mem_cons_self), bn _ fL, fL, fun y l hl => ⟨List.mem_append.mpr (.inl (List.mem_cons_of_mem _ (hmc y l hl))), bn _ (fC y l (mem_of_lookup hl)), fC y l (mem_of_lookup hl)⟩⟩,
        st1, ⟨hr1, er1, hd1⟩, fun b o e => hideAll_get _ (hr.base b o e) (by
          rw [List.mem_append, not_or]
          refine ⟨fun hm => ?_, fun hm => ?_⟩
          · have z : am.B.get? b = none := (hr.off b hm).1
            rw [z] at e; cases e
          · have z : am.B.get? b = none := (hr.frames.mem hm).1
            rw [z] at e; cases e), trivial, fun _ _ _ _ _ _ => trivial⟩
    have down : ∀ {π' : List Addr} {H' : H} {h' : Heap}, HR (am.at (new ++ res)) (env :: stack) π' H' h' → HR (am.at res) stack π' H' h' := fun {π' H' h'} z => by
      have z := HR.sub (am := am) (r := new ++ res) (r' := res) (fun a ha => List.mem_append.mpr (.inr ha)) z
      refine ⟨z.base, z.frames.2.2, z.len, z.nodup, z.res, fun a ha => ⟨(z.off a ha).1, ?_⟩, z.cell⟩
      have := (z.off a ha).2
      rw [List.filterMap_cons, efr, List.mem_cons, not_or] at this
      exact this.2
    rcases TS X with h | h
    · exact absurd h hbad
    refine wpAny_mono h (fun fl s' z => ?_) fun y s' z => ?_
    · refine hold fun _ k_ => ?_
      obtain ⟨fl', ρ', H', π', z1, z2, z3, z4, z5, _⟩ := z
      refine k_ ?_
      rw [z1]
      cases fl' with
      | next => cases z5; exact ⟨.none, H', π', rfl, z2, down z3.hr, rfl⟩
      | ret w => obtain ⟨xv, rfl, hxv⟩ := z5; exact ⟨w, H', π', rfl, z2, down z3.hr, hxv.sub fun a ha => List.mem_append.mpr (.inr ha)⟩
    · refine hold fun _ k_ => ?_
      obtain ⟨d', ρ', H', π', e, C, fl, z1, rfl, z3, z4, z5, z6, z7⟩ := z
      refine k_ ?_
      have fl' := frames_low (π₀ := π) X.f z5.hr
      refine x_leave as1.frames fl' efr z7 fun h' x' t' => ?_
      rw [z1]
      refine ⟨d', H', π', e, C, _, rfl, rfl, z3, z4.touch X.f z5.hr t', ?_, x'⟩
      exact (down z5.hr).upto t'.slots fun b o e => t'.stays b o (X.low b o e)⟩
end

end Mine

namespace Mine


/-- a fork on a truth -/
noncomputable def forkR {α : Type} (o : Option Bool) (a b : Unit → R α) : R α :=
  match o with
  | some true => a ()
  | some false => b ()
  | none => .bad
@[simp] theorem forkR_t {α : Type} (a b : Unit → R α) : forkR (some true) a b = a () := rfl
@[simp] theorem forkR_f {α : Type} (a b : Unit → R α) : forkR (some false) a b = b () := rfl
noncomputable def forkS (o : Option Bool) (a b : Unit → RS) : RS :=
  match o with
  | some true => a ()
  | some false => b ()
  | none => .bad
@[simp] theorem forkS_t (a b : Unit → RS) : forkS (some true) a b = a () := rfl
@[simp] theorem forkS_f (a b : Unit → RS) : forkS (some false) a b = b () := rfl

/-- the table's lists, as functions -/
noncomputable def tabOf (tl : List (String × FnDef × List String)) : Tab := fun f => (tl.lookup f).map (·.1)
noncomputable def nmOf (tl : List (String × FnDef × List String)) : String → List String := fun f => ((tl.lookup f).map (·.2)).getD []


variable (q : Bool) (F : Fn) (ρ : List V) (h : H)

@[simp] theorem truthy_bool (b : Bool) : truthy (.bool b) = some b := rfl

@[simp] theorem e_not (a : PE) : evE q F ρ (.not a) h = (evE q F ρ a h).bind fun x h => R.opt ((truthy x).map fun b => .bool (!b)) h := by
  rw [qE_9]; congr 1; funext x h; cases truthy x <;> rfl
@[simp] theorem e_and1 (e : PE) : evAnd q F ρ [e] h = evE q F ρ e h := rfl
@[simp] theorem e_and2 (e d : PE) (es : List PE) : evAnd q F ρ (e :: d :: es) h = (evE q F ρ e h).bind fun x h => forkR (truthy x) (fun _ => evAnd q F ρ (d :: es) h) (fun _ => .ok x h) := rfl
@[simp] theorem e_or1 (e : PE) : evOr q F ρ [e] h = evE q F ρ e h := rfl
@[simp] theorem e_or2 (e d : PE) (es : List PE) : evOr q F ρ (e :: d :: es) h = (evE q F ρ e h).bind fun x h => forkR (truthy x) (fun _ => .ok x h) (fun _ => evOr q F ρ (d :: es) h) := rfl
@[simp] theorem e_ite (t a b : PE) : evE q F ρ (.ite t a b) h = (evE q F ρ t h).bind fun x h => forkR (truthy x) (fun _ => evE q F ρ a h) (fun _ => evE q F ρ b h) := rfl
@[simp] theorem e_cmp2 (o1 o2 : Cop) (a b c : PE) : evE q F ρ (.cmp2 o1 o2 a b c) h = (evE q F ρ a h).bind fun x h => (evE q F ρ b h).bind fun y h =>
    forkR (pyCmp o1 h x y) (fun _ => (evE q F ρ c h).bind fun z h => R.opt ((pyCmp o2 h y z).map .bool) h) (fun _ => .ok (.bool false) h) := rfl
@[simp] theorem s_ifs (t : PE) (a b : List PS) : exS q F (.ifs t a b) ρ h = (evE q F ρ t h).st ρ fun x h => forkS (truthy x) (fun _ => exSs q F a ρ h) (fun _ => exSs q F b ρ h) := rfl

/-- the value of a name -/
noncomputable def varR (o : Option V) (h : H) : R V :=
  match o with
  | some .undef => .bad
  | some (.exc _) => .bad
  | some v => .ok v h
  | none => .bad
@[simp] theorem e_var (i : Nat) : evE q F ρ (.var i) h = varR ρ[i]? h := rfl
@[simp] theorem varR_int (i : Int) : varR (some (.int i)) h = .ok (.int i) h := rfl
@[simp] theorem varR_bool (i : Bool) : varR (some (.bool i)) h = .ok (.bool i) h := rfl
@[simp] theorem varR_none : varR (some .none) h = .ok .none h := rfl
@[simp] theorem varR_str (i : String) : varR (some (.str i)) h = .ok (.str i) h := rfl
@[simp] theorem varR_tup (i : List V) : varR (some (.tup i)) h = .ok (.tup i) h := rfl
@[simp] theorem varR_lst (i : List V) : varR (some (.lst i)) h = .ok (.lst i) h := rfl
@[simp] theorem varR_ref (i : Nat) : varR (some (.ref i)) h = .ok (.ref i) h := rfl
@[simp] theorem varR_dct : varR (some .dct) h = .ok .dct h := rfl

/-- a value that a name may have -/
noncomputable def V.val : V → Prop
  | .undef => False
  | .exc _ => False
  | _ => True
theorem varR_val {v : V} (hv : v.val) : varR (some v) h = .ok v h := by cases v <;> first | rfl | exact hv.elim


@[simp] theorem e_none : evE q F ρ .none h = .ok .none h := rfl
@[simp] theorem e_bool (b : Bool) : evE q F ρ (.bool b) h = .ok (.bool b) h := rfl
@[simp] theorem e_int (i : Int) : evE q F ρ (.int i) h = .ok (.int i) h := rfl
@[simp] theorem e_str (s : String) : evE q F ρ (.str s) h = .ok (.str s) h := rfl
@[simp] theorem e_glob (g : String) (i : Int) : evE q F ρ (.glob g i) h = .ok (.int i) h := rfl
@[simp] theorem e_neg (i : Int) : evE q F ρ (.neg i) h = .ok (.int (-i)) h := rfl
@[simp] theorem e_bin (op : Bop) (a b : PE) : evE q F ρ (.bin op a b) h = (evE q F ρ a h).bind fun x h => (evE q F ρ b h).bind fun y h => R.opt (pyBin op h x y) h := rfl
@[simp] theorem e_and (es : List PE) : evE q F ρ (.and es) h = evAnd q F ρ es h := rfl
@[simp] theorem e_or (es : List PE) : evE q F ρ (.or es) h = evOr q F ρ es h := rfl
@[simp] theorem e_cmp (op : Cop) (a b : PE) : evE q F ρ (.cmp op a b) h = (evE q F ρ a h).bind fun x h => (evE q F ρ b h).bind fun y h => R.opt ((pyCmp op h x y).map .bool) h := rfl
@[simp] theorem e_list (es : List PE) : evE q F ρ (.list es) h = (evEs q F ρ es h).bind fun vs h => R.opt (mkL vs) h := rfl
@[simp] theorem e_tup (es : List PE) : evE q F ρ (.tup es) h = (evEs q F ρ es h).bind fun vs h => R.opt (mkT vs) h := rfl
@[simp] theorem e_dict0 : evE q F ρ .dict0 h = .ok .dct h := rfl
@[simp] theorem e_idx (a i : PE) : evE q F ρ (.idx a i) h = (evE q F ρ a h).bind fun x h => (evE q F ρ i h).bind fun y h => R.opt (pyIdx h x y) h := rfl
@[simp] theorem e_slice (a : PE) (lo hi : Option PE) : evE q F ρ (.slice a lo hi) h = (evE q F ρ a h).bind fun x h => (evO q F ρ lo h).bind fun l h => (evO q F ρ hi h).bind fun u h => R.opt (pySlice h x l u) h := rfl
@[simp] theorem e_isinst (a : PE) (ts : List Ty) : evE q F ρ (.isinst a ts) h = (evE q F ρ a h).bind fun x h => R.opt ((isTys h x ts).map .bool) h := rfl
noncomputable def excR (o : Option V) (h : H) (f : String → R V) : R V :=
  match o with
  | some (.exc c) => f c
  | _ => .bad
@[simp] theorem excR_some (c : String) (f : String → R V) : excR (some (.exc c)) h f = f c := rfl
@[simp] theorem e_isexc (x : Nat) (t : Ty) : evE q F ρ (.isexc x t) h = excR ρ[x]? h fun c => R.opt ((isExc c t).map .bool) h := rfl
@[simp] theorem e_callX (f : String) (x : Nat) : evE q F ρ (.callX f x) h = excR ρ[x]? h fun c => pcall h (F q f [.exc c] h) := rfl
@[simp] theorem e_bf (f : Bf) (a : PE) : evE q F ρ (.bf f a) h = if (!q && f.walks) || !f.ready then .bad else (evE q F ρ a h).bind fun x h => R.opt (Mine.bf f h x) h := rfl
@[simp] theorem e_join0 (a : PE) : evE q F ρ (.join0 a) h = if !q then .bad else (evE q F ρ a h).bind fun x h => R.opt ((litems h x).bind fun vs => (joinStrs vs).map .str) h := rfl
noncomputable def lstR (r : R (List V)) : R V :=
  match r with
  | .ok r h => R.opt (mkL r) h
  | _ => .bad
@[simp] theorem lstR_ok (r : List V) : lstR (.ok r h) = R.opt (mkL r) h := rfl
@[simp] theorem e_comp (elt : PE) (x : Nat) (it : PIt) (cond : Option PE) : evE q F ρ (.comp elt x it cond) h = if !q then .bad else (evIt q F ρ it h).bind fun vs h =>
      lstR (compL vs.2 (fun v h => evE q F (ρ.set x v) elt h) (fun v h => evC q F (ρ.set x v) cond h) vs.1 h) := rfl
@[simp] theorem e_callF (f : String) (args : List PE) : evE q F ρ (.call false f args) h = (evEs q F ρ args h).bind fun vs h => pcall h (F q f vs h) := rfl
@[simp] theorem e_callT (f : String) (args : List PE) : evE q F ρ (.call true f args) h = (evEs q F ρ args h).bind fun vs h => F q f vs h := rfl
noncomputable def ownR (v : V) (h : H) : R V :=
  match v with
  | .lst vs => .ok (.ref h.length) (h ++ [.list vs])
  | _ => .bad
@[simp] theorem ownR_lst (vs : List V) : ownR (.lst vs) h = .ok (.ref h.length) (h ++ [.list vs]) := rfl
@[simp] theorem e_own (a : PE) : evE q F ρ (.own a) h = (evE q F ρ a h).bind fun x h => ownR x h := rfl
@[simp] theorem e_append (o a : PE) : evE q F ρ (.append o a) h = (evE q F ρ o h).bind fun x h => if lcell h x then (evE q F ρ a h).bind fun y h => onList h x fun vs => some (.none, vs ++ [y]) else .bad := rfl
@[simp] theorem es_nil : evEs q F ρ [] h = .ok [] h := rfl
@[simp] theorem es_cons (e : PE) (es : List PE) : evEs q F ρ (e :: es) h = (evE q F ρ e h).bind fun v h => (evEs q F ρ es h).bind fun vs h => .ok (v :: vs) h := rfl
@[simp] theorem o_none : evO q F ρ Option.none h = .ok Option.none h := rfl
@[simp] theorem o_some (e : PE) : evO q F ρ (some e) h = (evE q F ρ e h).bind fun v h => .ok (some v) h := rfl
@[simp] theorem c_none : evC q F ρ Option.none h = .ok (.bool true) h := rfl
@[simp] theorem c_some (e : PE) : evC q F ρ (some e) h = evE q F ρ e h := rfl
@[simp] theorem i_seq (e : PE) : evIt q F ρ (.seq e) h = (evE q F ρ e h).bind fun x h => R.opt (iterOf h x) h := rfl
noncomputable def rngR (v : V) (h : H) : R (List V × Watch) :=
  match v with
  | .int n => if -1000000 ≤ n ∧ n ≤ 1000000 then .ok (upto n, Option.none) h else .bad
  | _ => .bad
theorem rngR_int {n : Int} (h1 : -1000000 ≤ n) (h2 : n ≤ 1000000) : rngR (.int n) h = .ok (upto n, Option.none) h := by simp [rngR, h1, h2]
@[simp] theorem i_range1 (a : PE) : evIt q F ρ (.range1 a) h = (evE q F ρ a h).bind fun x h => rngR x h := rfl
noncomputable def rng2R (v w : V) (h : H) : R (List V × Watch) :=
  match v, w with
  | .int m, .int n => if -1000000 ≤ m ∧ m ≤ 1000000 ∧ -1000000 ≤ n ∧ n ≤ 1000000 then .ok (fromTo m n, Option.none) h else .bad
  | _, _ => .bad
@[simp] theorem i_range2 (a b : PE) : evIt q F ρ (.range2 a b) h = (evE q F ρ a h).bind fun x h => (evE q F ρ b h).bind fun y h => rng2R x y h := rfl

-- statements
@[simp] theorem ss_nil' : exSs q F [] ρ h = .ok .next ρ h := rfl
@[simp] theorem ss_cons' (s : PS) (ss : List PS) : exSs q F (s :: ss) ρ h = (exS q F s ρ h).then fun ρ h => exSs q F ss ρ h := rfl
@[simp] theorem noneS_none : noneS .none ρ h = .ok .next ρ h := rfl
@[simp] theorem s_expr' (e : PE) : exS q F (.expr e) ρ h = (evE q F ρ e h).st ρ fun v h => noneS v ρ h := rfl
@[simp] theorem s_asg' (x : Nat) (e : PE) : exS q F (.asg x e) ρ h = (evE q F ρ e h).st ρ fun v h => .ok .next (ρ.set x v) h := rfl
@[simp] theorem s_ret' (e : PE) : exS q F (.ret e) ρ h = (evE q F ρ e h).st ρ fun v h => .ok (.ret v) ρ h := rfl
@[simp] theorem s_pass' : exS q F .pass ρ h = .ok .next ρ h := rfl
@[simp] theorem s_for1' (x : Nat) (it : PIt) (body : List PS) : exS q F (.for1 x it body) ρ h = if !q then .bad else (evIt q F ρ it h).st ρ fun vs h => forL vs.2 (bind1 x) (fun ρ h => exSs q F body ρ h) vs.1 ρ h := rfl
@[simp] theorem s_raise' (c : String) : exS q F (.raise c) ρ h = if !q then .bad else .err c ρ h := rfl
noncomputable def catchS (c : String) (r : RS) (f : String → List V → H → RS) : RS :=
  match r with
  | .err d ρ h => if excNames.contains d && c == "RingError" then f d ρ h else .bad
  | r => r
noncomputable def doneS (x : Nat) (r : RS) : RS :=
  match r with
  | .ok f ρ h => .ok f (ρ.set x .undef) h
  | _ => .bad
@[simp] theorem doneS_ok (x : Nat) (f : Fl) : doneS x (.ok f ρ h) = .ok f (ρ.set x .undef) h := rfl
@[simp] theorem catchS_ok (c : String) (g : Fl) (f : String → List V → H → RS) : catchS c (.ok g ρ h) f = .ok g ρ h := rfl
@[simp] theorem s_try' (body : List PS) (c : String) (x : Nat) (hd : List PS) : exS q F (.try body c x hd) ρ h = if !q then .bad else catchS c (exSs q F body ρ h) fun d ρ h => doneS x (exSs false F hd (ρ.set x (.exc d)) h) := by
  rw [qS_12]
  cases q with
  | false => rfl
  | true =>
    simp only [catchS]
    cases exSs true F body ρ h with
    | ok f ρ h => rfl
    | bad => rfl
    | err d ρ h =>
      by_cases e : (excNames.contains d && c == "RingError") = true
      · simp only [e, if_true, Bool.not_true, Bool.false_eq_true, if_false]
        cases exSs false F hd (ρ.set x (.exc d)) h <;> rfl
      · simp only [e, if_false, Bool.not_true, Bool.false_eq_true]


theorem runD_eq (d : FnDef) (vs : List V) (hl : vs.length = d.arity) : runD q F d vs h = (exSs q F d.body (vs ++ List.replicate (d.slots - d.arity) .undef) h).out := by
  simp [runD, hl]





theorem mkL_eq {vs : List V} (hl : vs.length ≤ 1000000) : mkL vs = some (.lst vs) := by simp [mkL, hl]

/-- a call that makes no cells -/
theorem pcall_ok {v : V} (hv : v.plain = true) (h : H) : pcall h (.ok v h) = .ok v h := by
  simp [pcall, frz, mapRef_plain _ v hv]
theorem pcall_new {v w : V} (h n : H) (hv : frz h.length (h ++ n) v = some w) : pcall h (.ok v (h ++ n)) = .ok w h := by
  simp [pcall, hv]
theorem pcall_err (c : String) (h n : H) : pcall h (.err c (h ++ n)) = .err c h := by simp [pcall]
@[simp] theorem pcall_err0 (c : String) (h : H) : pcall h (.err c h) = .err c h := by simp [pcall]

@[simp] theorem isTys_one (h : H) (v : V) (t : Ty) : isTys h v [t] = isTy h v t := by
  simp only [isTys]; cases isTy h v t with
  | none => rfl
  | some b => cases b <;> rfl
@[simp] theorem isTys_two (h : H) (v : V) (t u : Ty) (ts : List Ty) : isTys h v (t :: u :: ts) = (match isTy h v t with
    | some true => some true
    | some false => isTys h v (u :: ts)
    | none => Option.none) := rfl
@[simp] theorem isTy_int_int (h : H) (a : Int) : isTy h (.int a) .int = some true := rfl
@[simp] theorem isTy_str_int (h : H) (a : String) : isTy h (.str a) .int = some false := rfl
@[simp] theorem isTy_none_int (h : H)  : isTy h .none .int = some false := rfl
@[simp] theorem isTy_dct_int (h : H)  : isTy h .dct .int = some false := rfl
@[simp] theorem isTy_tup_int (h : H) (a : List V) : isTy h (.tup a) .int = some false := rfl
@[simp] theorem isTy_lst_int (h : H) (a : List V) : isTy h (.lst a) .int = some false := rfl
@[simp] theorem isTy_bool_int (h : H) (a : Bool) : isTy h (.bool a) .int = some true := rfl
@[simp] theorem isTy_int_bool (h : H) (a : Int) : isTy h (.int a) .bool = some false := rfl
@[simp] theorem isTy_str_bool (h : H) (a : String) : isTy h (.str a) .bool = some false := rfl
@[simp] theorem isTy_none_bool (h : H)  : isTy h .none .bool = some false := rfl
@[simp] theorem isTy_dct_bool (h : H)  : isTy h .dct .bool = some false := rfl
@[simp] theorem isTy_tup_bool (h : H) (a : List V) : isTy h (.tup a) .bool = some false := rfl
@[simp] theorem isTy_lst_bool (h : H) (a : List V) : isTy h (.lst a) .bool = some false := rfl
@[simp] theorem isTy_bool_bool (h : H) (a : Bool) : isTy h (.bool a) .bool = some true := rfl
@[simp] theorem isTy_int_list (h : H) (a : Int) : isTy h (.int a) .list = some false := rfl
@[simp] theorem isTy_str_list (h : H) (a : String) : isTy h (.str a) .list = some false := rfl
@[simp] theorem isTy_none_list (h : H)  : isTy h .none .list = some false := rfl
@[simp] theorem isTy_dct_list (h : H)  : isTy h .dct .list = some false := rfl
@[simp] theorem isTy_tup_list (h : H) (a : List V) : isTy h (.tup a) .list = some false := rfl
@[simp] theorem isTy_lst_list (h : H) (a : List V) : isTy h (.lst a) .list = some true := rfl
@[simp] theorem isTy_bool_list (h : H) (a : Bool) : isTy h (.bool a) .list = some false := rfl
theorem isTy_ref_list (h : H) (i : Nat) (vs : List V) (e : h[i]? = some (.list vs)) : isTy h (.ref i) .list = some true := by simp only [isTy, e]; rfl
@[simp] theorem isTy_int_tuple (h : H) (a : Int) : isTy h (.int a) .tuple = some false := rfl
@[simp] theorem isTy_str_tuple (h : H) (a : String) : isTy h (.str a) .tuple = some false := rfl
@[simp] theorem isTy_none_tuple (h : H)  : isTy h .none .tuple = some false := rfl
@[simp] theorem isTy_dct_tuple (h : H)  : isTy h .dct .tuple = some false := rfl
@[simp] theorem isTy_tup_tuple (h : H) (a : List V) : isTy h (.tup a) .tuple = some true := rfl
@[simp] theorem isTy_lst_tuple (h : H) (a : List V) : isTy h (.lst a) .tuple = some false := rfl
@[simp] theorem isTy_bool_tuple (h : H) (a : Bool) : isTy h (.bool a) .tuple = some false := rfl

@[simp] theorem cmp_lt_int (h : H) (a b : Int) : pyCmp .lt h (.int a) (.int b) = some (decide (a < b)) := rfl
@[simp] theorem cmp_gt_int (h : H) (a b : Int) : pyCmp .gt h (.int a) (.int b) = some (decide (b < a)) := rfl
@[simp] theorem cmp_le_int (h : H) (a b : Int) : pyCmp .le h (.int a) (.int b) = some (decide (a ≤ b)) := by
  simp only [pyCmp, pyLt, Option.map_some, Option.some.injEq]
  by_cases e : b < a
  · simp [e]
  · simp [e]; omega
@[simp] theorem cmp_ge_int (h : H) (a b : Int) : pyCmp .ge h (.int a) (.int b) = some (decide (b ≤ a)) := by
  simp only [pyCmp, pyLt, Option.map_some, Option.some.injEq]
  by_cases e : a < b
  · simp [e]
  · simp [e]; omega
theorem pyEq_plain {a b : V} (h : H) (ha : a.plain = true) (hb : b.plain = true) (oa : V.ok 8 a = true) (ob : V.ok 8 b = true) : pyEq h a b = some (peq a b) := by
  simp [pyEq, frz, mapRef_plain _ a ha, mapRef_plain _ b hb, oa, ob]
@[simp] theorem pyEq_int (h : H) (a b : Int) : pyEq h (.int a) (.int b) = some (decide (a = b)) := by
  rw [pyEq_plain h rfl rfl rfl rfl]; simp only [peq_none, peq_bool, peq_int, peq_str, peq_tup, peq_lst, Option.some.injEq]; exact Bool.eq_iff_iff.2 (by simp)
@[simp] theorem cmp_eq (h : H) (a b : V) : pyCmp .eq h a b = pyEq h a b := rfl
@[simp] theorem cmp_ne (h : H) (a b : V) : pyCmp .ne h a b = (pyEq h a b).map (!·) := rfl
@[simp] theorem bin_add_int (h : H) (a b : Int) : pyBin .add h (.int a) (.int b) = some (.int (a + b)) := rfl
@[simp] theorem bin_sub_int (h : H) (a b : Int) : pyBin .sub h (.int a) (.int b) = some (.int (a - b)) := rfl
theorem bin_mul_int (h : H) (a b : Int) (e : b.natAbs < 9223372036854775808) : pyBin .mul h (.int a) (.int b) = some (.int (a * b)) := if_pos (.inr e)
theorem bin_fdiv_int (h : H) (a b : Int) (e : b ≠ 0) : pyBin .fdiv h (.int a) (.int b) = some (.int (a.fdiv b)) := if_neg e
theorem bin_mod_int (h : H) (a b : Int) (e : b ≠ 0) : pyBin .mod h (.int a) (.int b) = some (.int (a.fmod b)) := if_neg e
@[simp] theorem bin_pow (h : H) : pyBin .pow h (.int 10) (.int 20) = some (.int 100000000000000000000) := by simp [pyBin, int2]


@[simp] theorem upto_len (n : Int) : (upto n).length = n.toNat := by simp [upto]
@[simp] theorem upto_at (n : Int) (i : Nat) (hi : i < (upto n).length) : (upto n)[i] = .int i := by simp [upto]

@[simp] theorem cell_get (h : H) (c : Cell) : (h ++ [c])[h.length]? = some c := by simp
@[simp] theorem cell_set (h : H) (c d : Cell) : (h ++ [c]).set h.length d = h ++ [d] := by simp
theorem fmod_nat (a b : Nat) : (a : Int).fmod (b : Int) = ((a % b : Nat) : Int) := by
  rw [Int.fmod_eq_emod_of_nonneg _ (by omega)]; rfl

theorem len_of {h : H} {w : V} {vs : List V} (hl : litems h w = some vs) : Mine.bf .len h w = some (.int vs.length) := by
  cases w <;> simp only [litems, Option.some.injEq, reduceCtorEq] at hl
  · subst hl; rfl
  · rename_i i
    cases hc : h[i]? with
    | none => rw [hc] at hl; cases hl
    | some c =>
      rw [hc] at hl
      cases c with
      | dict es => cases hl
      | list us => cases hl; simp [Mine.bf, hc]
theorem isList_of {h : H} {w : V} {vs : List V} (hl : litems h w = some vs) : isTy h w .list = some true := by
  cases w <;> simp only [litems, Option.some.injEq, reduceCtorEq] at hl
  · rfl
  · rename_i i
    cases hc : h[i]? with
    | none => rw [hc] at hl; cases hl
    | some c =>
      rw [hc] at hl
      cases c with
      | dict es => cases hl
      | list us => exact isTy_ref_list _ _ _ hc
theorem iter_of {h : H} {w : V} {vs : List V} (hl : litems h w = some vs) : ∃ t : Watch, iterOf h w = some (vs, t) ∧ t.ok h = true := by
  cases w <;> simp only [litems, Option.some.injEq, reduceCtorEq] at hl
  · subst hl; exact ⟨Option.none, rfl, rfl⟩
  · rename_i i
    cases hc : h[i]? with
    | none => rw [hc] at hl; cases hl
    | some c =>
      rw [hc] at hl
      cases c with
      | dict es => cases hl
      | list us => cases hl; exact ⟨some (i, .list vs), by simp [iterOf, hc], by simp [Watch.ok, hc]⟩
/-- a value whose kind is known -/
noncomputable def okV (h : H) (v : V) : Prop :=
  match v with
  | .undef => False
  | .exc _ => False
  | .ref i => (h[i]?).isSome = true
  | _ => True
theorem okV.val {h : H} {v : V} (hv : okV h v) : v.val := by
  cases v <;> first | trivial | exact hv.elim
theorem okV_of {h : H} {w : V} {vs : List V} (hl : litems h w = some vs) : okV h w := by
  cases w <;> simp only [litems, Option.some.injEq, reduceCtorEq] at hl
  · trivial
  · rename_i i
    cases hc : h[i]? with
    | none => rw [hc] at hl; cases hl
    | some c => simp [okV, hc]
theorem notList_of {h : H} {w : V} (hv : okV h w) (hl : litems h w = Option.none) : isTy h w .list = some false := by
  cases w <;> first | rfl | exact hv.elim | cases hl | skip
  rename_i i
  simp only [okV, Option.isSome_iff_exists] at hv
  obtain ⟨c, hc⟩ := hv
  cases c with
  | list vs => simp [litems, hc] at hl
  | dict es => simp [isTy, hc]
@[simp] theorem asBools_map {α : Type} (l : List α) (f : α → Bool) : asBools (l.map fun v => .bool (f v)) = some (l.map f) := by
  induction l with
  | nil => rfl
  | cons a l ih => simp [asBools, ih]
@[simp] theorem asInts_map (l : List Int) : asInts (l.map .int) = some l := by
  induction l with
  | nil => rfl
  | cons a l ih => simp [asInts, ih]
@[simp] theorem walks_all : Bf.walks .all = true := rfl
@[simp] theorem ready_all : Bf.ready .all = true := rfl
@[simp] theorem ready_any : Bf.ready .any = true := rfl
@[simp] theorem ready_len : Bf.ready .len = true := rfl
@[simp] theorem walks_len : Bf.walks .len = false := rfl
@[simp] theorem ready_list : Bf.ready .list = true := rfl
@[simp] theorem walks_list : Bf.walks .list = false := rfl
@[simp] theorem ready_tuple : Bf.ready .tuple = true := rfl
@[simp] theorem walks_tuple : Bf.walks .tuple = false := rfl
@[simp] theorem ready_int : Bf.ready .int = true := rfl
@[simp] theorem walks_int : Bf.walks .int = false := rfl
@[simp] theorem ready_str : Bf.ready .str = true := rfl
@[simp] theorem walks_str : Bf.walks .str = false := rfl
@[simp] theorem ready_listRev : Bf.ready .listRev = true := rfl
@[simp] theorem bf_all {h : H} {vs : List V} : Mine.bf .all h (.lst vs) = (asBools vs).map fun bs => .bool (bs.all id) := rfl
@[simp] theorem bf_any {h : H} {vs : List V} : Mine.bf .any h (.lst vs) = (asBools vs).map fun bs => .bool (bs.any id) := rfl
@[simp] theorem bf_int {h : H} {b : Bool} : Mine.bf .int h (.bool b) = some (.int (if b then 1 else 0)) := rfl
theorem litems_ref {h : H} {i : Nat} {vs : List V} (hc : h[i]? = some (.list vs)) : litems h (.ref i) = some vs := by simp [litems, hc]
@[simp] theorem litems_lst (h : H) (vs : List V) : litems h (.lst vs) = some vs := rfl
theorem lcell_ref {h : H} {i : Nat} {vs : List V} (hc : h[i]? = some (.list vs)) : lcell h (.ref i) = true := by simp [lcell, hc]
theorem onList_ref {h : H} {i : Nat} {vs : List V} (hc : h[i]? = some (.list vs)) (f : List V → Option (V × List V)) (v : V) (vs' : List V) (e : f vs = some (v, vs')) (hl : vs'.length ≤ 1000000) :
    onList h (.ref i) f = .ok v (h.set i (.list vs')) := by simp [onList, hc, e, hl]

-- a body, statement by statement
theorem o_asg {q : Bool} {F : Fn} {x : Nat} {e : PE} {ss : List PS} {ρ ρ' : List V} {h h' : H} {v : V} {r : R V} (he : evE q F ρ e h = .ok v h') (hρ : ρ.set x v = ρ') (k : (exSs q F ss ρ' h').out = r) : (exSs q F (.asg x e :: ss) ρ h).out = r := by
  subst hρ; rw [ss_cons', s_asg', he]; exact k
theorem o_ret {q : Bool} {F : Fn} {e : PE} {ss : List PS} {ρ : List V} {h h' : H} {v : V} (he : evE q F ρ e h = .ok v h') : (exSs q F (.ret e :: ss) ρ h).out = .ok v h' := by
  rw [ss_cons', s_ret', he]; rfl
theorem o_expr {q : Bool} {F : Fn} {e : PE} {ss : List PS} {ρ : List V} {h h' : H} {r : R V} (he : evE q F ρ e h = .ok .none h') (k : (exSs q F ss ρ h').out = r) : (exSs q F (.expr e :: ss) ρ h).out = r := by
  rw [ss_cons', s_expr', he]; exact k
theorem o_exprE {q : Bool} {F : Fn} {e : PE} {ss : List PS} {ρ : List V} {h h' : H} {c : String} (he : evE q F ρ e h = .err c h') : (exSs q F (.expr e :: ss) ρ h).out = .err c h' := by
  rw [ss_cons', s_expr', he]; rfl
theorem exSs_app (q : Bool) (F : Fn) (a b : List PS) (ρ : List V) (h : H) : exSs q F (a ++ b) ρ h = (exSs q F a ρ h).then fun ρ h => exSs q F b ρ h := by
  induction a generalizing ρ h with
  | nil => simp
  | cons s a ih =>
    rw [List.cons_append, ss_cons', ss_cons']
    cases exS q F s ρ h with
    | bad => rfl
    | err c ρ h => rfl
    | ok f ρ h => cases f with
      | next => simp only [RS.then_next]; exact ih ρ h
      | ret v => rfl
theorem o_ifT {q : Bool} {F : Fn} {t : PE} {a b ss : List PS} {ρ : List V} {h h' : H} {r : R V} (ht : evE q F ρ t h = .ok (.bool true) h') (k : (exSs q F (a ++ ss) ρ h').out = r) : (exSs q F (.ifs t a b :: ss) ρ h).out = r := by
  rw [ss_cons', s_ifs, ht]; rw [exSs_app] at k; exact k
theorem o_ifF {q : Bool} {F : Fn} {t : PE} {a b ss : List PS} {ρ : List V} {h h' : H} {r : R V} (ht : evE q F ρ t h = .ok (.bool false) h') (k : (exSs q F (b ++ ss) ρ h').out = r) : (exSs q F (.ifs t a b :: ss) ρ h).out = r := by
  rw [ss_cons', s_ifs, ht]; rw [exSs_app] at k; exact k

theorem isTy_int_no {h : H} {v : V} (hv : okV h v) (h1 : ∀ a, v ≠ .int a) (h2 : ∀ b, v ≠ .bool b) : isTy h v .int = some false := by
  cases v <;> first | rfl | exact hv.elim | exact absurd rfl (h1 _) | exact absurd rfl (h2 _) | skip
  rename_i i
  obtain ⟨c, hc⟩ := Option.isSome_iff_exists.mp hv
  simp only [isTy, hc]
  cases c <;> rfl
theorem kind_of (v : V) : (∃ a, v = .int a) ∨ (∃ b, v = .bool b) ∨ ((∀ a, v ≠ .int a) ∧ ∀ b, v ≠ .bool b) := by
  cases v <;> first | exact .inl ⟨_, rfl⟩ | exact .inr (.inl ⟨_, rfl⟩) | exact .inr (.inr ⟨(fun _ q => nomatch q), (fun _ q => nomatch q)⟩)

end Mine

namespace Mine
open PySem PySem.W PyProof.Rows

noncomputable def excChk (K : Frag) : Bool := excNames.all fun c => match nsIn K mainGlobals (Str.ofString c) with
  | some (some (.ref C)) =>
      (findIn K (.ref C) "__getattribute__" == some (some (.builtin "BaseException.__getattribute__")) && findIn K (.ref C) "__getattr__" == some none) && (clsIn K C).isSome && findIn K (.ref C) "__class__" == some (some (.builtin "object.__class__")) &&
      specialIn K (.builtin "object.__class__") "__get__" == some (some (.builtin "getset_descriptor.__get__")) && takesIn K (.builtin "object.__class__") == some true &&
      mroIn K C (.type "object") == some true && kitOne K (.ref C) (.type "ValueError") == some true &&
      (excNames.all fun d => match nsIn K mainGlobals (Str.ofString d) with
        | some (some (.ref D)) => kitOne K (.ref C) (.ref D) == some (c == d || d == "RingError")
        | _ => false) &&
      (match nsIn K mainGlobals (Str.ofString "RingError") with
        | some (some (.ref D)) => exmOne K (.ref C) (.ref D) == some true
        | _ => false)
  | _ => false
noncomputable def specChk (p : Program) : Bool := excNames.all fun c => specOf p (Str.ofString c) == some ("ValueError.__new__", [.type "ValueError", .type "Exception", .type "BaseException", .type "object"])
noncomputable def btChk (K : Frag) : Bool := bTab.all fun q => nsIn K mainGlobals q.1 == some none && bootBuiltins q.1 == some q.2 && q.1 != ("__name__" : Str)
noncomputable def defChk (p : Program) (fns : List String) (nums : List (String × Int)) (tl : List (String × FnDef × List String)) : Bool :=
  tl.all fun t => match (recsOf p).find? (fun r => r.name == Str.ofString t.1) with
    | some r => ckFn fns nums t.2.1 t.2.2 (Calls.docDef r.name r.params r.body r.scope .none .none .none)
    | none => false
noncomputable def fnsChk (p : Program) (fns : List String) : Bool := fns.all fun f => ((recsOf p).find? (fun r => r.name == Str.ofString f)).isSome
noncomputable def numsChk (K : Frag) (nums : List (String × Int)) : Bool := nums.all fun q => match nsIn K mainGlobals (Str.ofString q.1) with
  | some (some (.int i _)) => i == q.2
  | _ => false

section
variable {p prog : Program} {w : World} {loose : List Str} {mean : ExcName → Option Value} {mg mb : Str → Option Value} {h : Heap} {K : Frag}

theorem exc_at (X : K.In h) (G : h.Ns mainGlobals mg) (hx : excChk K = true) {c : String} (hc : c ∈ excNames) : ∃ C, nsIn K mainGlobals (Str.ofString c) = some (some (.ref C)) ∧ mg (Str.ofString c) = some (.ref C) := by
  have := List.all_eq_true.mp hx c hc
  split at this
  · rename_i C e; exact ⟨C, e, mg_of X G e⟩
  · cases this

theorem amb_ok {P : Tab} (T : Top p loose mean mg mb h) (X : K.In h) (himp : importsNone p = true) (htree : prog.given.tree = none) (hx : excChk K = true) (ho : specChk p = true) (hb : btChk K = true) :
    AmbX { prog, w, B := h, mg, mb, P, K } where
  g := T.g
  b := T.b
  nolimit := T.nolimit
  noseer := T.seer himp
  tree := htree
  K := X
  bt := fun q hq => by
    have := List.all_eq_true.mp hb q hq
    simp only [Bool.and_eq_true, beq_iff_eq, bne_iff_ne, ne_eq] at this
    exact ⟨mg_none_of X T.g this.1.1, (T.builtins q.1 this.2).trans this.1.2⟩
  exc := fun c hc => by
    obtain ⟨C, e1, e2⟩ := exc_at X T.g hx hc
    have := List.all_eq_true.mp hx c hc
    rw [e1] at this
    simp only [Bool.and_eq_true, beq_iff_eq] at this
    refine hold fun _ k_ => ?_
    obtain ⟨⟨⟨⟨⟨⟨⟨⟨a1, a2⟩, a3⟩, a4⟩, a5⟩, a6⟩, a7⟩, _⟩, _⟩ := this
    refine k_ ?_
    exact ⟨C, e2, a1, a2, a3, a4, a5, a6, a7⟩
  sub := fun c hc d hd C D e1 e2 => by
    obtain ⟨C', f1, f2⟩ := exc_at X T.g hx hc
    obtain ⟨D', g1, g2⟩ := exc_at X T.g hx hd
    have h1 : C' = C := by have := f2.symm.trans e1; cases this; rfl
    have h2 : D' = D := by have := g2.symm.trans e2; cases this; rfl
    subst h1 h2
    have := List.all_eq_true.mp hx c hc
    rw [f1] at this
    simp only [Bool.and_eq_true, beq_iff_eq] at this
    have := List.all_eq_true.mp this.1.2 d hd
    rw [g1] at this
    simpa only [beq_iff_eq] using this
  exm := fun c hc C D e1 e2 => by
    obtain ⟨C', f1, f2⟩ := exc_at X T.g hx hc
    obtain ⟨D', g1, g2⟩ := exc_at (c := "RingError") X T.g hx (by simp [excNames])
    have h1 : C' = C := by have := f2.symm.trans e1; cases this; rfl
    have h2 : D' = D := by have := g2.symm.trans e2; cases this; rfl
    subst h1 h2
    have := List.all_eq_true.mp hx c hc
    rw [f1] at this
    simp only [Bool.and_eq_true, beq_iff_eq] at this
    have := this.2
    rw [g1] at this
    simpa only [beq_iff_eq] using this
  rs := fun c hc C e1 => by
    have hs := List.all_eq_true.mp ho c hc
    rw [beq_iff_eq] at hs
    obtain ⟨C', O, _⟩ := T.ownAt hs
    have h1 : C' = C := by have := O.bound.symm.trans e1; cases this; rfl
    subst h1
    refine hold fun _ k_ => ?_
    obtain ⟨bm, N, nm, q, bs, hdct, sn, sub, ab, col, dd, k0, k1, k2, k3, k5, mN, hC, hN, hq, TQ⟩ := O.obj
    refine k_ ?_
    exact ⟨nm, q, N, bs, bm, hdct, sn, sub, ab, col, dd, k0, k1, k2, k3, k5, mN, hC, hN, hq, TQ⟩

theorem ckFn_any {fns : List String} {nums : List (String × Int)} {d : FnDef} {nm : List String} {n : Str} {ps : Arguments} {b : List Stmt} {sc : Scope} (pm cd doc : Value) :
    ckFn fns nums d nm (Calls.docDef n ps b sc pm cd doc) = ckFn fns nums d nm (Calls.docDef n ps b sc .none .none .none) := rfl

theorem prog_ok {P : Tab} {fns : List String} {nums : List (String × Int)} {tl : List (String × FnDef × List String)} (T : Top p loose mean mg mb h) (X : K.In h) (hd : defChk p fns nums tl = true) (hf : fnsChk p fns = true) (hn : numsChk K nums = true) :
    ProgOK { prog, w, B := h, mg, mb, P, K } (tabOf tl) (nmOf tl) fns nums where
  fn := fun f d a o fd e1 e2 e3 e4 => by
    unfold tabOf at e1
    unfold nmOf
    cases hl : tl.lookup f with
    | none => rw [hl] at e1; cases e1
    | some t =>
      rw [hl] at e1
      simp only [Option.map_some, Option.some.injEq] at e1
      subst e1
      have hm : (f, t) ∈ tl := by
        clear hd
        induction tl with
        | nil => simp at hl
        | cons u tl ih =>
          obtain ⟨g, u⟩ := u
          rw [List.lookup_cons] at hl
          cases hq : f == g with
          | true => rw [hq] at hl; cases hl; rw [beq_iff_eq.mp hq]; exact List.mem_cons_self
          | false => rw [hq] at hl; exact List.mem_cons_of_mem _ (ih hl)
      have := List.all_eq_true.mp hd _ hm
      split at this
      · rename_i r hr
        have hrm := List.mem_of_find?_eq_some hr
        have hrn : r.name = Str.ofString f := by have := List.find?_some hr; simpa using this
        refine hold fun _ k_ => ?_
        obtain ⟨a', o', pm, code, doc, t1, t2, t3, t4⟩ := T.fn r hrm
        refine k_ ?_
        rw [hrn] at t1
        have h1 : a' = a := by have := t1.symm.trans e2; cases this; rfl
        subst h1
        have h2 : o' = o := by have := t2.symm.trans e3; cases this; rfl
        subst h2
        rw [t3] at e4
        cases e4
        refine ⟨?_, t4⟩
        rw [ckFn_any]
        exact this
      · cases this
  fns := fun f hf' => by
    have := List.all_eq_true.mp hf f hf'
    obtain ⟨r, hr⟩ := Option.isSome_iff_exists.mp this
    have hrm := List.mem_of_find?_eq_some hr
    have hrn : r.name = Str.ofString f := by have := List.find?_some hr; simpa using this
    refine hold fun _ k_ => ?_
    obtain ⟨a', o', pm, code, doc, t1, t2, t3, t4⟩ := T.fn r hrm
    refine k_ ?_
    rw [hrn] at t1
    exact ⟨a', t1, o', _, t2, t3⟩
  nums := fun q hq => by
    have := List.all_eq_true.mp hn q hq
    split at this
    · rename_i i t e
      rw [beq_iff_eq] at this
      subst this
      exact ⟨t, mg_of X T.g e⟩
    · cases this

theorem ints_vr {am : Amb} {π : List Addr} {xs : List Value} {l : List Int} (hi : IntsAre xs l) : VRs am π h (l.map .int) xs := by
  induction hi with
  | nil => simp [VRs]
  | cons n t _ ih => simp only [List.map_cons, VRs, VR]; exact ⟨_, _, rfl, ⟨t, rfl⟩, ih⟩

/-- a law whose run gives True holds -/
theorem law_wp {s₁ : Shared} {tl : List (String × FnDef × List String)} {fns : List String} {nums : List (String × Int)} (T : Top p loose mean mg mb s₁.heap) (X : K.In s₁.heap) (himp : importsNone p = true) (htree : prog.given.tree = none)
    (hx : excChk K = true) (ho : specChk p = true) (hb : btChk K = true) (hd : defChk p fns nums tl = true) (hf : fnsChk p fns = true) (hn : numsChk K nums = true) (hlaw : "law" ∈ fns)
    {fa : Addr} (hmg : mg "law" = some (.ref fa)) {a : Addr} {xs : List Value} {l : List Int} (hl : s₁.heap.IsList a xs.toArray) (hi : IntsAre xs l) (h63 : ¬ (63 : Int) < (l.length : Int)) {n : Nat} (hn9 : n ≤ 400) {H' : H}
    (hrun : run (tabOf tl) n true "law" [V.ints l] [] = .ok (.bool true) H') {Q : Value → Shared → Prop} {E : Value → Shared → Prop}
    (hQ : ∀ s', (∃ h' tk, s' = { s₁ with heap := h', toks := tk }) → (∀ b o, s₁.heap.get? b = some o → s'.heap.get? b = some o) → Q (.bool true) s') :
    wpAny (model prog w) callerA (PySem.call (.ref fa) [.ref a]) Q E s₁ := by
  have ok : AmbX { prog := prog, w := w, B := s₁.heap, mg := mg, mb := mb, P := tabOf tl, K := K } := amb_ok T X himp htree hx ho hb
  have pk : ProgOK { prog := prog, w := w, B := s₁.heap, mg := mg, mb := mb, P := tabOf tl, K := K } (tabOf tl) (nmOf tl) fns nums := prog_ok T X hd hf hn
  obtain ⟨fa', ff⟩ := pk.fns "law" hlaw
  have hfa : fa' = fa := by have := ff.1.symm.trans hmg; cases this; rfl
  subst hfa
  have hr : HR (({ prog := prog, w := w, B := s₁.heap, mg := mg, mb := mb, P := tabOf tl, K := K } : Amb).at []) [] [] [] s₁.heap :=
    ⟨fun _ _ e => e, trivial, rfl, List.nodup_nil, (fun a ha => by cases ha), (fun a ha => by cases ha), (fun i c a h1 => by simp at h1)⟩
  have hlen : xs.length = l.length := by have := (ints_vr (am := { prog := prog, w := w, B := s₁.heap, mg := mg, mb := mb, P := tabOf tl, K := K }) (π := []) (h := s₁.heap) hi).len; simpa using this
  have J := (run_ok ok pk n).call [] true "law" fa' [V.ints l] [.ref a] [] callerA [] [] s₁ ff ⟨rfl, by show 1 + claimMargin + n < 800; unfold claimMargin; omega, by show 4 + 10 * n < 9000; omega⟩ hr rfl (.inl (by
    simp only [VRs, V.ints, VR]
    exact ⟨_, _, rfl, ⟨a, xs, rfl, ⟨by simp, by simp [Amb.at]⟩, hl, by simp; omega, ints_vr hi⟩, rfl⟩))
  rw [hrun] at J
  rcases J with J | J
  · cases J
  · refine wpAny_mono J (fun v s' z => ?_) fun e s' z => ?_
    · refine hold fun _ k_ => ?_
      obtain ⟨b, H2, π', z1, z2, z3, z4⟩ := z
      refine k_ ?_
      cases z1
      simp only [VR] at z4
      subst z4
      exact hQ s' z2.same fun b o e => z2.ext.keep b o e (by simp) (by simp [Fs])
    · obtain ⟨_, _, _, _, _, _, z, _⟩ := z; cases z
end

end Mine

namespace Mine
open PySem PySem.W PyProof.Rows

/-- the classes' places -/
noncomputable def exAddrs (h : Heap) : List Addr := excNames.filterMap fun c => match h.nsMap mainGlobals (Str.ofString c) with
  | some (.ref C) => some C
  | _ => none
noncomputable def fragAt (h : Heap) (as : List Addr) : Frag := as.filterMap fun a => (h.get? a).map fun o => (a, o)
/-- the part of the heap that the walk leans on -/
noncomputable def exFrag (h : Heap) : Frag := fragAt h (mainGlobals :: exAddrs h ++ (exAddrs h).filterMap fun C => match h.get? C with
  | some ⟨_, _, .cls cd, _⟩ => some cd.ns
  | _ => none)
noncomputable def hookB (nums : List (String × Int)) (h : Heap) : Bool := excChk (exFrag h) && btChk (exFrag h) && numsChk (exFrag h) nums
/-- what the walk leans on -/
noncomputable def Leans (nums : List (String × Int)) (h : Heap) : Prop := ∃ K : Frag, K.In h ∧ excChk K = true ∧ btChk K = true ∧ numsChk K nums = true

theorem fragAt_in (h : Heap) : ∀ as : List Addr, (fragAt h as).In h := by
  intro as a o e
  have hm := lookup_mem e
  obtain ⟨b, _, hb⟩ := List.mem_filterMap.mp hm
  cases hq : h.get? b with
  | none => rw [hq] at hb; cases hb
  | some o' => rw [hq] at hb; cases hb; exact hq

/-- the statements with these numbers -/
noncomputable def keepAt (is : List Nat) (p : Program) : Program := { p with main := { p.main with body := (p.main.body.zipIdx.filter fun x => is.contains x.2).map (·.1) } }

theorem law_head {l : OpenLaw} {q : Program} {N : Nat} {nums : List (String × Int)} (said : l.wellSaid = true) (hrs : l.row.wellSaid = true)
    (left : LeftO l.row.prog q [] (fun s => xlAt q [] s && recOk (RowW.records l.row.toRowW) s) (fun s => hookB nums s.heap) (fun _ => true) N)
    (d1 : (defOf q l.row.name).isSome = true) (d2 : l.row.prog.theDef l.row.name = (defOf q l.row.name).map fun x => (x.1.params, x.1.body, x.1.scope))
    (d3 : ((defOf q l.row.name).map fun x => kwWritten? x.1.params.kwonlyargs x.1.params.kw_defaults) = (defOf q l.row.name).map fun x => some x.2)
    (hwr : (!l.row.writes || l.row.records.isEmpty) = true) (ok : (chainsOk q && opensWell l.row.prog && (frees l.row.toRowW && l.row.within.isEmpty)) = true) (hb : l.row.prog.bare) (hw : l.row.toRowW.promised)
    (walk : ∀ d kwd, defOf q l.row.name = some (d, kwd) → WalkO q [] (XL q []) (fun _ h => Leans nums h) l.row.toRowW d kwd fun f vs => PySem.call f vs) : l.Holds := by
  obtain ⟨⟨d, kwd⟩, hdef⟩ := Option.isSome_iff_exists.mp d1
  rw [hdef] at d2 d3
  simp only [Option.map_some, Option.some.injEq] at d2 d3
  refine ⟨said, holds_open (q := q) (loose := []) (Xt := fun s => xlAt q [] s && recOk (RowW.records l.row.toRowW) s) (XP := XL q []) (YP := fun _ h => Leans nums h) left (fun w s e => ?_) (fun w h h' e k => ?_)
    (fun s e => xl_of s (Bool.and_eq_true_iff.mp e).1) XL.keeps hdef d2 d3 (fun s e => recFacts_of (Bool.and_eq_true_iff.mp e).2) hwr hrs ok hb hw (walk d kwd hdef)⟩
  · simp only [hookB, Bool.and_eq_true] at e
    exact ⟨exFrag s.heap, fragAt_in _ _, e.1.1, e.1.2, e.2⟩
  · obtain ⟨K, k1, k2⟩ := e
    exact ⟨K, fun a o z => k a o (k1 a o z), k2⟩
end Mine

namespace Mine

@[simp] theorem pcall_bool (h : H) (b : Bool) : pcall h (.ok (.bool b) h) = .ok (.bool b) h := pcall_ok rfl h
@[simp] theorem pcall_int (h : H) (b : Int) : pcall h (.ok (.int b) h) = .ok (.int b) h := pcall_ok rfl h
@[simp] theorem pcall_none (h : H) : pcall h (.ok .none h) = .ok .none h := pcall_ok rfl h

noncomputable def V.nat (d : Nat) : V := .int d
noncomputable def V.nats (l : List Nat) : List V := l.map V.nat
@[simp] theorem nats_length (l : List Nat) : (V.nats l).length = l.length := by simp [V.nats]
@[simp] theorem nats_nil : V.nats [] = [] := rfl
theorem nats_cons (a : Nat) (l : List Nat) : V.nats (a :: l) = .int a :: V.nats l := rfl
theorem nats_append (a b : List Nat) : V.nats (a ++ b) = V.nats a ++ V.nats b := by simp [V.nats]
theorem nats_take (n : Nat) (l : List Nat) : (V.nats l).take n = V.nats (l.take n) := by simp [V.nats]
theorem nats_drop (n : Nat) (l : List Nat) : (V.nats l).drop n = V.nats (l.drop n) := by simp [V.nats]
theorem nats_get {l : List Nat} {i : Nat} {d : Nat} (e : l[i]? = some d) : (V.nats l)[i]? = some (.int d) := by simp [V.nats, e, V.nat]
theorem nats_plains (l : List Nat) : V.plains (V.nats l) = true := by
  induction l with
  | nil => rfl
  | cons a l ih => rw [nats_cons, V.plains, ih]; rfl
theorem nats_plain (l : List Nat) : V.plain (.lst (V.nats l)) = true := nats_plains l
theorem nats_val {l : List Nat} {v : V} (hv : v ∈ V.nats l) : ∃ d ∈ l, v = .int d := by
  simp only [V.nats, List.mem_map] at hv
  obtain ⟨d, hd, rfl⟩ := hv; exact ⟨d, hd, rfl⟩
theorem peqs_nats (a b : List Nat) : peqs (V.nats a) (V.nats b) = decide (a = b) := by
  induction a generalizing b with
  | nil => cases b <;> rfl
  | cons x a ih => cases b with
    | nil => rfl
    | cons y b =>
      rw [nats_cons, nats_cons, peqs_cons, peq_int, ih]
      by_cases e1 : x = y <;> by_cases e2 : a = b <;> simp [e1, e2]
      omega
theorem ok_nats (l : List Nat) (n : Nat) : (V.nats l).all (V.ok (n + 1)) = true := by
  rw [List.all_eq_true]; intro v hv
  obtain ⟨d, _, rfl⟩ := nats_val hv; rfl
theorem ok_lnats (l : List Nat) (n : Nat) : V.ok (n + 2) (.lst (V.nats l)) = true := ok_nats l n

theorem pyEq_frz {h : H} {a b a' b' : V} (ha : frz 0 h a = some a') (hb : frz 0 h b = some b') (oa : V.ok 8 a' = true) (ob : V.ok 8 b' = true) : pyEq h a b = some (peq a' b') := by
  simp [pyEq, ha, hb, oa, ob]
theorem frz_plain (n : Nat) (h : H) (v : V) (hv : v.plain = true) : frz n h v = some v := mapRef_plain _ v hv

/-- a list of small numbers, by value or in a cell -/
def IsL (h : H) (v : V) (l : List Nat) : Prop := litems h v = some (V.nats l)
theorem IsL.lst (h : H) (l : List Nat) : IsL h (.lst (V.nats l)) l := rfl
theorem IsL.ref {h : H} {i : Nat} {l : List Nat} (e : h[i]? = some (.list (V.nats l))) : IsL h (.ref i) l := litems_ref e
theorem frzAt_nats {h : H} {i n k : Nat} {l : List Nat} (hn : n ≤ i) (e : h[i]? = some (.list (V.nats l))) : frzAt (k + 1) n h i = some (.lst (V.nats l)) := by
  rw [frzAt, if_neg (by omega), e]
  show Option.map _ (V.mapRefs _ (V.nats l)) = _
  rw [mapRefs_plain _ _ (nats_plains l)]; rfl
theorem litems_cases {h : H} {v : V} {vs : List V} (e : litems h v = some vs) : v = .lst vs ∨ ∃ i, v = .ref i ∧ h[i]? = some (.list vs) := by
  cases v <;> simp only [litems, Option.some.injEq, reduceCtorEq] at e
  · exact .inl (by rw [e])
  · rename_i i
    refine .inr ⟨i, rfl, ?_⟩
    cases hc : h[i]? with
    | none => rw [hc] at e; cases e
    | some c =>
      rw [hc] at e
      cases c with
      | dict es => cases e
      | list us => cases e; rfl
theorem IsL.frz {h : H} {v : V} {l : List Nat} (e : IsL h v l) : frz 0 h v = some (.lst (V.nats l)) := by
  rcases litems_cases e with rfl | ⟨i, rfl, hc⟩
  · exact frz_plain 0 h _ (nats_plain l)
  · exact frzAt_nats (Nat.zero_le _) hc
theorem IsL.okV {h : H} {v : V} {l : List Nat} (e : IsL h v l) : okV h v := okV_of e
theorem IsL.val {h : H} {v : V} {l : List Nat} (e : IsL h v l) : v.val := (okV_of e).val
theorem IsL.items {h : H} {v : V} {l : List Nat} (e : IsL h v l) : ∀ vs, litems h v = some vs → ∀ x ∈ vs, Mine.okV h x := by
  intro vs hv x hx
  rw [e] at hv; cases hv
  obtain ⟨d, _, rfl⟩ := nats_val hx; trivial
theorem pyEq_L {h : H} {a b : V} {x y : List Nat} (ha : IsL h a x) (hb : IsL h b y) : pyEq h a b = some (decide (x = y)) := by
  rw [pyEq_frz ha.frz hb.frz (ok_lnats x 6) (ok_lnats y 6), peq_lst, peqs_nats]
theorem IsL.slice {h : H} {v : V} {l : List Nat} (e : IsL h v l) (lo hi : Option V) (a b : Option Int) (ha : lo.mapM asInt? = some a) (hb : hi.mapM asInt? = some b) : pySlice h v lo hi = some (.lst (slc (V.nats l) a b)) := by
  rw [pySlice, ha, hb]
  rcases litems_cases e with rfl | ⟨i, rfl, hc⟩
  · rfl
  · simp only [e, Option.map_some]
    rw [litems_ref hc]; rfl
theorem slice_of {h : H} {v : V} {vs : List V} (e : litems h v = some vs) (lo hi : Option V) (a b : Option Int) (ha : lo.mapM asInt? = some a) (hb : hi.mapM asInt? = some b) : pySlice h v lo hi = some (.lst (slc vs a b)) := by
  rw [pySlice, ha, hb]
  rcases litems_cases e with rfl | ⟨i, rfl, hc⟩
  · rfl
  · simp only
    rw [litems_ref hc]; rfl
theorem slc_to {α : Type} (vs : List α) (j : Nat) : slc vs Option.none (some (j : Int)) = vs.take j := by
  simp only [slc, cut, Int.not_lt.2 (Int.natCast_nonneg j), if_false, Int.toNat_natCast, List.drop_zero]
  rcases Nat.le_total j vs.length with hj | hj
  · rw [Nat.min_eq_left hj]
  · rw [Nat.min_eq_right hj, List.take_length, List.take_of_length_le hj]
theorem slc_from {α : Type} (vs : List α) (i : Nat) : slc vs (some (i : Int)) Option.none = vs.drop i := by
  simp only [slc, cut, Int.not_lt.2 (Int.natCast_nonneg i), if_false, Int.toNat_natCast, List.take_length]
  rcases Nat.le_total i vs.length with hj | hj
  · rw [Nat.min_eq_left hj]
  · rw [Nat.min_eq_right hj, List.drop_length, List.drop_of_length_le hj]
theorem slice_to {h : H} {v : V} {vs : List V} (e : litems h v = some vs) (j : Nat) : pySlice h v Option.none (some (.int j)) = some (.lst (vs.take j)) := by
  rw [slice_of e _ _ Option.none (some (j : Int)) rfl rfl, slc_to]
theorem slice_from {h : H} {v : V} {vs : List V} (e : litems h v = some vs) (i : Nat) : pySlice h v (some (.int i)) Option.none = some (.lst (vs.drop i)) := by
  rw [slice_of e _ _ (some (i : Int)) Option.none rfl rfl, slc_from]

theorem idx_of {h : H} {v : V} {vs : List V} (e : litems h v = some vs) {j : Nat} {x : V} (hj : vs[j]? = some x) : pyIdx h v (.int j) = some x := by
  have hl : j < vs.length := (List.getElem?_eq_some_iff.1 hj).1
  have hp : place vs.length (j : Int) = some j := by simp [place, hl]
  rcases litems_cases e with rfl | ⟨i, rfl, hc⟩
  · show (place vs.length (j : Int)).bind _ = _
    rw [hp]; exact hj
  · rw [pyIdx, hc]
    show (place vs.length (j : Int)).bind _ = _
    rw [hp]; exact hj
theorem IsL.idx {h : H} {v : V} {l : List Nat} (e : IsL h v l) {j d : Nat} (hj : l[j]? = some d) : pyIdx h v (.int j) = some (.int d) := idx_of e (nats_get hj)

theorem addLL (h : H) (vs ws : List V) (hl : vs.length + ws.length ≤ 1000000) : pyBin .add h (.lst vs) (.lst ws) = some (.lst (vs ++ ws)) := by
  simp [pyBin, pyAdd, litems, mkL, hl]
theorem mul_of {h : H} {a : V} {vs : List V} (ha : litems h a = some vs) (n : Nat) (hn : n < 1000000) (hl : n * vs.length ≤ 1000000) : pyBin .mul h a (.int n) = some (.lst (List.replicate n vs).flatten) := by
  have h1 : -1000000 < (n : Int) ∧ (n : Int) < 1000000 := by omega
  have e : (if -1000000 < (n : Int) ∧ (n : Int) < 1000000 then (litems h a).bind fun vs => mkL (rep vs n) else Option.none) = some (.lst (List.replicate n vs).flatten) := by
    rw [if_pos h1, ha, Option.bind_some, rep, Int.toNat_natCast]
    exact mkL_eq (by simpa using hl)
  rcases litems_cases ha with rfl | ⟨i, rfl, _⟩ <;> exact e

theorem fmod_small (x : Int) (m : Nat) (hm : 0 < m) : ∃ j : Nat, j < m ∧ x.fmod m = j := by
  have h1 := Int.fmod_nonneg_of_pos x (show (0 : Int) < m by omega)
  have h2 := Int.fmod_lt_of_pos x (show (0 : Int) < m by omega)
  obtain ⟨j, hj⟩ := Int.eq_ofNat_of_zero_le h1
  exact ⟨j, by omega, hj⟩

/-- a cell of the script -/
noncomputable def cellAt (l : List Int) (k : Nat) : Int := l.getD k 0

-- assignment to several names
@[simp] theorem e_clear (q : Bool) (F : Fn) (ρ : List V) (h : H) (o : PE) : evE q F ρ (.clear o) h = (evE q F ρ o h).bind fun x h => onList h x fun _ => some (.none, []) := rfl

theorem rng_nat (h : H) (n : Nat) (hn : n ≤ 1000000) : rngR (.int n) h = .ok (upto n, Option.none) h := rngR_int h (by omega) (by omega)


/-- a call begins -/
theorem start {P : Tab} {f : String} {d : FnDef} {n : Nat} {q : Bool} {vs ρ : List V} {h : H} {r : R V} (hf : P f = some d) (hl : vs.length = d.arity) (hρ : vs ++ List.replicate (d.slots - d.arity) .undef = ρ)
    (k : (exSs q (run P n) d.body ρ h).out = r) : run P (n + 1) q f vs h = r := by
  rw [run_succ hf, runD_eq _ _ _ _ _ hl, hρ]; exact k
theorem it_nat {q : Bool} {F : Fn} {ρ : List V} {h h' : H} {a : PE} {n : Nat} (e : evE q F ρ a h = .ok (.int n) h') (hn : n ≤ 1000000) : evIt q F ρ (.range1 a) h = .ok (upto n, Option.none) h' := by
  rw [i_range1, e, R.bind_ok, rng_nat _ _ hn]
/-- a comprehension that changes nothing, over things a ∈ l that stand as c a -/
theorem compL_M {α : Type} {elt cond : V → H → R V} (c e : α → V) (b : α → Bool) (h : H) (w : Watch) (hw : w.ok h = true) (l : List α)
    (hc : ∀ a ∈ l, cond (c a) h = .ok (.bool (b a)) h) (he : ∀ a ∈ l, b a = true → elt (c a) h = .ok (e a) h) :
    compL w elt cond (l.map c) h = .ok ((l.filter b).map e) h := by
  induction l with
  | nil => simp [compL, hw]
  | cons a l ih =>
    have ih := ih (fun v hv => hc v (List.mem_cons_of_mem _ hv)) (fun v hv => he v (List.mem_cons_of_mem _ hv))
    rw [List.map_cons, compL, if_pos hw, hc a (List.mem_cons_self ..), R.bind_ok, truthy_bool]
    cases hb : b a with
    | true => dsimp only; rw [he a (List.mem_cons_self ..) hb, R.bind_ok, ih, R.bind_ok, List.filter_cons_of_pos hb, List.map_cons]
    | false => dsimp only; rw [ih, List.filter_cons_of_neg (by rw [hb]; exact Bool.false_ne_true)]
theorem ev_compF {α : Type} {F : Fn} {ρ : List V} {h h' : H} {elt cond : PE} {x : Nat} {it : PIt} {l : List α} {c : α → V} {t : Watch} {r : V} (hi : evIt true F ρ it h = .ok (l.map c, t) h') (ht : t.ok h' = true) (e : α → V) (b : α → Bool)
    (hc : ∀ a ∈ l, evE true F (ρ.set x (c a)) cond h' = .ok (.bool (b a)) h') (he : ∀ a ∈ l, b a = true → evE true F (ρ.set x (c a)) elt h' = .ok (e a) h') (hr : mkL ((l.filter b).map e) = some r) :
    evE true F ρ (.comp elt x it (some cond)) h = .ok r h' := by
  rw [e_comp, if_neg (by decide), hi, R.bind_ok, compL_M c e b h' t ht l hc he, lstR_ok, hr]; rfl
theorem ev_comp {α : Type} {F : Fn} {ρ : List V} {h h' : H} {elt : PE} {x : Nat} {it : PIt} {l : List α} {c : α → V} {t : Watch} {r : V} (hi : evIt true F ρ it h = .ok (l.map c, t) h') (ht : t.ok h' = true) (e : α → V)
    (he : ∀ a ∈ l, evE true F (ρ.set x (c a)) elt h' = .ok (e a) h') (hr : mkL (l.map e) = some r) :
    evE true F ρ (.comp elt x it Option.none) h = .ok r h' := by
  rw [e_comp, if_neg (by decide), hi, R.bind_ok, compL_M c e (fun _ => true) h' t ht l (fun _ _ => rfl) (fun a ha _ => he a ha), lstR_ok, List.filter_eq_self.2 (fun _ _ => rfl), hr]; rfl
theorem it_rng {q : Bool} {F : Fn} {ρ : List V} {h h' : H} {a : PE} {n : Nat} (e : evE q F ρ a h = .ok (.int n) h') (hn : n ≤ 1000000) : evIt q F ρ (.range1 a) h = .ok ((List.range n).map fun i : Nat => V.int i, Option.none) h' := it_nat e hn
theorem forL_M {α : Type} {t : Watch} {x : Nat} {body : List V → H → RS} (l : List α) (c : α → V) (f : List α → V → List V) (g : List α → H) (ht : ∀ p, t.ok (g p) = true)
    (hb : ∀ p a q w, l = p ++ a :: q → body ((f p w).set x (c a)) (g p) = .ok .next (f (p ++ [a]) (c a)) (g (p ++ [a]))) (w : V) :
    ∃ w', forL t (bind1 x) body (l.map c) (f [] w) (g []) = .ok .next (f l w') (g l) := by
  have key : ∀ (q p : List α) (w : V), l = p ++ q → ∃ w', forL t (bind1 x) body (q.map c) (f p w) (g p) = .ok .next (f l w') (g l) := by
    intro q
    induction q with
    | nil => intro p w e; rw [List.append_nil] at e; subst e; exact ⟨w, if_pos (ht _)⟩
    | cons a q ih =>
      intro p w e
      obtain ⟨w', e'⟩ := ih (p ++ [a]) (c a) (by rw [e, List.append_assoc]; rfl)
      refine ⟨w', ?_⟩
      rw [List.map_cons, forL, if_pos (ht _)]
      show (body ((f p w).set x (c a)) (g p)).then _ = _
      rw [hb p a q w e, RS.then_next, e']
  exact key l [] w rfl
/-- a loop that changes nothing, and may be left -/
theorem o_each {α : Type} {F : Fn} {x : Nat} {it : PIt} {body ss : List PS} {ρ : List V} {h h' : H} {l : List α} {c : α → V} {t : Watch} {r : R V} {w₀ : V} (b : α → Bool)
    (hi : evIt true F ρ it h = .ok (l.map c, t) h') (ht : t.ok h' = true) (hx : ρ.set x w₀ = ρ)
    (hb : ∀ a ∈ l, b a = true → exSs true F body (ρ.set x (c a)) h' = .ok .next (ρ.set x (c a)) h')
    (hk : (∀ a ∈ l, b a = true) → ∀ w, (exSs true F ss (ρ.set x w) h').out = r)
    (hl : ∀ p a q, l = p ++ a :: q → (∀ d ∈ p, b d = true) → b a = false → ∀ k, ((exSs true F body (ρ.set x (c a)) h').then k).out = r) :
    (exSs true F (.for1 x it body :: ss) ρ h).out = r := by
  rw [ss_cons', s_for1', if_neg (by decide), hi, R.st_ok]
  have key : ∀ (q p : List α) (w : V), l = p ++ q → (∀ d ∈ p, b d = true) → ((forL t (bind1 x) (fun ρ h => exSs true F body ρ h) (q.map c) (ρ.set x w) h').then fun ρ h => exSs true F ss ρ h).out = r := by
    intro q
    induction q with
    | nil =>
      intro p w e hp
      rw [List.append_nil] at e; subst e
      rw [List.map_nil, forL, if_pos ht]; exact hk hp w
    | cons a q ih =>
      intro p w e hp
      rw [List.map_cons, forL, if_pos ht]
      show (((exSs true F body ((ρ.set x w).set x (c a)) h').then _).then _).out = r
      rw [List.set_set]
      cases hba : b a with
      | true =>
        rw [hb a (by rw [e]; simp) hba, RS.then_next]
        exact ih (p ++ [a]) (c a) (by rw [e, List.append_assoc]; rfl) (fun d hd => by
          rcases List.mem_append.1 hd with h | h
          · exact hp d h
          · rw [List.mem_singleton] at h; rw [h]; exact hba)
      | false =>
        have := hl p a q e hp hba
        cases hq : exSs true F body (ρ.set x (c a)) h' with
        | bad => rw [hq] at this; exact this fun _ _ => .bad
        | err d ρ' h => rw [hq] at this; exact this fun _ _ => .bad
        | ok fl ρ' h => rw [hq] at this; cases fl with
          | next => exact this fun ρ h => (forL t (bind1 x) (fun ρ h => exSs true F body ρ h) (List.map c q) ρ h).then fun ρ h => exSs true F ss ρ h
          | ret v => exact this fun _ _ => .bad
  have := key l [] w₀ rfl (fun _ h => nomatch h)
  rw [hx] at this; exact this

section
variable {q : Bool} {F : Fn} {ρ : List V} {h : H} {a b : PE} {x y : Int}
theorem b_add (ea : evE q F ρ a h = .ok (.int x) h) (eb : evE q F ρ b h = .ok (.int y) h) : evE q F ρ (.bin .add a b) h = .ok (.int (x + y)) h := by rw [qE_7, ea, R.bind_ok, eb]; rfl
theorem b_sub (ea : evE q F ρ a h = .ok (.int x) h) (eb : evE q F ρ b h = .ok (.int y) h) : evE q F ρ (.bin .sub a b) h = .ok (.int (x - y)) h := by rw [qE_7, ea, R.bind_ok, eb]; rfl
theorem b_mul (ea : evE q F ρ a h = .ok (.int x) h) (eb : evE q F ρ b h = .ok (.int y) h) (hy : y.natAbs < 9223372036854775808) : evE q F ρ (.bin .mul a b) h = .ok (.int (x * y)) h := by rw [qE_7, ea, R.bind_ok, eb, R.bind_ok, bin_mul_int h _ _ hy]; rfl
theorem b_fdiv (ea : evE q F ρ a h = .ok (.int x) h) (eb : evE q F ρ b h = .ok (.int y) h) (hy : y ≠ 0) : evE q F ρ (.bin .fdiv a b) h = .ok (.int (x.fdiv y)) h := by rw [qE_7, ea, R.bind_ok, eb, R.bind_ok, bin_fdiv_int h _ _ hy]; rfl
theorem b_mod (ea : evE q F ρ a h = .ok (.int x) h) (eb : evE q F ρ b h = .ok (.int y) h) (hy : y ≠ 0) : evE q F ρ (.bin .mod a b) h = .ok (.int (x.fmod y)) h := by rw [qE_7, ea, R.bind_ok, eb, R.bind_ok, bin_mod_int h _ _ hy]; rfl
theorem v_at {i : Nat} {v : V} (e : ρ[i]? = some v) (hv : v.val) : evE q F ρ (.var i) h = .ok v h := by
  rw [qE_5, e]
  cases v <;> first | rfl | exact hv.elim
theorem c_eqI (ea : evE q F ρ a h = .ok (.int x) h) (eb : evE q F ρ b h = .ok (.int y) h) : evE q F ρ (.cmp .eq a b) h = .ok (.bool (decide (x = y))) h := by
  rw [qE_13, ea, R.bind_ok, eb, R.bind_ok]
  show R.opt (Option.map V.bool (pyEq h (.int x) (.int y))) h = _
  rw [pyEq_plain h rfl rfl rfl rfl, peq_int]; rfl
theorem b_bf {f : Bf} (hr : ((!true && f.walks) || !f.ready) = false) : evE true F ρ (.bf f a) h = (evE true F ρ a h).bind fun x h => R.opt (Mine.bf f h x) h := by rw [qE_24, hr]; exact if_neg Bool.false_ne_true
theorem call_2 {f : String} {v w r : V} (ea : evE q F ρ a h = .ok v h) (eb : evE q F ρ b h = .ok w h) (hc : pcall h (F q f [v, w] h) = .ok r h) : evE q F ρ (.call false f [a, b]) h = .ok r h := by
  rw [qE_27, qEs_2, ea, R.bind_ok, qEs_2, eb, R.bind_ok, qEs_1, R.bind_ok, R.bind_ok, R.bind_ok]; exact hc
theorem call_3 {f : String} {c : PE} {v w x r : V} (ea : evE true F ρ a h = .ok v h) (eb : evE true F ρ b h = .ok w h) (ec : evE true F ρ c h = .ok x h) (hc : pcall h (F true f [v, w, x] h) = .ok r h) : evE true F ρ (.call false f [a, b, c]) h = .ok r h := by
  rw [qE_27, qEs_2, ea, R.bind_ok, qEs_2, eb, R.bind_ok, qEs_2, ec, R.bind_ok, qEs_1, R.bind_ok, R.bind_ok, R.bind_ok, R.bind_ok]; exact hc

end
end Mine

namespace Mine
/- is_among: 0 thing, 1 low, 2 high -/
noncomputable def D_is_among : FnDef := ⟨3, 3, [
  .ret (.and [.isinst (.var 0) [.int], .not (.isinst (.var 0) [.bool]), .cmp2 .le .le (.var 1) (.var 0) (.var 2)])]⟩
structure U_is_among (P : Tab) : Prop where
  self : P "is_among" = some D_is_among

/- how_many: 0 signs, 1 size, 2 found, 3 turn -/
noncomputable def D_how_many : FnDef := ⟨2, 4, [
  .asg 2 (.int 1),
  .for1 3 (.range1 (.var 1)) [
    .asg 2 (.bin .mul (.var 2) (.var 0))],
  .ret (.var 2)]⟩
structure U_how_many (P : Tab) : Prop where
  self : P "how_many" = some D_how_many

/- need_signs: 0 signs -/
noncomputable def D_need_signs : FnDef := ⟨1, 1, [
  .ifs (.not (.call false "is_among" [.var 0, .int 1, .glob "MOST_SIGNS" 9])) [
    .raise "BadSize"] []]⟩
structure U_need_signs (P : Tab) : Prop where
  self : P "need_signs" = some D_need_signs
  is_among : U_is_among P

/- need_size: 0 size -/
noncomputable def D_need_size : FnDef := ⟨1, 1, [
  .ifs (.not (.call false "is_among" [.var 0, .int 1, .glob "MOST_SIZE" 8])) [
    .raise "BadSize"] []]⟩
structure U_need_size (P : Tab) : Prop where
  self : P "need_size" = some D_need_size
  is_among : U_is_among P

/- need_both: 0 signs, 1 size -/
noncomputable def D_need_both : FnDef := ⟨2, 2, [
  .expr (.call false "need_signs" [.var 0]),
  .expr (.call false "need_size" [.var 1]),
  .ifs (.cmp .gt (.call false "how_many" [.var 0, .var 1]) (.glob "MOST_WORDS" 256)) [
    .raise "BadSize"] []]⟩
structure U_need_both (P : Tab) : Prop where
  self : P "need_both" = some D_need_both
  need_signs : U_need_signs P
  need_size : U_need_size P
  how_many : U_how_many P

/- is_word: 0 signs, 1 word, 2 sign -/
noncomputable def D_is_word : FnDef := ⟨2, 3, [
  .ifs (.or [.not (.isinst (.var 1) [.list]), .not (.cmp2 .le .le (.int 1) (.bf .len (.var 1)) (.glob "MOST_SIZE" 8))]) [
    .ret (.bool false)] [],
  .ret (.bf .all (.comp (.call false "is_among" [.var 2, .int 0, .bin .sub (.var 0) (.int 1)]) 2 (.seq (.var 1)) .none))]⟩
structure U_is_word (P : Tab) : Prop where
  self : P "is_word" = some D_is_word
  is_among : U_is_among P

/- need_word: 0 signs, 1 word -/
noncomputable def D_need_word : FnDef := ⟨2, 2, [
  .ifs (.not (.call false "is_word" [.var 0, .var 1])) [
    .raise "BadWord"] []]⟩
structure U_need_word (P : Tab) : Prop where
  self : P "need_word" = some D_need_word
  is_word : U_is_word P

/- need_sized: 0 signs, 1 size, 2 word -/
noncomputable def D_need_sized : FnDef := ⟨3, 3, [
  .expr (.call false "need_word" [.var 0, .var 2]),
  .ifs (.cmp .ne (.bf .len (.var 2)) (.var 1)) [
    .raise "BadWord"] []]⟩
structure U_need_sized (P : Tab) : Prop where
  self : P "need_sized" = some D_need_sized
  need_word : U_need_word P

/- numbered: 0 signs, 1 size, 2 number, 3 found, 4 left, 5 turn -/
noncomputable def D_numbered : FnDef := ⟨3, 6, [
  .asg 3 (.own (.list [])),
  .asg 4 (.var 2),
  .for1 5 (.range1 (.var 1)) [
    .expr (.append (.var 3) (.bin .mod (.var 4) (.var 0))),
    .asg 4 (.bin .fdiv (.var 4) (.var 0))],
  .ret (.bf .listRev (.var 3))]⟩
structure U_numbered (P : Tab) : Prop where
  self : P "numbered" = some D_numbered

/- all_words: 0 signs, 1 size, 2 number -/
noncomputable def D_all_words : FnDef := ⟨2, 3, [
  .expr (.call false "need_both" [.var 0, .var 1]),
  .ret (.comp (.call false "numbered" [.var 0, .var 1, .var 2]) 2 (.range1 (.call false "how_many" [.var 0, .var 1])) .none)]⟩
structure U_all_words (P : Tab) : Prop where
  self : P "all_words" = some D_all_words
  need_both : U_need_both P
  how_many : U_how_many P
  numbered : U_numbered P

/- number_of: 0 signs, 1 size, 2 word, 3 found, 4 sign -/
noncomputable def D_number_of : FnDef := ⟨3, 5, [
  .expr (.call false "need_both" [.var 0, .var 1]),
  .expr (.call false "need_sized" [.var 0, .var 1, .var 2]),
  .asg 3 (.int 0),
  .for1 4 (.seq (.var 2)) [
    .asg 3 (.bin .add (.bin .mul (.var 3) (.var 0)) (.var 4))],
  .ret (.var 3)]⟩
structure U_number_of (P : Tab) : Prop where
  self : P "number_of" = some D_number_of
  need_both : U_need_both P
  need_sized : U_need_sized P

/- word_of: 0 signs, 1 size, 2 number -/
noncomputable def D_word_of : FnDef := ⟨3, 3, [
  .expr (.call false "need_both" [.var 0, .var 1]),
  .ifs (.not (.call false "is_among" [.var 2, .int 0, .bin .sub (.call false "how_many" [.var 0, .var 1]) (.int 1)])) [
    .raise "BadWord"] [],
  .ret (.call false "numbered" [.var 0, .var 1, .var 2])]⟩
structure U_word_of (P : Tab) : Prop where
  self : P "word_of" = some D_word_of
  need_both : U_need_both P
  is_among : U_is_among P
  how_many : U_how_many P
  numbered : U_numbered P

/- stands_in: 0 piece, 1 word, 2 place -/
noncomputable def D_stands_in : FnDef := ⟨2, 3, [
  .for1 2 (.range1 (.bin .add (.bin .sub (.bf .len (.var 1)) (.bf .len (.var 0))) (.int 1))) [
    .ifs (.cmp .eq (.slice (.var 1) (some (.var 2)) (some (.bin .add (.var 2) (.bf .len (.var 0))))) (.var 0)) [
      .ret (.bool true)] []],
  .ret (.bool false)]⟩
structure U_stands_in (P : Tab) : Prop where
  self : P "stands_in" = some D_stands_in

/- free_of: 0 signs, 1 size, 2 pieces, 3 piece, 4 found, 5 word, 6 piece -/
noncomputable def D_free_of : FnDef := ⟨3, 7, [
  .expr (.call false "need_both" [.var 0, .var 1]),
  .ifs (.not (.isinst (.var 2) [.list])) [
    .raise "BadWord"] [],
  .for1 3 (.seq (.var 2)) [
    .expr (.call false "need_word" [.var 0, .var 3])],
  .asg 4 (.own (.list [])),
  .for1 5 (.seq (.call false "all_words" [.var 0, .var 1])) [
    .ifs (.not (.bf .any (.comp (.call false "stands_in" [.var 6, .var 5]) 6 (.seq (.var 2)) .none))) [
      .expr (.append (.var 4) (.var 5))] []],
  .ret (.var 4)]⟩
structure U_free_of (P : Tab) : Prop where
  self : P "free_of" = some D_free_of
  need_both : U_need_both P
  need_word : U_need_word P
  all_words : U_all_words P
  stands_in : U_stands_in P

end Mine

namespace Mine

/-- a thing is an int from lo to hi, and no bool -/
noncomputable def among (v : V) (lo hi : Int) : Bool :=
  match v with
  | .int a => decide (lo ≤ a) && decide (a ≤ hi)
  | _ => false

theorem is_among_eq {P : Tab} (u : U_is_among P) (n : Nat) (q : Bool) (v : V) (lo hi : Int) (h : H) (hv : okV h v) :
    run P (n + 1) q "is_among" [v, .int lo, .int hi] h = .ok (.bool (among v lo hi)) h := by
  refine start u.self rfl (ρ := [v, .int lo, .int hi]) rfl (o_ret ?_)
  rcases kind_of v with ⟨a, rfl⟩ | ⟨b, rfl⟩ | ⟨h1, h2⟩
  · show (match pyCmp .le h (.int lo) (.int a) with | some true => R.opt ((pyCmp .le h (.int a) (.int hi)).map V.bool) h | some false => R.ok (V.bool false) h | Option.none => R.bad) = _
    rw [cmp_le_int, cmp_le_int]
    show _ = R.ok (V.bool (decide (lo ≤ a) && decide (a ≤ hi))) h
    cases decide (lo ≤ a) <;> rfl
  · rfl
  · have e : among v lo hi = false := by
      cases v <;> first | rfl | exact absurd rfl (h1 _)
    rw [qE_10, qA_3, qE_21, v_at rfl hv.val, R.bind_ok, show isTys h v [.int] = some false by unfold isTys; rw [isTy_int_no hv h1 h2]; rfl, e]; rfl


theorem need_size_eq {P : Tab} (u : U_need_size P) (n : Nat) (v : V) (h : H) (hv : okV h v) :
    run P (n + 2) true "need_size" [v] h = if among v 1 8 then .ok .none h else .err "BadSize" h := by
  rw [run_succ u.self, runD_eq _ _ _ _ _ rfl]
  simp only [D_need_size]
  simp [varR_val h hv.val, is_among_eq u.is_among n true v _ _ h hv]
  cases among v 1 8 <;> simp





/-- a list of one to N things -/
noncomputable def lenB (h : H) (w : V) (N : Nat) : Bool :=
  match litems h w with
  | some vs => decide (1 ≤ vs.length) && decide (vs.length ≤ N)
  | none => false
theorem lenB_some {h : H} {w : V} {vs : List V} (hl : litems h w = some vs) (N : Nat) : lenB h w N = (decide (1 ≤ vs.length) && decide (vs.length ≤ N)) := by unfold lenB; rw [hl]
theorem lenB_none {h : H} {w : V} (hl : litems h w = Option.none) (N : Nat) : lenB h w N = false := by unfold lenB; rw [hl]
theorem cond_len {F : Fn} {ρ : List V} {h : H} {g : String} {N : Nat} {w : V} (e1 : ρ[1]? = some w) (hw : okV h w) : evE true F ρ (.or [.not (.isinst (.var 1) [.list]), .not (.cmp2 .le .le (.int 1) (.bf .len (.var 1)) (.glob g N))]) h = .ok (.bool (!lenB h w N)) h := by
  have v1 := v_at (q := true) (F := F) (h := h) e1 hw.val
  rw [qE_11, qR_3, qE_9, qE_21, v1, R.bind_ok]
  cases hl : litems h w with
  | none => rw [show isTys h w [.list] = some false by unfold isTys; rw [notList_of hw hl]; rfl, lenB_none hl]; rfl
  | some vs =>
    have e : evE true F ρ (.cmp2 .le .le (.int 1) (.bf .len (.var 1)) (.glob g N)) h = .ok (.bool (lenB h w N)) h := by
      rw [qE_14, qE_3, R.bind_ok, b_bf (f := .len) rfl, v1, R.bind_ok, len_of hl, R.opt_some, R.bind_ok, cmp_le_int, lenB_some hl, show decide ((1 : Int) ≤ (vs.length : Int)) = decide (1 ≤ vs.length) from decide_eq_decide.2 Int.ofNat_le]
      cases decide (1 ≤ vs.length) with
      | false => rfl
      | true =>
        show R.opt (Option.map V.bool (pyCmp .le h (.int vs.length) (.int N))) h = _
        rw [cmp_le_int, decide_eq_decide.2 Int.ofNat_le]; rfl
    rw [show isTys h w [.list] = some true by unfold isTys; rw [isList_of hl]]
    show evE true F ρ (.not _) h = _
    rw [qE_9, e]; rfl





/-- the word with a number -/
noncomputable def word (s : Nat) : Nat → Nat → List Nat
  | 0, _ => []
  | z + 1, k => word s z (k / s) ++ [k % s]


/-- a list of lists -/
noncomputable def V.lists (ls : List (List Nat)) : List V := ls.map fun l => .lst (V.nats l)
noncomputable def words (s z : Nat) : List (List Nat) := (List.range (s ^ z)).map (word s z)
theorem lists_plains (ls : List (List Nat)) : V.plains (V.lists ls) = true := by
  induction ls with
  | nil => rfl
  | cons a l ih => simp only [V.lists, List.map_cons, V.plains, V.plain, nats_plains, Bool.true_and]; exact ih
theorem lists_plain (ls : List (List Nat)) : V.plain (.lst (V.lists ls)) = true := lists_plains ls



end Mine

namespace Mine
/- _law_cell_at: 0 _law_script, 1 _law_k -/
noncomputable def L_cell_at : FnDef := ⟨2, 2, [
  .ifs (.cmp .lt (.var 1) (.bf .len (.var 0))) [
    .ret (.idx (.var 0) (.var 1))] [],
  .ret (.int 0)]⟩
structure UL_cell_at (P : Tab) : Prop where
  self : P "_law_cell_at" = some L_cell_at

/- _law_classes: 0 _law_e, 1 _law_found -/
noncomputable def L_classes : FnDef := ⟨1, 2, [
  .asg 1 (.bin .add (.bin .add (.bin .mul (.list [.int 0]) (.bf .int (.isexc 0 (.own "BadSize")))) (.bin .mul (.list [.int 1]) (.bf .int (.isexc 0 (.own "BadWord"))))) (.bin .mul (.list [.int 2]) (.bf .int (.isexc 0 (.own "BadBook"))))),
  .asg 1 (.bin .add (.bin .add (.var 1) (.bin .mul (.list [.int 3]) (.bf .int (.isexc 0 (.own "BadRing"))))) (.bin .mul (.list [.int 4]) (.bf .int (.isexc 0 (.own "NoWord"))))),
  .asg 1 (.bin .add (.bin .add (.var 1) (.bin .mul (.list [.int 5]) (.bf .int (.isexc 0 (.own "NoRing"))))) (.bin .mul (.list [.int 6]) (.bf .int (.isexc 0 (.own "NoJoin"))))),
  .ret (.bf .tuple (.bin .mul (.var 1) (.bf .int (.isexc 0 .valueError))))]⟩
structure UL_classes (P : Tab) : Prop where
  self : P "_law_classes" = some L_classes

/- _law_power: 0 _law_signs, 1 _law_size, 2 _law_found, 3 _law_step -/
noncomputable def L_power : FnDef := ⟨2, 4, [
  .asg 2 (.int 1),
  .for1 3 (.range1 (.var 1)) [
    .asg 2 (.bin .mul (.var 2) (.var 0))],
  .ret (.var 2)]⟩
structure UL_power (P : Tab) : Prop where
  self : P "_law_power" = some L_power

/- _law_word: 0 _law_signs, 1 _law_size, 2 _law_number, 3 _law_found, 4 _law_step -/
noncomputable def L_word : FnDef := ⟨3, 5, [
  .asg 3 (.list []),
  .for1 4 (.range1 (.var 1)) [
    .asg 3 (.bin .add (.list [.bin .mod (.var 2) (.var 0)]) (.var 3)),
    .asg 2 (.bin .fdiv (.var 2) (.var 0))],
  .ret (.var 3)]⟩
structure UL_word (P : Tab) : Prop where
  self : P "_law_word" = some L_word

end Mine

namespace Mine

theorem cell_at_eq {P : Tab} (u : UL_cell_at P) (n : Nat) (q : Bool) (l : List Int) (k : Nat) (h : H) :
    run P (n + 1) q "_law_cell_at" [V.ints l, .int k] h = .ok (.int (cellAt l k)) h := by
  refine start u.self rfl (ρ := [V.ints l, .int k]) rfl ?_
  have c : evE q (run P n) [V.ints l, .int k] (.cmp .lt (.var 1) (.bf .len (.var 0))) h = .ok (.bool (decide ((k : Int) < ((l.map V.int).length : Nat)))) h := by cases q <;> rfl
  rw [List.length_map] at c
  by_cases hk : k < l.length
  · refine o_ifT (c.trans (by rw [decide_eq_true (Int.ofNat_lt.2 hk)])) (o_ret ?_)
    show R.opt (pyIdx h (.lst (l.map V.int)) (.int k)) h = _
    rw [idx_of (h := h) (x := .int (cellAt l k)) rfl (j := k) (by rw [List.getElem?_map, List.getElem?_eq_getElem hk, cellAt, List.getD_eq_getElem?_getD, List.getElem?_eq_getElem hk]; rfl)]; rfl
  · refine o_ifF (c.trans (by rw [decide_eq_false fun e => hk (Int.ofNat_lt.1 e)])) (o_ret ?_)
    rw [cellAt, List.getD_eq_getElem?_getD, List.getElem?_eq_none (Nat.le_of_not_lt hk)]; rfl

/-- the number of an exception's class -/
noncomputable def codeOf (c : String) : Int :=
  if c = "BadSize" then 0 else if c = "BadWord" then 1 else if c = "BadBook" then 2 else if c = "BadRing" then 3 else if c = "NoWord" then 4 else if c = "NoRing" then 5 else 6




theorem classes_eq {P : Tab} (u : UL_classes P) (n : Nat) (q : Bool) (c : String) (hc : c ∈ ["BadSize", "BadWord", "BadBook", "BadRing", "NoWord", "NoRing", "NoJoin"]) (h : H) :
    run P (n + 1) q "_law_classes" [.exc c] h = .ok (.tup [.int (codeOf c)]) h := by
  refine start u.self rfl (ρ := [.exc c, .undef]) rfl ?_
  simp only [List.mem_cons, List.not_mem_nil, or_false] at hc
  cases q <;> rcases hc with rfl | rfl | rfl | rfl | rfl | rfl | rfl <;> rfl



end Mine

namespace Mine
theorem IsL.len {h : H} {v : V} {l : List Nat} (e : IsL h v l) : Mine.bf .len h v = some (.int l.length) := by
  rw [len_of e, nats_length]

theorem litems_app {h : H} {v : V} {vs : List V} (e : litems h v = some vs) (k : H) : litems (h ++ k) v = some vs := by
  rcases litems_cases e with rfl | ⟨i, rfl, hc⟩
  · rfl
  · refine litems_ref ?_
    rw [List.getElem?_append_left (List.getElem?_eq_some_iff.1 hc).1]; exact hc
theorem IsL.app {h : H} {v : V} {l : List Nat} (e : IsL h v l) (k : H) : IsL (h ++ k) v l := litems_app e k
theorem frz_items {h : H} {v : V} {vs : List V} (e : litems h v = some vs) (hp : V.plains vs = true) : frz 0 h v = some (.lst vs) := by
  rcases litems_cases e with rfl | ⟨i, rfl, hc⟩
  · exact frz_plain 0 h _ hp
  · show frzAt 4 0 h i = _
    rw [frzAt, if_neg (Nat.not_lt_zero i), hc]
    show Option.map _ (V.mapRefs _ vs) = _
    rw [mapRefs_plain _ _ hp]; rfl
theorem peqs_lists (a b : List (List Nat)) : peqs (V.lists a) (V.lists b) = decide (a = b) := by
  induction a generalizing b with
  | nil => cases b <;> rfl
  | cons x a ih => cases b with
    | nil => rfl
    | cons y b =>
      show (peq (.lst (V.nats x)) (.lst (V.nats y)) && peqs (V.lists a) (V.lists b)) = _
      rw [peq_lst, peqs_nats, ih]
      by_cases e1 : x = y <;> by_cases e2 : a = b <;> simp [e1, e2]
theorem ok_lists (l : List (List Nat)) (n : Nat) : V.ok (n + 3) (.lst (V.lists l)) = true := by
  show (V.lists l).all (V.ok (n + 2)) = true
  rw [List.all_eq_true]; intro v hv
  simp only [V.lists, List.mem_map] at hv
  obtain ⟨x, _, rfl⟩ := hv; exact ok_lnats x n
theorem pyEq_LL {h : H} {a b : V} {x y : List (List Nat)} (ha : frz 0 h a = some (.lst (V.lists x))) (hb : frz 0 h b = some (.lst (V.lists y))) : pyEq h a b = some (decide (x = y)) := by
  rw [pyEq_frz ha hb (ok_lists x 5) (ok_lists y 5), peq_lst, peqs_lists]

/-- a value without cells, whose kind and whose items' kinds are known -/
noncomputable def clean (v : V) : Prop := v.plain = true ∧ v.val ∧ ∀ vs, v = .lst vs → ∀ x ∈ vs, x.val
theorem plain_okV {v : V} (hp : v.plain = true) (hv : v.val) (h : H) : okV h v := by
  cases v <;> first | trivial | exact hv.elim | cases hp
theorem plains_mem {vs : List V} (hp : V.plains vs = true) {v : V} (hv : v ∈ vs) : v.plain = true := by
  induction vs with
  | nil => cases hv
  | cons a l ih =>
    simp only [V.plains, Bool.and_eq_true] at hp
    rcases List.mem_cons.1 hv with rfl | hm
    · exact hp.1
    · exact ih hp.2 hm
theorem clean.okV {v : V} (hc : clean v) (h : H) : okV h v := plain_okV hc.1 hc.2.1 h
theorem clean.items {v : V} (hc : clean v) (h : H) : ∀ vs, litems h v = some vs → ∀ x ∈ vs, Mine.okV h x := by
  intro vs hl x hx
  rcases litems_cases hl with rfl | ⟨i, rfl, _⟩
  · exact plain_okV (plains_mem hc.1 hx) (hc.2.2 _ rfl x hx) h
  · cases hc.1
theorem clean_nats (l : List Nat) : clean (.lst (V.nats l)) := ⟨nats_plain l, trivial, fun vs e x hx => by cases e; obtain ⟨d, _, rfl⟩ := nats_val hx; trivial⟩
theorem plains_of {vs : List V} (h : ∀ v ∈ vs, v.plain = true) : V.plains vs = true := by
  induction vs with
  | nil => rfl
  | cons a l ih => rw [V.plains, h a (List.mem_cons_self ..), ih fun v hv => h v (List.mem_cons_of_mem _ hv)]; rfl
theorem plain_litems {v : V} (hp : v.plain = true) (hn : ∀ us, v ≠ .lst us) (h : H) : litems h v = Option.none := by
  cases v <;> first | rfl | exact absurd rfl (hn _) | cases hp
theorem Watch.app {t : Watch} {h : H} (e : t.ok h = true) (k : H) : t.ok (h ++ k) = true := by
  cases t with
  | none => rfl
  | some p =>
    have : h[p.1]? = some p.2 := of_decide_eq_true e
    show decide ((h ++ k)[p.1]? = some p.2) = true
    rw [List.getElem?_append_left (List.getElem?_eq_some_iff.1 this).1, this]; exact decide_eq_true rfl
/-- a comprehension each of whose items is a cell of its own -/
theorem compL_own {α : Type} {elt cond : V → H → R V} (c : α → V) (k : α → List V) (t : Watch) (l : List α)
    (hc : ∀ v h, cond v h = .ok (.bool true) h) (h : H) (ht : t.ok h = true) (he : ∀ (a : α) (g : H), a ∈ l → elt (c a) (h ++ g) = .ok (.ref (h ++ g).length) (h ++ g ++ [.list (k a)])) :
    compL t elt cond (l.map c) h = .ok ((List.range l.length).map fun i => .ref (h.length + i)) (h ++ l.map fun a => .list (k a)) := by
  have key : ∀ (q : List α) (g : H), (∀ a ∈ q, a ∈ l) → compL t elt cond (q.map c) (h ++ g) = .ok ((List.range q.length).map fun i => .ref ((h ++ g).length + i)) (h ++ g ++ q.map fun a => .list (k a)) := by
    intro q
    induction q with
    | nil => intro g _; rw [List.map_nil, compL, if_pos (Watch.app ht g)]; simp
    | cons a q ih =>
      intro g hq
      rw [List.map_cons, compL, if_pos (Watch.app ht g), hc, R.bind_ok, truthy_bool]
      show (elt (c a) (h ++ g)).bind _ = _
      have ih := ih (g ++ [.list (k a)]) (fun b hb => hq b (List.mem_cons_of_mem _ hb))
      rw [← List.append_assoc] at ih
      rw [he a g (hq a (List.mem_cons_self ..)), R.bind_ok, ih, R.bind_ok]
      congr 1
      · rw [List.length_cons, List.range_succ_eq_map, List.map_cons, List.map_map]
        congr 1
        refine List.map_congr_left fun i _ => ?_
        simp only [Function.comp, List.length_append, List.length_singleton, V.ref.injEq]; omega
      · simp
  have := key l [] (fun _ h => h)
  simpa using this
theorem ev_compOwn {α : Type} {F : Fn} {ρ : List V} {h h' : H} {elt : PE} {x : Nat} {it : PIt} {l : List α} {c : α → V} {t : Watch} (hi : evIt true F ρ it h = .ok (l.map c, t) h') (ht : t.ok h' = true) (k : α → List V)
    (he : ∀ (a : α) (g : H), a ∈ l → evE true F (ρ.set x (c a)) elt (h' ++ g) = .ok (.ref (h' ++ g).length) (h' ++ g ++ [.list (k a)])) (hn : l.length ≤ 1000000) :
    evE true F ρ (.comp elt x it Option.none) h = .ok (.lst ((List.range l.length).map fun i => .ref (h'.length + i))) (h' ++ l.map fun a => .list (k a)) := by
  rw [e_comp, if_neg (by decide), hi, R.bind_ok, compL_own (cond := fun v h => evC true F (ρ.set x v) Option.none h) c k t l (fun _ _ => rfl) h' ht he, lstR_ok, mkL_eq (by simpa using hn)]; rfl
theorem all_nil {α : Type} {P : α → Prop} : ∀ x ∈ ([] : List α), P x := fun _ h => nomatch h
theorem all_cons {α : Type} {P : α → Prop} {a : α} {l : List α} (h : P a) (t : ∀ x ∈ l, P x) : ∀ x ∈ a :: l, P x := fun x hx => (List.mem_cons.1 hx).elim (fun e => e ▸ h) (t x)
theorem idx_lit {h : H} {vs : List V} {i : Int} {m : Nat} (hm : 0 < m) (hl : vs.length = m) : ∃ j : Nat, j < m ∧ i.fmod m = j ∧ ∃ x, vs[j]? = some x ∧ pyIdx h (.lst vs) (.int (i.fmod m)) = some x := by
  obtain ⟨j, hj, e⟩ := fmod_small i m hm
  have hx : vs[j]? = some vs[j] := List.getElem?_eq_getElem (by omega)
  exact ⟨j, hj, e, _, hx, by rw [e]; exact idx_of rfl hx⟩

/-- copies of the pieces, each a cell -/
noncomputable def cells (ps : List (List Nat)) : H := ps.map fun p => .list (V.nats p)
noncomputable def refs (b m : Nat) : List V := (List.range m).map fun i => .ref (b + i)
theorem mapRefs_refs (f : Nat → Option V) (b : Nat) (ps : List (List Nat)) (hf : ∀ i (hi : i < ps.length), f (b + i) = some (.lst (V.nats ps[i]))) : V.mapRefs f (refs b ps.length) = some (V.lists ps) := by
  have key : ∀ (q : List (List Nat)) (b : Nat), (∀ i (hi : i < q.length), f (b + i) = some (.lst (V.nats q[i]))) → V.mapRefs f (refs b q.length) = some (V.lists q) := by
    intro q
    induction q with
    | nil => intro _ _; rfl
    | cons p q ih =>
      intro b hb
      have e : refs b (p :: q).length = .ref b :: refs (b + 1) q.length := by
        rw [refs, refs, List.length_cons, List.range_succ_eq_map, List.map_cons, List.map_map]
        congr 1
        refine List.map_congr_left fun i _ => ?_
        simp only [Function.comp, V.ref.injEq]; omega
      rw [e, V.mapRefs, V.mapRef, show f b = some (.lst (V.nats p)) from hb 0 (by simp), Option.bind_some, ih (b + 1) (fun i hi => by
        have := hb (i + 1) (by simpa using hi)
        rw [show b + (i + 1) = b + 1 + i by omega] at this
        simpa using this)]
      rfl
  exact key ps b hf
end Mine

namespace Mine
namespace L05
/- need_ring: 0 signs, 1 ring, 2 sign -/
noncomputable def D_need_ring : FnDef := ⟨2, 3, [
  .ifs (.or [.not (.isinst (.var 1) [.list]), .not (.cmp2 .le .le (.int 1) (.bf .len (.var 1)) (.glob "MOST_WORDS" 256))]) [
    .raise "BadRing"] [],
  .for1 2 (.seq (.var 1)) [
    .ifs (.not (.call false "is_among" [.var 2, .int 0, .bin .sub (.var 0) (.int 1)])) [
      .raise "BadRing"] []]]⟩
structure U_need_ring (P : Tab) : Prop where
  self : P "need_ring" = some D_need_ring
  is_among : U_is_among P

/- read_at: 0 ring, 1 size, 2 place, 3 turn -/
noncomputable def D_read_at : FnDef := ⟨3, 4, [
  .ret (.comp (.idx (.var 0) (.bin .mod (.bin .add (.var 2) (.var 3)) (.bf .len (.var 0)))) 3 (.range1 (.var 1)) .none)]⟩
structure U_read_at (P : Tab) : Prop where
  self : P "read_at" = some D_read_at

/- meeting: 0 size, 1 one, 2 other, 3 first, 4 place, 5 word -/
noncomputable def D_meeting : FnDef := ⟨3, 6, [
  .asg 3 (.newDict []),
  .for1 4 (.range1 (.bf .len (.var 2))) [
    .expr (.setdef (.var 3) (.bf .tuple (.call false "read_at" [.var 2, .bin .sub (.var 0) (.int 1), .var 4])) (.var 4))],
  .for1 4 (.range1 (.bf .len (.var 1))) [
    .asg 5 (.bf .tuple (.call false "read_at" [.var 1, .bin .sub (.var 0) (.int 1), .var 4])),
    .ifs (.cmp .isin (.var 5) (.var 3)) [
      .ret (.tup [.var 4, .idx (.var 3) (.var 5)])] []],
  .ret .none]⟩
structure U_meeting (P : Tab) : Prop where
  self : P "meeting" = some D_meeting
  read_at : U_read_at P

/- put_in: 0 one, 1 other, 2 places -/
noncomputable def D_put_in : FnDef := ⟨3, 3, [
  .ret (.own (.bin .add (.bin .add (.bin .add (.slice (.var 0) .none (some (.idx (.var 2) (.int 0)))) (.slice (.var 1) (some (.idx (.var 2) (.int 1))) .none)) (.slice (.var 1) .none (some (.idx (.var 2) (.int 1))))) (.slice (.var 0) (some (.idx (.var 2) (.int 0))) .none)))]⟩
structure U_put_in (P : Tab) : Prop where
  self : P "put_in" = some D_put_in

/- first_joined: 0 size, 1 ring, 2 left, 3 at, 4 other, 5 places -/
noncomputable def D_first_joined : FnDef := ⟨3, 6, [
  .for2 3 4 (.enum (.var 2)) [
    .asg 5 (.call false "meeting" [.var 0, .var 1, .var 4]),
    .ifs (.cmp .isNot (.var 5) .none) [
      .ret (.tup [.var 3, .var 5])] []],
  .ret .none]⟩
structure U_first_joined (P : Tab) : Prop where
  self : P "first_joined" = some D_first_joined
  meeting : U_meeting P

/- joined_all: 0 size, 1 rings, 2 ring, 3 found, 4 left, 5 first, 6 ring -/
noncomputable def D_joined_all : FnDef := ⟨2, 7, [
  .expr (.call false "need_size" [.var 0]),
  .ifs (.or [.not (.isinst (.var 1) [.list]), .cmp .eq (.bf .len (.var 1)) (.int 0)]) [
    .raise "BadRing"] [],
  .for1 2 (.seq (.var 1)) [
    .expr (.call false "need_ring" [.glob "MOST_SIGNS" 9, .var 2])],
  .ifs (.cmp .gt (.bf .sum (.comp (.bf .len (.var 6)) 6 (.seq (.var 1)) .none)) (.glob "MOST_WORDS" 256)) [
    .raise "BadRing"] [],
  .asg 3 (.own (.bf .list (.idx (.var 1) (.int 0)))),
  .asg 4 (.own (.bf .list (.slice (.var 1) (some (.int 1)) .none))),
  .while (.cmp .gt (.bf .len (.var 4)) (.int 0)) [
    .asg 5 (.call false "first_joined" [.var 0, .var 3, .var 4]),
    .ifs (.cmp .is (.var 5) .none) [
      .raise "NoJoin"] [],
    .asg 3 (.call true "put_in" [.var 3, .popAt (.var 4) (.idx (.var 5) (.int 0)), .idx (.var 5) (.int 1)])],
  .ret (.var 3)]⟩
structure U_joined_all (P : Tab) : Prop where
  self : P "joined_all" = some D_joined_all
  need_size : U_need_size P
  need_ring : U_need_ring P
  first_joined : U_first_joined P
  put_in : U_put_in P

/- _law_from: 0 _law_ring, 1 _law_place, 2 _law_size, 3 _law_found -/
noncomputable def L_from : FnDef := ⟨3, 4, [
  .asg 3 (.own (.list [])),
  .while (.cmp .lt (.bf .len (.var 3)) (.var 2)) [
    .expr (.append (.var 3) (.idx (.var 0) (.var 1))),
    .asg 1 (.bin .add (.var 1) (.int 1)),
    .ifs (.cmp .eq (.var 1) (.bf .len (.var 0))) [
      .asg 1 (.int 0)] []],
  .ret (.var 3)]⟩
structure UL_from (P : Tab) : Prop where
  self : P "_law_from" = some L_from

/- _law_two: 0 _law_size, 1 _law_one, 2 _law_other, 3 _law_place, 4 _law_joint, 5 _law_at -/
noncomputable def L_two : FnDef := ⟨3, 6, [
  .for1 3 (.range1 (.bf .len (.var 1))) [
    .asg 4 (.call false "_law_from" [.var 1, .var 3, .bin .sub (.var 0) (.int 1)]),
    .for1 5 (.range1 (.bf .len (.var 2))) [
      .ifs (.cmp .eq (.call false "_law_from" [.var 2, .var 5, .bin .sub (.var 0) (.int 1)]) (.var 4)) [
        .ret (.bin .add (.bin .add (.slice (.var 1) .none (some (.var 3))) (.call false "_law_from" [.var 2, .var 5, .bf .len (.var 2)])) (.slice (.var 1) (some (.var 3)) .none))] []]],
  .ret .none]⟩
structure UL_two (P : Tab) : Prop where
  self : P "_law_two" = some L_two
  l_from : UL_from P

/- _law_due: 0 _law_size, 1 _law_rings, 2 _law_found, 3 _law_left, 4 _law_some, 5 _law_k -/
noncomputable def L_due : FnDef := ⟨2, 6, [
  .asg 2 (.idx (.var 1) (.int 0)),
  .asg 3 (.slice (.var 1) (some (.int 1)) .none),
  .while (.cmp .ne (.var 3) (.list [])) [
    .asg 4 (.comp (.var 5) 5 (.range1 (.bf .len (.var 3))) (some (.cmp .isNot (.call false "_law_two" [.var 0, .var 2, .idx (.var 3) (.var 5)]) .none))),
    .ifs (.cmp .eq (.var 4) (.list [])) [
      .ret (.tup [.int 6])] [],
    .asg 2 (.call false "_law_two" [.var 0, .var 2, .idx (.var 3) (.idx (.var 4) (.int 0))]),
    .asg 3 (.bin .add (.slice (.var 3) .none (some (.idx (.var 4) (.int 0)))) (.slice (.var 3) (some (.bin .add (.idx (.var 4) (.int 0)) (.int 1))) .none))],
  .ret (.var 2)]⟩
structure UL_due (P : Tab) : Prop where
  self : P "_law_due" = some L_due
  l_two : UL_two P

/- _law_asked: 0 _law_size, 1 _law_rings, 2 _law_e -/
noncomputable def L_asked : FnDef := ⟨2, 3, [
  .try [
    .ret (.call true "joined_all" [.var 0, .var 1])] "RingError" 2 [
    .ret (.callX "_law_classes" 2)]]⟩
structure UL_asked (P : Tab) : Prop where
  self : P "_law_asked" = some L_asked
  joined_all : U_joined_all P
  l_classes : UL_classes P

/- _law_words: 0 _law_ring, 1 _law_size, 2 _law_place -/
noncomputable def L_words : FnDef := ⟨2, 3, [
  .ret (.comp (.call false "_law_from" [.var 0, .var 2, .var 1]) 2 (.range1 (.bf .len (.var 0))) .none)]⟩
structure UL_words (P : Tab) : Prop where
  self : P "_law_words" = some L_words
  l_from : UL_from P

/- _law_odd: 0 _law_rings, 1 _law_cell, 2 _law_ring, 3 _law_place, 4 _law_spoilt, 5 _law_bad, 6 _law_at -/
noncomputable def L_odd : FnDef := ⟨2, 7, [
  .asg 2 (.idx (.var 0) (.bin .mod (.bin .fdiv (.var 1) (.int 128)) (.bf .len (.var 0)))),
  .asg 3 (.bin .mod (.bin .fdiv (.var 1) (.int 640)) (.bin .add (.bf .len (.var 2)) (.int 1))),
  .asg 4 (.bin .add (.bin .add (.slice (.var 2) .none (some (.var 3))) (.list [.idx (.list [.int 9, .neg 1, .bool true, .none]) (.bin .mod (.bin .fdiv (.var 1) (.int 8)) (.int 4))])) (.slice (.var 2) (some (.var 3)) .none)),
  .asg 5 (.idx (.list [.list [], .var 4, .var 4, .tup [.int 0], .none, .str "0", .var 4, .bin .add (.bin .mul (.list [.int 0]) (.int 250)) (.bin .mul (.idx (.var 0) (.int 0)) (.int 7))]) (.bin .mod (.var 1) (.int 8))),
  .ifs (.cmp .eq (.bin .mod (.bin .fdiv (.var 1) (.int 8)) (.int 4)) (.int 1)) [
    .ret (.idx (.list [.list [], .none, .bf .tuple (.var 0), .str "0"]) (.bin .mod (.bin .fdiv (.var 1) (.int 32)) (.int 4)))] [],
  .asg 6 (.bin .mod (.bin .fdiv (.var 1) (.int 8)) (.bin .add (.bf .len (.var 0)) (.int 1))),
  .ret (.bin .add (.bin .add (.slice (.var 0) .none (some (.var 6))) (.list [.var 5])) (.slice (.var 0) (some (.var 6)) .none))]⟩
structure UL_odd (P : Tab) : Prop where
  self : P "_law_odd" = some L_odd

/- law: 0 _law_script, 1 _law_cell, 2 _law_signs, 3 _law_size, 4 _law_rings, 5 _law_k, 6 _law_more, 7 _law_odd_here, 8 _law_due_here, 9 _law_handed, 10 _law_told, 11 _law_words_here, 12 _law_ring, 13 _law_j, 14 _law_ring, 15 _law_sign -/
noncomputable def L_law : FnDef := ⟨1, 16, [
  .asg 1 (.call false "_law_cell_at" [.var 0, .int 0]),
  .asg 2 (.bin .add (.int 1) (.bin .mod (.var 1) (.int 4))),
  .asg 3 (.bin .add (.int 1) (.bin .mod (.bin .fdiv (.var 1) (.int 4)) (.int 4))),
  .asg 4 (.own (.list [])),
  .for1 5 (.range1 (.bin .add (.int 1) (.bin .mod (.bin .fdiv (.var 1) (.int 16)) (.int 5)))) [
    .asg 6 (.bin .mod (.bin .mul (.call false "_law_cell_at" [.var 0, .bin .add (.int 2) (.var 5)]) (.int 48271)) (.int 2147483647)),
    .expr (.append (.var 4) (.comp (.bin .mod (.bin .fdiv (.var 6) (.idx (.list [.int 1, .int 11, .int 121, .int 1331, .int 14641]) (.var 13))) (.var 2)) 13 (.range1 (.bin .add (.int 1) (.bin .mod (.bin .fdiv (.var 6) (.int 161051)) (.int 5)))) .none))],
  .asg 7 (.bin .fdiv (.call false "_law_cell_at" [.var 0, .int 1]) (.int 8)),
  .ifs (.cmp .eq (.bin .mod (.call false "_law_cell_at" [.var 0, .int 1]) (.int 8)) (.int 1)) [
    .ret (.cmp .eq (.call false "_law_asked" [.var 3, .call false "_law_odd" [.var 4, .var 7]]) (.tup [.int 3]))] [],
  .ifs (.cmp .eq (.bin .mod (.call false "_law_cell_at" [.var 0, .int 1]) (.int 8)) (.int 2)) [
    .asg 3 (.idx (.list [.int 0, .int 9, .bool true, .str "1", .none, .neg 1]) (.bin .mod (.var 7) (.int 6))),
    .ret (.cmp .eq (.call false "_law_asked" [.var 3, .idx (.list [.var 4, .call false "_law_odd" [.var 4, .bin .fdiv (.var 7) (.int 12)]]) (.bin .mod (.bin .fdiv (.var 7) (.int 6)) (.int 2))]) (.tup [.int 0]))] [],
  .asg 8 (.call false "_law_due" [.var 3, .comp (.bf .list (.var 14)) 14 (.seq (.var 4)) .none]),
  .asg 9 (.comp (.own (.bf .list (.var 14))) 14 (.seq (.var 4)) .none),
  .asg 10 (.call true "_law_asked" [.var 3, .var 9]),
  .ifs (.or [.cmp .ne (.var 10) (.var 8), .cmp .ne (.var 9) (.var 4), .cmp .ne (.comp (.var 15) 15 (.seq (.var 10)) (some (.isinst (.var 15) [.bool]))) (.list [])]) [
    .ret (.bool false)] [],
  .ifs (.isinst (.var 8) [.tuple]) [
    .ret (.bool true)] [],
  .asg 11 (.list []),
  .for1 12 (.seq (.var 4)) [
    .asg 11 (.bin .add (.var 11) (.call false "_law_words" [.var 12, .var 3]))],
  .ifs (.cmp .ne (.bf .sorted (.call false "_law_words" [.var 10, .var 3])) (.bf .sorted (.var 11))) [
    .ret (.bool false)] [],
  .expr (.append (.var 10) (.int 0)),
  .ifs (.cmp .ne (.var 9) (.var 4)) [
    .ret (.bool false)] [],
  .for1 12 (.seq (.var 9)) [
    .expr (.append (.var 12) (.int 0))],
  .ret (.and [.cmp .eq (.call false "_law_asked" [.var 3, .comp (.bf .list (.var 14)) 14 (.seq (.var 4)) .none]) (.var 8), .cmp .eq (.var 10) (.bin .add (.var 8) (.list [.int 0]))])]⟩
structure UL_law (P : Tab) : Prop where
  self : P "law" = some L_law
  l_cell_at : UL_cell_at P
  l_asked : UL_asked P
  l_odd : UL_odd P
  l_due : UL_due P
  l_words : UL_words P

noncomputable def tl : List (String × FnDef × List String) := [
  ("is_among", D_is_among, ["thing", "low", "high"]),
  ("need_size", D_need_size, ["size"]),
  ("need_ring", D_need_ring, ["signs", "ring", "sign"]),
  ("read_at", D_read_at, ["ring", "size", "place"]),
  ("meeting", D_meeting, ["size", "one", "other", "first", "place", "word"]),
  ("put_in", D_put_in, ["one", "other", "places"]),
  ("first_joined", D_first_joined, ["size", "ring", "left", "at", "other", "places"]),
  ("joined_all", D_joined_all, ["size", "rings", "ring", "found", "left", "first"]),
  ("_law_cell_at", L_cell_at, ["_law_script", "_law_k"]),
  ("_law_classes", L_classes, ["_law_e", "_law_found"]),
  ("_law_from", L_from, ["_law_ring", "_law_place", "_law_size", "_law_found"]),
  ("_law_two", L_two, ["_law_size", "_law_one", "_law_other", "_law_place", "_law_joint", "_law_at"]),
  ("_law_due", L_due, ["_law_size", "_law_rings", "_law_found", "_law_left", "_law_some"]),
  ("_law_asked", L_asked, ["_law_size", "_law_rings", "_law_e"]),
  ("_law_words", L_words, ["_law_ring", "_law_size"]),
  ("_law_odd", L_odd, ["_law_rings", "_law_cell", "_law_ring", "_law_place", "_law_spoilt", "_law_bad", "_law_at"]),
  ("law", L_law, ["_law_script", "_law_cell", "_law_signs", "_law_size", "_law_rings", "_law_k", "_law_more", "_law_odd_here", "_law_due_here", "_law_handed", "_law_told", "_law_words_here", "_law_ring"])]
noncomputable def fns : List String := ["is_among", "need_size", "need_ring", "read_at", "meeting", "put_in", "first_joined", "joined_all", "_law_cell_at", "_law_classes", "_law_from", "_law_two", "_law_due", "_law_asked", "_law_words", "_law_odd", "law"]
noncomputable def nums : List (String × Int) := [("MOST_SIGNS", 9), ("MOST_SIZE", 8), ("MOST_WORDS", 256)]
theorem u_D_is_among : U_is_among (tabOf tl) := ⟨rfl⟩
theorem u_D_need_size : U_need_size (tabOf tl) := ⟨rfl, u_D_is_among⟩
theorem u_D_need_ring : U_need_ring (tabOf tl) := ⟨rfl, u_D_is_among⟩
theorem u_D_read_at : U_read_at (tabOf tl) := ⟨rfl⟩
theorem u_D_meeting : U_meeting (tabOf tl) := ⟨rfl, u_D_read_at⟩
theorem u_D_put_in : U_put_in (tabOf tl) := ⟨rfl⟩
theorem u_D_first_joined : U_first_joined (tabOf tl) := ⟨rfl, u_D_meeting⟩
theorem u_D_joined_all : U_joined_all (tabOf tl) := ⟨rfl, u_D_need_size, u_D_need_ring, u_D_first_joined, u_D_put_in⟩
theorem u_L_cell_at : UL_cell_at (tabOf tl) := ⟨rfl⟩
theorem u_L_classes : UL_classes (tabOf tl) := ⟨rfl⟩
theorem u_L_from : UL_from (tabOf tl) := ⟨rfl⟩
theorem u_L_two : UL_two (tabOf tl) := ⟨rfl, u_L_from⟩
theorem u_L_due : UL_due (tabOf tl) := ⟨rfl, u_L_two⟩
theorem u_L_asked : UL_asked (tabOf tl) := ⟨rfl, u_D_joined_all, u_L_classes⟩
theorem u_L_words : UL_words (tabOf tl) := ⟨rfl, u_L_from⟩
theorem u_L_odd : UL_odd (tabOf tl) := ⟨rfl⟩
theorem u_L_law : UL_law (tabOf tl) := ⟨rfl, u_L_cell_at, u_L_asked, u_L_odd, u_L_due, u_L_words⟩
end L05
end Mine

namespace Mine
namespace L05
section
variable {P : Tab} {n : Nat} {h : H} {F : Fn}
theorem whileL_go {test : List V → H → R V} {body : List V → H → RS} (f : Nat → List V) (g : Nat → H) (m : Nat)
    (ht : ∀ i, i < m → test (f i) (g i) = .ok (.bool true) (g i)) (hb : ∀ i, i < m → body (f i) (g i) = .ok .next (f (i + 1)) (g (i + 1))) (he : test (f m) (g m) = .ok (.bool false) (g m)) :
    ∀ k i, i + k = m → ∀ n, k < n → whileL test body n (f i) (g i) = .ok .next (f m) (g m) := by
  intro k
  induction k with
  | zero =>
    intro i hi n hn
    rw [Nat.add_zero] at hi; subst hi
    cases n with
    | zero => exact absurd hn (Nat.not_lt_zero _)
    | succ n =>
      show ((test (f i) (g i)).st (f i) _) = _
      rw [he]; rfl
  | succ k ih =>
    intro i hi n hn
    have lt : i < m := by rw [← hi]; exact Nat.lt_add_of_pos_right (Nat.succ_pos k)
    cases n with
    | zero => exact absurd hn (Nat.not_lt_zero _)
    | succ n =>
      show ((test (f i) (g i)).st (f i) _) = _
      rw [ht i lt]
      show (body (f i) (g i)).then _ = _
      rw [hb i lt, RS.then_next]
      exact ih (i + 1) (by rw [Nat.add_assoc, Nat.add_comm 1 k]; exact hi) n (Nat.lt_of_succ_lt_succ hn)
theorem o_while {F : Fn} {t : PE} {body ss : List PS} {ρ : List V} {h : H} {r : R V} (f : Nat → List V) (g : Nat → H) (m : Nat) (hm : m < turns) (hρ : f 0 = ρ) (hh : g 0 = h)
    (ht : ∀ i, i < m → evE true F (f i) t (g i) = .ok (.bool true) (g i)) (hb : ∀ i, i < m → exSs true F body (f i) (g i) = .ok .next (f (i + 1)) (g (i + 1))) (he : evE true F (f m) t (g m) = .ok (.bool false) (g m))
    (k : (exSs true F ss (f m) (g m)).out = r) : (exSs true F (.while t body :: ss) ρ h).out = r := by
  subst hρ hh
  rw [ss_cons', qS_10, if_neg (by decide), whileL_go f g m ht hb he m 0 (Nat.zero_add m) turns hm, RS.then_next]; exact k
noncomputable def rd (l : List Nat) (z p : Nat) : List Nat := (List.range z).map fun t => l.getD ((p + t) % l.length) 0
theorem rd_len (l : List Nat) (z p : Nat) : (rd l z p).length = z := by simp [rd]
theorem get_mod {l : List Nat} (hl : 0 < l.length) (i : Nat) : l[i % l.length]? = some (l.getD (i % l.length) 0) := by
  have := Nat.mod_lt i hl
  simp [List.getElem?_eq_getElem this]
noncomputable def ringy (vs : List V) : Bool := decide (1 ≤ vs.length) && decide (vs.length ≤ 256) && vs.all fun v => among v 0 8
noncomputable def ringB (h : H) (w : V) : Bool :=
  match litems h w with
  | some vs => ringy vs
  | none => false
theorem need_ring_eq {P : Tab} (u : U_need_ring P) (n : Nat) (w : V) (h : H) (hw : okV h w) (hi : ∀ vs, litems h w = some vs → ∀ v ∈ vs, okV h v) :
    run P (n + 2) true "need_ring" [.int 9, w] h = if ringB h w then .ok .none h else .err "BadRing" h := by
  refine start u.self rfl (ρ := [.int 9, w, .undef]) rfl ?_
  have c := cond_len (F := run P (n + 1)) (ρ := [.int 9, w, .undef]) (g := "MOST_WORDS") (N := 256) rfl hw
  unfold ringB
  cases hl : litems h w with
  | none => rw [lenB_none hl] at c; exact o_ifT c rfl
  | some vs =>
    show _ = if (decide (1 ≤ vs.length) && decide (vs.length ≤ 256) && vs.all fun v => among v 0 8) = true then R.ok V.none h else R.err "BadRing" h
    rw [lenB_some hl] at c
    have hi := hi vs hl
    cases hB : (decide (1 ≤ vs.length) && decide (vs.length ≤ 256)) with
    | false => rw [hB] at c; exact o_ifT c rfl
    | true =>
      rw [hB] at c
      refine o_ifF c ?_
      rw [Bool.true_and]
      obtain ⟨t, ht, hto⟩ := iter_of hl
      have hit : evIt true (run P (n + 1)) [.int 9, w, .undef] (.seq (.var 1)) h = .ok (vs.map id, t) h := by
        rw [qI_1, v_at (v := w) rfl hw.val, R.bind_ok, ht, List.map_id]; rfl
      have ea : ∀ a ∈ vs, evE true (run P (n + 1)) [.int 9, w, a] (.not (.call false "is_among" [.var 2, .int 0, .bin .sub (.var 0) (.int 1)])) h = .ok (.bool (!among a 0 8)) h := fun a ha => by
        have ec : evE true (run P (n + 1)) [.int 9, w, a] (.call false "is_among" [.var 2, .int 0, .bin .sub (.var 0) (.int 1)]) h = .ok (.bool (among a 0 8)) h := call_3 (v_at (v := a) rfl (hi a ha).val) rfl (b_sub (x := 9) (y := 1) rfl rfl) (by rw [is_among_eq u.is_among n true a _ _ h (hi a ha), pcall_bool]; rfl)
        rw [qE_9, ec]; rfl
      refine o_each (w₀ := .undef) (fun v => among v 0 8) hit hto rfl ?_ ?_ ?_
      · intro a ha hb
        show exSs true (run P (n + 1)) [.ifs _ _ _] [.int 9, w, a] h = _
        rw [ss_cons', qS_7, ea a ha, hb]; rfl
      · intro hall w'
        rw [if_pos (List.all_eq_true.2 hall)]; rfl
      · intro p a q e hp hb k
        have ha : a ∈ vs := by rw [e]; exact List.mem_append_right _ (List.mem_cons_self ..)
        rw [if_neg fun x => Bool.false_ne_true (hb.symm.trans (List.all_eq_true.1 x a ha))]
        show ((exSs true (run P (n + 1)) [.ifs _ _ _] [.int 9, w, a] h).then k).out = _
        rw [ss_cons', qS_7, ea a ha, hb]; rfl
noncomputable def rws (l : List Nat) (z : Nat) : List (List Nat) := (List.range l.length).map (rd l z)
theorem rws_len (l : List Nat) (z : Nat) : (rws l z).length = l.length := by simp [rws]
theorem len_var {F : Fn} {ρ : List V} {i : Nat} {w : V} {vs : List V} (e : ρ[i]? = some w) (hl : litems h w = some vs) : evE true F ρ (.bf .len (.var i)) h = .ok (.int vs.length) h := by
  simp [e, varR_val h (okV_of hl).val, len_of hl]
theorem pneed (b : Bool) (c : String) (h : H) : pcall h (if b then .ok .none h else .err c h) = if b then .ok .none h else .err c h := by
  cases b
  · have := pcall_err c h []
    rw [List.append_nil] at this; exact this
  · exact pcall_ok rfl h
theorem e_call1 {F : Fn} {ρ : List V} {f : String} {i : Nat} {v : V} (e : ρ[i]? = some v) (hv : v.val) : evE true F ρ (.call false f [.var i]) h = pcall h (F true f [v] h) := by
  simp [e, varR_val h hv]
theorem e_callG {F : Fn} {ρ : List V} {f g : String} {k : Int} {i : Nat} {v : V} (e : ρ[i]? = some v) (hv : v.val) : evE true F ρ (.call false f [.glob g k, .var i]) h = pcall h (F true f [.int k, v] h) := by
  simp [e, varR_val h hv]
def okI (h : H) (w : V) : Prop := okV h w ∧ ∀ vs, litems h w = some vs → ∀ v ∈ vs, okV h v
theorem IsL.okI {w : V} {l : List Nat} (e : IsL h w l) : okI h w := ⟨e.okV, e.items⟩
theorem n_size (u : U_need_size P) {ρ : List V} {i : Nat} {z : V} (e : ρ[i]? = some z) (hz : okV h z) : evE true (run P (n + 2)) ρ (.call false "need_size" [.var i]) h = if among z 1 8 then .ok .none h else .err "BadSize" h := by
  rw [e_call1 e hz.val, need_size_eq u n z h hz, pneed]
theorem n_ring (u : U_need_ring P) {ρ : List V} {i : Nat} {w : V} (e : ρ[i]? = some w) (hw : okI h w) : evE true (run P (n + 2)) ρ (.call false "need_ring" [.glob "MOST_SIGNS" 9, .var i]) h = if ringB h w then .ok .none h else .err "BadRing" h := by
  rw [e_callG e hw.1.val, need_ring_eq u n w h hw.1 hw.2, pneed]
theorem lt_turns {m : Nat} (hm : m ≤ 999999) : m < turns := by
  have : turns = 1000000 := rfl
  omega
theorem next_mod {p N : Nat} (h0 : 0 < N) (i : Nat) : (p + (i + 1)) % N = if (p + i) % N + 1 = N then 0 else (p + i) % N + 1 := by
  rw [← Nat.add_assoc, ← Nat.mod_add_mod]
  by_cases e : (p + i) % N + 1 = N
  · rw [if_pos e, e, Nat.mod_self]
  · rw [if_neg e, Nat.mod_eq_of_lt (Nat.lt_of_le_of_ne (Nat.mod_lt _ h0) e)]
theorem from_run (u : UL_from P) {w : V} {l : List Nat} (hl : IsL h w l) (h0 : 0 < l.length) (hn : l.length ≤ 1000) (p z : Nat) (hp : p < l.length) (hz : z ≤ 1000) :
    run P (n + 1) true "_law_from" [w, .int p, .int z] h = .ok (.ref h.length) (h ++ [.list (V.nats (rd l z p))]) := by
  refine start u.self rfl (ρ := [w, .int p, .int z, .undef]) rfl ?_
  refine o_asg (v := .ref h.length) (h' := h ++ [.list []]) rfl (ρ' := [w, .int p, .int z, .ref h.length]) rfl ?_
  have cond : ∀ i : Nat, evE true (run P n) [w, .int (((p + i) % l.length : Nat) : Int), .int z, .ref h.length] (.cmp .lt (.bf .len (.var 3)) (.var 2)) (h ++ [.list (V.nats (rd l i p))]) = .ok (.bool (decide ((i : Int) < z))) (h ++ [.list (V.nats (rd l i p))]) := fun i => by
    have e1 := len_var (F := run P n) (ρ := [w, .int (((p + i) % l.length : Nat) : Int), .int z, .ref h.length]) (i := 3) rfl (litems_ref (cell_get h (Cell.list (V.nats (rd l i p)))))
    rw [nats_length, rd_len] at e1
    rw [qE_13, e1]; rfl
  refine o_while (fun i => [w, .int (((p + i) % l.length : Nat) : Int), .int z, .ref h.length]) (fun i => h ++ [.list (V.nats (rd l i p))]) z (lt_turns (Nat.le_trans hz (by decide))) (by rw [Nat.add_zero, Nat.mod_eq_of_lt hp]) rfl (fun i hi => ?_) (fun i hi => ?_) ?_ (o_ret rfl)
  · rw [cond i, decide_eq_true (Int.ofNat_lt.2 hi)]
  · have e0 := cell_get h (Cell.list (V.nats (rd l i p)))
    have hl1 := hl.app [Cell.list (V.nats (rd l i p))]
    have e2 := hl1.idx (get_mod h0 (p + i))
    have hl2 := hl.app [Cell.list (V.nats (rd l (i + 1) p))]
    have e3 : V.nats (rd l (i + 1) p) = V.nats (rd l i p) ++ [.int ((l.getD ((p + i) % l.length) 0 : Nat) : Int)] := by
      rw [rd, List.range_succ, List.map_append, nats_append]; rfl
    have hlen : (V.nats (rd l i p)).length = i := by rw [nats_length, rd_len]
    have e4 := next_mod (p := p) h0 i
    rw [e4]
    rw [e3] at hl2 ⊢
    generalize l.getD ((p + i) % l.length) 0 = d at *
    generalize (p + i) % l.length = m at *
    generalize V.nats (rd l i p) = vs at *
    have on := onList_ref e0 (fun us => some (V.none, us ++ [V.int d])) V.none (vs ++ [V.int d]) rfl (by rw [List.length_append, hlen]; exact Nat.le_trans (Nat.succ_le_of_lt hi) (Nat.le_trans hz (by decide)))
    rw [cell_set] at on
    have ea : evE true (run P n) [w, .int m, .int z, .ref h.length] (.append (.var 3) (.idx (.var 0) (.var 1))) (h ++ [.list vs]) = .ok .none (h ++ [.list (vs ++ [.int d])]) := by
      rw [qE_30, v_at (v := .ref h.length) rfl trivial, R.bind_ok, if_pos (lcell_ref e0), qE_18, v_at (v := w) rfl hl1.val, R.bind_ok, v_at (v := .int m) rfl trivial, R.bind_ok, e2]; exact on
    have ec : evE true (run P n) [w, .int (m + 1), .int z, .ref h.length] (.cmp .eq (.var 1) (.bf .len (.var 0))) (h ++ [.list (vs ++ [.int d])]) = .ok (.bool (decide ((m : Int) + 1 = l.length))) (h ++ [.list (vs ++ [.int d])]) :=
      c_eqI rfl (by rw [len_var rfl hl2, nats_length])
    rw [ss_cons', qS_1, ea, R.st_ok]
    show exSs true (run P n) [.asg 1 (.bin .add (.var 1) (.int 1)), .ifs (.cmp .eq (.var 1) (.bf .len (.var 0))) [.asg 1 (.int 0)] []] [w, .int m, .int z, .ref h.length] (h ++ [.list (vs ++ [.int d])]) = _
    rw [ss_cons', qS_2, b_add (x := m) (y := 1) rfl rfl, R.st_ok, RS.then_next]
    show exSs true (run P n) [.ifs (.cmp .eq (.var 1) (.bf .len (.var 0))) [.asg 1 (.int 0)] []] [w, .int (m + 1), .int z, .ref h.length] (h ++ [.list (vs ++ [.int d])]) = _
    rw [ss_cons', qS_7, ec, R.st_ok]
    by_cases hm : m + 1 = l.length
    · rw [if_pos hm, decide_eq_true (p := (m : Int) + 1 = l.length) (Int.natCast_inj.2 hm)]; rfl
    · rw [if_neg hm, decide_eq_false (p := (m : Int) + 1 = l.length) fun e => hm (Int.natCast_inj.1 e)]; rfl
  · rw [cond z, decide_eq_false (Int.lt_irrefl _)]
theorem frz_new (h : H) (l : List Nat) : frz h.length (h ++ [.list (V.nats l)]) (.ref h.length) = some (.lst (V.nats l)) :=
  frzAt_nats (Nat.le_refl _) (by simp)
theorem from_p (u : UL_from P) {w : V} {l : List Nat} (hl : IsL h w l) (h0 : 0 < l.length) (hn : l.length ≤ 1000) (p z : Nat) (hp : p < l.length) (hz : z ≤ 1000) :
    pcall h (run P (n + 1) true "_law_from" [w, .int p, .int z] h) = .ok (.lst (V.nats (rd l z p))) h := by
  rw [from_run u hl h0 hn p z hp hz, pcall_new _ _ (frz_new h _)]
theorem es_cons {F : Fn} {ρ : List V} {e : PE} {es : List PE} {v : V} {vs : List V} (e1 : evE true F ρ e h = .ok v h) (e2 : evEs true F ρ es h = .ok vs h) : evEs true F ρ (e :: es) h = .ok (v :: vs) h := by rw [qEs_2, e1, R.bind_ok, e2]; rfl
theorem rd_turn (l : List Nat) (p : Nat) (hp : p < l.length) : rd l l.length p = l.drop p ++ l.take p := by
  refine List.ext_getElem? fun i => ?_
  by_cases hi : i < l.length
  · have e1 : (rd l l.length p)[i]? = some (l.getD ((p + i) % l.length) 0) := by
      unfold rd; rw [List.getElem?_map, List.getElem?_range hi]; rfl
    rw [e1, ← get_mod (Nat.zero_lt_of_lt hp)]
    by_cases h1 : p + i < l.length
    · rw [Nat.mod_eq_of_lt h1, List.getElem?_append_left (by rw [List.length_drop]; exact Nat.lt_sub_iff_add_lt'.2 h1), List.getElem?_drop]
    · have h2 := Nat.le_of_not_lt h1
      rw [List.getElem?_append_right (by rw [List.length_drop]; exact Nat.sub_le_iff_le_add'.2 h2), List.length_drop, Nat.sub_sub_right i (Nat.le_of_lt hp), Nat.add_comm i p, Nat.mod_eq_sub_mod h2, Nat.mod_eq_of_lt (Nat.sub_lt_left_of_lt_add h2 (Nat.add_lt_add hp hi)), List.getElem?_take_of_lt (Nat.sub_lt_left_of_lt_add h2 (by rw [Nat.add_comm p i]; exact Nat.add_lt_add_right hi p))]
  · have h2 := Nat.le_of_not_lt hi
    rw [List.getElem?_eq_none (by rw [rd_len]; exact h2), List.getElem?_eq_none (by rw [List.length_append, List.length_drop, List.length_take, Nat.min_eq_left (Nat.le_of_lt hp), Nat.sub_add_cancel (Nat.le_of_lt hp)]; exact h2)]
theorem cell_p (u : UL_cell_at P) (s : List Int) (k : Nat) : pcall h (run P (n + 1) true "_law_cell_at" [V.ints s, .int k] h) = .ok (.int (cellAt s k)) h := by
  rw [cell_at_eq u n true s k h, pcall_ok rfl]
theorem mod_nat (x : Int) (m : Nat) (hm : 0 < m) : x.fmod m = ((x.fmod m).toNat : Int) ∧ (x.fmod m).toNat < m := by
  obtain ⟨j, hj, e⟩ := fmod_small x m hm
  rw [e]; exact ⟨by simp, by simpa using hj⟩
noncomputable def zi (l : List Nat) : List Int := l.map fun d : Nat => (d : Int)
theorem zi_inj {a b : List Nat} (e : zi a = zi b) : a = b := by
  unfold zi at e
  exact List.map_inj_right (fun x y h => Int.natCast_inj.1 h) |>.1 e
theorem asInts_nats (l : List Nat) : asInts (V.nats l) = some (zi l) := by
  induction l with
  | nil => rfl
  | cons d l ih => rw [nats_cons, asInts, ih]; rfl
theorem keyed_map {α β : Type} {f : V → Option α} (c : β → V) (k : β → α) : ∀ (l : List β), (∀ b ∈ l, f (c b) = some (k b)) → keyed f (l.map c) = some (l.map fun b => (k b, c b))
  | [], _ => rfl
  | b :: l, e => by
    rw [List.map_cons, keyed, e b (List.mem_cons_self ..), keyed_map c k l fun x hx => e x (List.mem_cons_of_mem _ hx)]; rfl
theorem forL_I {α : Type} {x : Nat} {body : List V → H → RS} (l : List α) (c : α → V) (Inv : List α → List V → H → Prop)
    (hb : ∀ p a q ρ g, l = p ++ a :: q → Inv p ρ g → ∃ ρ' g', body (ρ.set x (c a)) g = .ok .next ρ' g' ∧ Inv (p ++ [a]) ρ' g') {ρ : List V} (h0 : Inv [] ρ h) :
    ∃ ρ' g', forL Option.none (bind1 x) body (l.map c) ρ h = .ok .next ρ' g' ∧ Inv l ρ' g' := by
  have key : ∀ (q p : List α) (ρ : List V) (g : H), l = p ++ q → Inv p ρ g → ∃ ρ' g', forL Option.none (bind1 x) body (q.map c) ρ g = .ok .next ρ' g' ∧ Inv l ρ' g' := by
    intro q
    induction q with
    | nil => intro p ρ g e hi; rw [List.append_nil] at e; subst e; exact ⟨ρ, g, rfl, hi⟩
    | cons a q ih =>
      intro p ρ g e hi
      obtain ⟨ρ1, g1, e1, i1⟩ := hb p a q ρ g e hi
      obtain ⟨ρ2, g2, e2, i2⟩ := ih (p ++ [a]) ρ1 g1 (by rw [e, List.append_assoc]; rfl) i1
      refine ⟨ρ2, g2, ?_, i2⟩
      rw [List.map_cons, forL, if_pos (Watch.ok_none g)]
      show (body (ρ.set x (c a)) g).then _ = _
      rw [e1, RS.then_next, e2]
  exact key l [] ρ h rfl h0
theorem s_forI {α : Type} {x : Nat} {it : PIt} {body : List PS} {ρ : List V} {h' : H} {l : List α} {c : α → V} (Inv : List α → List V → H → Prop)
    (hi : evIt true F ρ it h = .ok (l.map c, Option.none) h') (h0 : Inv [] ρ h')
    (hb : ∀ p a q ρ g, l = p ++ a :: q → Inv p ρ g → ∃ ρ' g', exSs true F body (ρ.set x (c a)) g = .ok .next ρ' g' ∧ Inv (p ++ [a]) ρ' g') :
    ∃ ρ' g', exSs true F [.for1 x it body] ρ h = .ok .next ρ' g' ∧ Inv l ρ' g' := by
  rw [ss_cons', s_for1', if_neg (by decide), hi, R.st_ok]
  obtain ⟨ρ', g', e, i⟩ := forL_I (x := x) (body := fun ρ h => exSs true F body ρ h) l c Inv hb h0
  exact ⟨ρ', g', by rw [e]; rfl, i⟩
theorem pick {F : Fn} {ρ : List V} {es : List PE} {i : PE} {vs : List V} {c : Int} {m : Nat} (Pr : V → Prop) (hm : 0 < m) (hl : vs.length = m) (he : evEs true F ρ es h = .ok vs h) (hi : evE true F ρ i h = .ok (.int (c.fmod m)) h) (hp : ∀ x ∈ vs, Pr x) (hn : vs.length ≤ 1000000) :
    ∃ v, evE true F ρ (.idx (.list es) i) h = .ok v h ∧ Pr v := by
  obtain ⟨j, hj, ej, x, hx, ex⟩ := idx_lit (h := h) (i := c) (m := m) hm hl
  refine ⟨x, ?_, hp x (List.mem_of_getElem? hx)⟩
  rw [qE_18, qE_15, he, R.bind_ok, mkL_eq hn, R.opt_some, R.bind_ok, hi, R.bind_ok, ex]; rfl
theorem clean_flat {v : V} (hp : v.plain = true) (hv : v.val) (hn : ∀ us, v ≠ .lst us) : clean v := ⟨hp, hv, fun us e => absurd e (hn us)⟩
theorem ringB_L {h : H} {w : V} {l : List Nat} (hl : IsL h w l) (h0 : 0 < l.length) (hn : l.length ≤ 256) (h9 : ∀ d ∈ l, d < 9) : ringB h w = true := by
  unfold ringB
  rw [show litems h w = some (V.nats l) from hl]
  show ringy (V.nats l) = true
  unfold ringy
  rw [nats_length, decide_eq_true (show 1 ≤ l.length from h0), decide_eq_true hn, Bool.true_and, Bool.true_and]
  refine List.all_eq_true.2 fun v hv => ?_
  obtain ⟨d, hd, rfl⟩ := nats_val hv
  have := h9 d hd
  simp only [among, Bool.and_eq_true, decide_eq_true_eq]; omega
theorem among_in {a lo hi : Int} (h1 : lo ≤ a) (h2 : a ≤ hi) : among (.int a) lo hi = true := by
  simp only [among, h1, h2, decide_true, Bool.and_self]
theorem am_size {k : Nat} (h1 : 1 ≤ k) (h8 : k ≤ 8) : among (.int k) 1 8 = true := among_in (Int.ofNat_le.2 h1) (Int.ofNat_le.2 h8)
theorem e_ne {F : Fn} {ρ : List V} {a b : PE} {h : H} {v w : V} {t : Bool} (ea : evE true F ρ a h = .ok v h) (eb : evE true F ρ b h = .ok w h) (e : pyEq h v w = some t) : evE true F ρ (.cmp .ne a b) h = .ok (.bool (!t)) h := by
  rw [qE_13, ea, R.bind_ok, eb, R.bind_ok]
  show R.opt (Option.map V.bool (Option.map (!·) (pyEq h v w))) h = _
  rw [e]; rfl
theorem e_eq {F : Fn} {ρ : List V} {a b : PE} {h : H} {v w : V} {t : Bool} (ea : evE true F ρ a h = .ok v h) (eb : evE true F ρ b h = .ok w h) (e : pyEq h v w = some t) : evE true F ρ (.cmp .eq a b) h = .ok (.bool t) h := by
  rw [qE_13, ea, R.bind_ok, eb, R.bind_ok]
  show R.opt (Option.map V.bool (pyEq h v w)) h = _
  rw [e]; rfl
theorem e_idx {F : Fn} {ρ : List V} {a : PE} {h : H} {v x : V} {vs : List V} {j : Nat} (ea : evE true F ρ a h = .ok v h) (hl : litems h v = some vs) (hj : vs[j]? = some x) : evE true F ρ (.idx a (.int j)) h = .ok x h := by
  rw [qE_18, ea, R.bind_ok, qE_3, R.bind_ok, idx_of hl hj]; rfl
theorem nats0 (m : List Nat) : V.nats m ++ [.int 0] = V.nats (m ++ [0]) := by rw [nats_append]; rfl
theorem or3 {a b c : PE} (ea : evE true F ρ a h = .ok (.bool false) h) (eb : evE true F ρ b h = .ok (.bool false) h) (ec : evE true F ρ c h = .ok (.bool false) h) : evE true F ρ (.or [a, b, c]) h = .ok (.bool false) h := by
  rw [qE_11, qR_3, ea, R.bind_ok]
  show evOr true F ρ [b, c] h = _
  rw [qR_3, eb, R.bind_ok]
  exact ec
theorem lst_ev {x : Nat} {v : V} {vs : List V} (e : ρ[x]? = some v) (hl : litems h v = some vs) : evE true F ρ (.bf .list (.var x)) h = .ok (.lst vs) h := by
  rw [b_bf (f := .list) rfl, v_at e (okV_of hl).val, R.bind_ok]
  rcases litems_cases hl with rfl | ⟨i, rfl, hc⟩
  · rfl
  · show R.opt (Option.map _ (match h[i]? with | some (.list vs) => some vs | _ => Option.none)) h = _
    rw [hc]; rfl
theorem own_ev {F : Fn} {ρ : List V} {h : H} {e : PE} {vs : List V} (ee : evE true F ρ e h = .ok (.lst vs) h) : evE true F ρ (.own e) h = .ok (.ref h.length) (h ++ [.list vs]) := by
  rw [qE_28, ee]; rfl
end
end L05
end Mine

namespace Mine
namespace L05
section
variable {P : Tab} {n : Nat} {h : H}

/-- a loop that may be left by a return, and changes nothing else that matters -/
theorem forL_R {α : Type} {t : Watch} {bi : List V → V → Option (List V)} {body : List V → H → RS} (c : α → V) (r : α → Option V) (Inv : List V → Prop) (ht : t.ok h = true) : ∀ (l : List α),
    (∀ a ∈ l, ∀ ρ, Inv ρ → ∃ ρ1, bi ρ (c a) = some ρ1 ∧ ((r a = none ∧ ∃ ρ', body ρ1 h = .ok .next ρ' h ∧ Inv ρ') ∨ ∃ v ρ', r a = some v ∧ body ρ1 h = .ok (.ret v) ρ' h)) →
    ∀ ρ, Inv ρ → (l.findSome? r = none ∧ ∃ ρ', forL t bi body (l.map c) ρ h = .ok .next ρ' h ∧ Inv ρ') ∨ ∃ v ρ', l.findSome? r = some v ∧ forL t bi body (l.map c) ρ h = .ok (.ret v) ρ' h
  | [], _, ρ, hi => .inl ⟨rfl, ρ, by rw [List.map_nil, forL, if_pos ht], hi⟩
  | a :: l, hb, ρ, hi => by
    obtain ⟨ρ1, e1, e2⟩ := hb a (List.mem_cons_self ..) ρ hi
    have step : forL t bi body ((a :: l).map c) ρ h = (body ρ1 h).then fun ρ h => forL t bi body (l.map c) ρ h := by
      rw [List.map_cons, forL, if_pos ht, e1]
    rw [step, List.findSome?_cons]
    rcases e2 with ⟨e2, ρ', e3, e4⟩ | ⟨v, ρ', e2, e3⟩
    · rw [e2, e3]
      exact forL_R c r Inv ht l (fun a ha => hb a (List.mem_cons_of_mem _ ha)) ρ' e4
    · rw [e2, e3]; exact .inr ⟨v, ρ', rfl, rfl⟩

theorem read_at_eq (u : U_read_at P) {w : V} {l : List Nat} (hl : IsL h w l) (h0 : 0 < l.length) (z p : Nat) (hz : z ≤ 1000) :
    pcall h (run P (n + 1) true "read_at" [w, .int z, .int p] h) = .ok (.lst (V.nats (rd l z p))) h := by
  have : run P (n + 1) true "read_at" [w, .int z, .int p] h = .ok (.lst (V.nats (rd l z p))) h := by
    refine start u.self rfl (ρ := [w, .int z, .int p, .undef]) rfl (o_ret ?_)
    refine ev_comp (c := fun i : Nat => V.int i) (it_rng (n := z) rfl (Nat.le_trans hz (by decide))) rfl (fun t => .int (l.getD ((p + t) % l.length) 0)) (fun t _ => ?_) (by rw [mkL_eq (by rw [List.length_map, List.length_range]; exact Nat.le_trans hz (by decide)), rd, V.nats, List.map_map]; rfl)
    have m : evE true (run P n) [w, .int z, .int p, .int t] (.bin .mod (.bin .add (.var 2) (.var 3)) (.bf .len (.var 0))) h = .ok (.int (((p + t) % l.length : Nat) : Int)) h :=
      (b_mod (b_add (x := p) (y := t) rfl rfl) (by rw [len_var rfl hl, nats_length]) (Int.natCast_ne_zero.2 (Nat.ne_of_gt h0))).trans (by rw [← Int.natCast_add, fmod_nat])
    show evE true (run P n) [w, .int z, .int p, .int t] _ h = _
    rw [qE_18, v_at (v := w) rfl hl.val, R.bind_ok, m, R.bind_ok, hl.idx (get_mod h0 (p + t))]; rfl
  rw [this]; exact pcall_ok (nats_plain _) h

/-- a word's place on a ring -/
noncomputable def fnd (l2 : List Nat) (z : Nat) (w : List Nat) : Option Nat := (List.range l2.length).find? fun a => decide (rd l2 z a = w)
/-- where two rings meet -/
noncomputable def mt (l1 l2 : List Nat) (z : Nat) : Option (Nat × Nat) := (List.range l1.length).findSome? fun p => (fnd l2 z (rd l1 z p)).map fun a => (p, a)
theorem nats_inj : ∀ {a b : List Nat}, V.nats a = V.nats b → a = b
  | [], [], _ => rfl
  | [], _ :: _, e => nomatch e
  | _ :: _, [], e => nomatch e
  | x :: a, y :: b, e => by
    rw [nats_cons, nats_cons] at e
    injection e with e1 e2
    injection e1 with e1
    rw [nats_inj e2, Int.natCast_inj.1 e1]
theorem dfind_app (k k0 v0 : V) : ∀ es : List (V × V), dfind k (es ++ [(k0, v0)]) = (dfind k es).or (if k = k0 then some v0 else Option.none)
  | [] => by
    show (if k = k0 then some v0 else dfind k []) = _
    rfl
  | (k', v) :: es => by
    rw [List.cons_append, dfind, dfind]
    by_cases e : k = k'
    · rw [if_pos e, if_pos e]; rfl
    · rw [if_neg e, if_neg e]; exact dfind_app k k0 v0 es
/-- the dict of first places -/
structure DI (l : List Nat) (z : Nat) (q : List Nat) (es : List (V × V)) : Prop where
  get : ∀ w : List Nat, dfind (.tup (V.nats w)) es = (q.find? fun a => decide (rd l z a = w)).map fun a : Nat => V.int (a : Int)
  len : es.length ≤ q.length
theorem key_ok (w : List Nat) : keyOk (.tup (V.nats w)) = true := by
  unfold keyOk
  rw [show keyT (.tup (V.nats w)) = asInts (V.nats w) from rfl, asInts_nats]; rfl
theorem DI.step {l : List Nat} {z : Nat} {q : List Nat} {es : List (V × V)} (d : DI l z q es) (a : Nat) (hq : q.length ≤ 1000) :
    ∃ es' v, setDef (h ++ [.dict es]) (.ref h.length) (.tup (V.nats (rd l z a))) (.int a) = .ok (.int v) (h ++ [.dict es']) ∧ DI l z (q ++ [a]) es' := by
  have sd : setDef (h ++ [.dict es]) (.ref h.length) (.tup (V.nats (rd l z a))) (.int a) = match dfind (.tup (V.nats (rd l z a))) es with
      | some v => .ok v (h ++ [.dict es])
      | Option.none => if es.length ≤ 1000 then R.ok (V.int a) (List.set (h ++ [Cell.dict es]) h.length (Cell.dict (es ++ [(V.tup (V.nats (rd l z a)), V.int a)]))) else R.bad := by
    unfold setDef onDict
    show (match (h ++ [Cell.dict es])[h.length]? with | some (.dict es) => _ | _ => _) = _
    rw [cell_get]
    show (if keyOk _ = true then _ else _) = _
    rw [key_ok]; rfl
  rw [sd, d.get]
  cases hf : q.find? fun b => decide (rd l z b = rd l z a) with
  | some b =>
    refine ⟨es, b, rfl, fun w => ?_, Nat.le_trans d.len (by rw [List.length_append]; exact Nat.le_add_right _ _)⟩
    rw [d.get, List.find?_append]
    by_cases e : rd l z a = w
    · rw [← e, hf]; rfl
    · rw [List.find?_singleton, if_neg (by simpa using e), Option.or_none]
  | none =>
    refine ⟨es ++ [(.tup (V.nats (rd l z a)), .int a)], a, ?_, fun w => ?_, by rw [List.length_append, List.length_append]; exact Nat.succ_le_succ d.len⟩
    · show (if es.length ≤ 1000 then _ else _) = _
      rw [if_pos (Nat.le_trans d.len hq), cell_set]
    · rw [dfind_app, d.get, List.find?_append, List.find?_singleton]
      by_cases e : rd l z a = w
      · rw [if_pos (by rw [e]), if_pos (by simpa using e), ← e, hf]; rfl
      · rw [if_neg (fun x => e (nats_inj (V.tup.inj x)).symm), if_neg (by simpa using e), Option.or_none, Option.or_none]
end
end L05
end Mine

namespace Mine
namespace L05
section
variable {P : Tab} {n : Nat} {h : H}

noncomputable def mtV : Option (Nat × Nat) → V
  | some (p, a) => .tup [.int p, .int a]
  | none => .none
theorem fs_map {α β γ : Type} (f : β → γ) (g : α → Option β) : ∀ l : List α, l.findSome? (fun a => (g a).map f) = (l.findSome? g).map f
  | [] => rfl
  | a :: l => by
    rw [List.findSome?_cons, List.findSome?_cons]
    cases g a with
    | none => exact fs_map f g l
    | some b => rfl
theorem sub1 {k : Nat} (hk : 1 ≤ k) : (k : Int) - 1 = ((k - 1 : Nat) : Int) := (Int.natCast_sub hk).symm

set_option maxHeartbeats 4000000 in
theorem meeting_run (u : U_meeting P) {w x : V} {l1 l2 : List Nat} {k : Nat} (h1 : IsL h w l1) (h2 : IsL h x l2) (n1 : 0 < l1.length) (n2 : 0 < l2.length) (b1 : l1.length ≤ 256) (b2 : l2.length ≤ 256) (hk : 1 ≤ k) (k8 : k ≤ 8) :
    pcall h (run P (n + 2) true "meeting" [.int k, w, x] h) = .ok (mtV (mt l1 l2 (k - 1))) h := by
  have k1 : k - 1 ≤ 1000 := Nat.le_trans (Nat.sub_le _ _) (Nat.le_trans k8 (by decide))
  have wd : ∀ {ρ : List V} {g : H} {i j : Nat} {v : V} {l : List Nat} {p : Nat}, ρ[0]? = some (.int k) → ρ[i]? = some v → ρ[j]? = some (.int p) → IsL g v l → 0 < l.length → evE true (run P (n + 1)) ρ (.bf .tuple (.call false "read_at" [.var i, .bin .sub (.var 0) (.int 1), .var j])) g = .ok (.tup (V.nats (rd l (k - 1) p))) g := fun {ρ g i j v l p} e0 ei ej hl hn => by
    have ec := call_3 (F := run P (n + 1)) (ρ := ρ) (h := g) (f := "read_at") (v_at ei hl.val) ((b_sub (a := .var 0) (b := .int 1) (x := k) (y := 1) (v_at e0 trivial) rfl).trans (by rw [sub1 hk])) (v_at ej trivial) (read_at_eq (n := n) u.read_at hl hn (k - 1) p k1)
    rw [b_bf (f := .tuple) rfl, ec, R.bind_ok]; rfl
  have go : ∃ es, run P (n + 2) true "meeting" [.int k, w, x] h = .ok (mtV (mt l1 l2 (k - 1))) (h ++ [.dict es]) := by
    have first : ∃ es v, DI l2 (k - 1) (List.range l2.length) es ∧ ∀ r, (exSs true (run P (n + 1)) (D_meeting.body.drop 2) [.int k, w, x, .ref h.length, v, .undef] (h ++ [.dict es])).out = r → run P (n + 2) true "meeting" [.int k, w, x] h = r := by
      obtain ⟨ρ', g', e, es, v, rfl, rfl, d⟩ := s_forI (F := run P (n + 1)) (x := 4) (ρ := [.int k, w, x, .ref h.length, .undef, .undef]) (h := h ++ [.dict []]) (it := .range1 (.bf .len (.var 2))) (body := [.expr (.setdef (.var 3) (.bf .tuple (.call false "read_at" [.var 2, .bin .sub (.var 0) (.int 1), .var 4])) (.var 4))])
        (l := List.range l2.length) (c := fun i : Nat => V.int i) (fun q ρ g => ∃ es v, ρ = [.int k, w, x, .ref h.length, v, .undef] ∧ g = h ++ [.dict es] ∧ DI l2 (k - 1) q es)
        (it_rng (by rw [len_var rfl (h2.app _), nats_length]) (Nat.le_trans b2 (by decide))) ⟨[], _, rfl, rfl, fun w => rfl, Nat.le_refl _⟩ (fun q a q' ρ g hq hi => by
          obtain ⟨es, v, rfl, rfl, d⟩ := hi
          have hl := congrArg List.length hq
          rw [List.length_range, List.length_append] at hl
          obtain ⟨es', b, e, d'⟩ := d.step (h := h) a (Nat.le_trans (Nat.le_trans (Nat.le_add_right _ _) (Nat.le_of_eq hl.symm)) (Nat.le_trans b2 (by decide)))
          refine ⟨_, _, ?_, es', .int a, rfl, rfl, d'⟩
          have ee : evE true (run P (n + 1)) [.int k, w, x, .ref h.length, .int a, .undef] (.setdef (.var 3) (.bf .tuple (.call false "read_at" [.var 2, .bin .sub (.var 0) (.int 1), .var 4])) (.var 4)) (h ++ [.dict es]) = .ok (.int b) (h ++ [.dict es']) := by
            have dc : dcell (h ++ [.dict es]) (.ref h.length) = true := by
              show (match (h ++ [Cell.dict es])[h.length]? with | some (.dict _) => true | _ => false) = true
              rw [cell_get]
            rw [qE_37, v_at (v := .ref h.length) rfl trivial, R.bind_ok, if_pos dc, wd (p := a) rfl rfl rfl (h2.app _) n2, R.bind_ok, v_at (v := .int a) rfl trivial, R.bind_ok, e]
          show exSs true (run P (n + 1)) [.expr _] [.int k, w, x, .ref h.length, .int a, .undef] _ = _
          rw [ss_cons', qS_1, ee]; rfl)
      refine ⟨es, v, d, fun r hr => ?_⟩
      refine start u.self rfl (ρ := [.int k, w, x, .undef, .undef, .undef]) rfl ?_
      refine o_asg (v := .ref h.length) (h' := h ++ [.dict []]) rfl (ρ' := [.int k, w, x, .ref h.length, .undef, .undef]) rfl ?_
      show (exSs true (run P (n + 1)) (.for1 4 _ _ :: D_meeting.body.drop 2) _ _).out = r
      rw [show ∀ (s : PS) (ss : List PS), s :: ss = [s] ++ ss from fun _ _ => rfl, exSs_app, e]
      exact hr
    obtain ⟨es, v0, d, start⟩ := first
    refine ⟨es, start _ ?_⟩
    have hw := h1.app [Cell.dict es]
    have body : ∀ p ∈ List.range l1.length, ∀ ρ : List V, (∃ a b, ρ = [.int k, w, x, .ref h.length, a, b]) → ∃ ρ1, bind1 4 ρ (.int p) = some ρ1 ∧ (((fnd l2 (k - 1) (rd l1 (k - 1) p)).map fun a : Nat => V.tup [.int (p : Int), .int (a : Int)]) = none ∧ (∃ ρ', exSs true (run P (n + 1)) [.asg 5 (.bf .tuple (.call false "read_at" [.var 1, .bin .sub (.var 0) (.int 1), .var 4])), .ifs (.cmp .isin (.var 5) (.var 3)) [.ret (.tup [.var 4, .idx (.var 3) (.var 5)])] []] ρ1 (h ++ [.dict es]) = .ok .next ρ' (h ++ [.dict es]) ∧ ∃ a b, ρ' = [.int k, w, x, .ref h.length, a, b]) ∨
        ∃ v ρ', ((fnd l2 (k - 1) (rd l1 (k - 1) p)).map fun a : Nat => V.tup [.int (p : Int), .int (a : Int)]) = some v ∧ exSs true (run P (n + 1)) [.asg 5 (.bf .tuple (.call false "read_at" [.var 1, .bin .sub (.var 0) (.int 1), .var 4])), .ifs (.cmp .isin (.var 5) (.var 3)) [.ret (.tup [.var 4, .idx (.var 3) (.var 5)])] []] ρ1 (h ++ [.dict es]) = .ok (.ret v) ρ' (h ++ [.dict es])) := by
      intro p _ ρ hρ
      obtain ⟨a, b, rfl⟩ := hρ
      refine ⟨[.int k, w, x, .ref h.length, .int p, b], rfl, ?_⟩
      have get := d.get (rd l1 (k - 1) p)
      have ein : evE true (run P (n + 1)) [.int k, w, x, .ref h.length, .int p, .tup (V.nats (rd l1 (k - 1) p))] (.cmp .isin (.var 5) (.var 3)) (h ++ [.dict es]) = .ok (.bool (dfind (.tup (V.nats (rd l1 (k - 1) p))) es).isSome) (h ++ [.dict es]) := by
        rw [qE_13, v_at (v := .tup (V.nats (rd l1 (k - 1) p))) rfl trivial, R.bind_ok, v_at (v := .ref h.length) rfl trivial, R.bind_ok]
        show R.opt (Option.map V.bool (match (h ++ [Cell.dict es])[h.length]? with | some (.dict es) => _ | _ => _)) _ = _
        rw [cell_get]
        show R.opt (Option.map V.bool (if keyOk _ = true then _ else _)) _ = _
        rw [key_ok]; rfl
      have step : exSs true (run P (n + 1)) [.asg 5 (.bf .tuple (.call false "read_at" [.var 1, .bin .sub (.var 0) (.int 1), .var 4])), .ifs (.cmp .isin (.var 5) (.var 3)) [.ret (.tup [.var 4, .idx (.var 3) (.var 5)])] []] [.int k, w, x, .ref h.length, .int p, b] (h ++ [.dict es]) =
          exSs true (run P (n + 1)) [.ifs (.cmp .isin (.var 5) (.var 3)) [.ret (.tup [.var 4, .idx (.var 3) (.var 5)])] []] [.int k, w, x, .ref h.length, .int p, .tup (V.nats (rd l1 (k - 1) p))] (h ++ [.dict es]) := by
        rw [ss_cons', qS_2, wd (p := p) rfl rfl rfl hw n1, R.st_ok, RS.then_next]; rfl
      rw [step, ss_cons', qS_7, ein, get]
      unfold fnd
      cases hf : (List.range l2.length).find? fun a => decide (rd l2 (k - 1) a = rd l1 (k - 1) p) with
      | none => exact .inl ⟨rfl, _, rfl, _, _, rfl⟩
      | some a =>
        rw [hf] at get
        have ei : pyIdx (h ++ [.dict es]) (.ref h.length) (.tup (V.nats (rd l1 (k - 1) p))) = some (.int a) := by
          show (match (h ++ [Cell.dict es])[h.length]? with | some (.dict es) => _ | some (.list vs) => _ | none => _) = _
          rw [cell_get]
          show (if keyOk _ = true then _ else _) = _
          rw [key_ok]; exact get
        refine .inr ⟨.tup [.int p, .int a], [.int k, w, x, .ref h.length, .int p, .tup (V.nats (rd l1 (k - 1) p))], rfl, ?_⟩
        show ((exSs true (run P (n + 1)) [.ret (.tup [.var 4, .idx (.var 3) (.var 5)])] [.int k, w, x, .ref h.length, .int p, .tup (V.nats (rd l1 (k - 1) p))] (h ++ [.dict es])).then _) = _
        have et : evE true (run P (n + 1)) [.int k, w, x, .ref h.length, .int p, .tup (V.nats (rd l1 (k - 1) p))] (.idx (.var 3) (.var 5)) (h ++ [.dict es]) = .ok (.int a) (h ++ [.dict es]) := by
          rw [qE_18, v_at (v := .ref h.length) rfl trivial, R.bind_ok, v_at (v := .tup (V.nats (rd l1 (k - 1) p))) rfl trivial, R.bind_ok, ei]; rfl
        rw [ss_cons', qS_6, qE_16, es_cons (v := .int p) rfl (es_cons et rfl), R.bind_ok]; rfl
    have L := forL_R (h := h ++ [.dict es]) (t := Option.none) (bi := bind1 4) (fun p : Nat => V.int p) (fun p => (fnd l2 (k - 1) (rd l1 (k - 1) p)).map fun a : Nat => V.tup [.int (p : Int), .int (a : Int)]) (fun ρ => ∃ a b, ρ = [.int k, w, x, .ref h.length, a, b]) rfl (List.range l1.length) body [.int k, w, x, .ref h.length, v0, .undef] ⟨_, _, rfl⟩
    have em : (List.range l1.length).findSome? (fun p => (fnd l2 (k - 1) (rd l1 (k - 1) p)).map fun a : Nat => V.tup [.int (p : Int), .int (a : Int)]) = (mt l1 l2 (k - 1)).map fun q => V.tup [.int q.1, .int q.2] := by
      unfold mt
      rw [← fs_map]
      congr 1
      funext p
      rw [Option.map_map]; rfl
    rw [em] at L
    show (exSs true (run P (n + 1)) [.for1 4 (.range1 (.bf .len (.var 1))) _, .ret .none] _ _).out = _
    rw [ss_cons', s_for1', if_neg (by decide), it_rng (n := l1.length) (by rw [len_var rfl hw, nats_length]) (Nat.le_trans b1 (by decide)), R.st_ok]
    show (RS.then (forL Option.none (bind1 4) _ ((List.range l1.length).map fun p : Nat => V.int p) _ _) _).out = _
    cases hm : mt l1 l2 (k - 1) with
    | none =>
      rw [hm] at L
      rcases L with ⟨_, ρ', e, _⟩ | ⟨v, _, e, _⟩
      · rw [e]; rfl
      · cases e
    | some q =>
      rw [hm] at L
      rcases L with ⟨e, _⟩ | ⟨v, ρ', e, e2⟩
      · cases e
      · cases e; rw [e2]; rfl
  obtain ⟨es, go⟩ := go
  rw [go]
  refine pcall_new _ _ ?_
  cases mt l1 l2 (k - 1) with
  | none => rfl
  | some q => rfl
end
end L05
end Mine

namespace Mine
namespace L05
section
variable {P : Tab} {n : Nat} {h : H} {F : Fn} {ρ : List V}

/-- the second ring put into the first -/
noncomputable def jn (l1 l2 : List Nat) (p a : Nat) : List Nat := l1.take p ++ (l2.drop a ++ l2.take a) ++ l1.drop p
theorem sl_to {a e : PE} {v : V} {l : List Nat} {p : Nat} (ea : evE true F ρ a h = .ok v h) (hl : IsL h v l) (ee : evE true F ρ e h = .ok (.int p) h) : evE true F ρ (.slice a .none (some e)) h = .ok (.lst (V.nats (l.take p))) h := by
  rw [qE_19, ea, R.bind_ok, qO_1, R.bind_ok, qO_2, ee, R.bind_ok, R.bind_ok, slice_to hl p, nats_take]; rfl
theorem sl_from {a e : PE} {v : V} {l : List Nat} {p : Nat} (ea : evE true F ρ a h = .ok v h) (hl : IsL h v l) (ee : evE true F ρ e h = .ok (.int p) h) : evE true F ρ (.slice a (some e) .none) h = .ok (.lst (V.nats (l.drop p))) h := by
  rw [qE_19, ea, R.bind_ok, qO_2, ee, R.bind_ok, R.bind_ok, qO_1, R.bind_ok, slice_from hl p, nats_drop]; rfl
theorem b_addL {a b : PE} {x y : List Nat} (ea : evE true F ρ a h = .ok (.lst (V.nats x)) h) (eb : evE true F ρ b h = .ok (.lst (V.nats y)) h) (hn : x.length + y.length ≤ 1000000) : evE true F ρ (.bin .add a b) h = .ok (.lst (V.nats (x ++ y))) h := by
  rw [qE_7, ea, R.bind_ok, eb, R.bind_ok, addLL h _ _ (by rw [nats_length, nats_length]; exact hn), nats_append]; rfl
theorem td_len (l : List Nat) (p : Nat) : (l.take p).length + (l.drop p).length = l.length := by rw [← List.length_append, List.take_append_drop]
theorem jn_len {l1 l2 : List Nat} {p a : Nat} : (jn l1 l2 p a).length = l1.length + l2.length := by
  unfold jn
  rw [List.length_append, List.length_append, List.length_append, Nat.add_right_comm, td_len, Nat.add_comm (l2.drop a).length, td_len]
theorem le4 {a b c d : Nat} (ha : a ≤ 1000) (hb : b ≤ 1000) (hc : c ≤ 1000) (hd : d ≤ 1000) : a + b + c + d ≤ 1000000 := Nat.le_trans (Nat.add_le_add (Nat.add_le_add (Nat.add_le_add ha hb) hc) hd) (by decide)
theorem le3 {a b c : Nat} (ha : a ≤ 1000) (hb : b ≤ 1000) (hc : c ≤ 1000) : a + b + c ≤ 1000000 := Nat.le_trans (Nat.add_le_add (Nat.add_le_add ha hb) hc) (by decide)
theorem le2 {a b : Nat} (ha : a ≤ 1000) (hb : b ≤ 1000) : a + b ≤ 1000000 := Nat.le_trans (Nat.add_le_add ha hb) (by decide)
theorem take_len (l : List Nat) (p : Nat) : (l.take p).length ≤ l.length := by rw [List.length_take]; exact Nat.min_le_right _ _
theorem drop_len (l : List Nat) (p : Nat) : (l.drop p).length ≤ l.length := by rw [List.length_drop]; exact Nat.sub_le _ _

theorem put_in_run (u : U_put_in P) {w x : V} {l1 l2 : List Nat} {p a : Nat} (h1 : IsL h w l1) (h2 : IsL h x l2) (b1 : l1.length ≤ 1000) (b2 : l2.length ≤ 1000) : run P (n + 1) true "put_in" [w, x, .tup [.int p, .int a]] h = .ok (.ref h.length) (h ++ [.list (V.nats (jn l1 l2 p a))]) := by
  refine start u.self rfl (ρ := [w, x, .tup [.int p, .int a]]) rfl (o_ret ?_)
  have e0 : evE true (run P n) [w, x, .tup [.int p, .int a]] (.idx (.var 2) (.int 0)) h = .ok (.int p) h := rfl
  have e1 : evE true (run P n) [w, x, .tup [.int p, .int a]] (.idx (.var 2) (.int 1)) h = .ok (.int a) h := rfl
  have t1 := Nat.le_trans (take_len l1 p) b1
  have t2 := Nat.le_trans (take_len l2 a) b2
  have t3 := Nat.le_trans (drop_len l1 p) b1
  have t4 := Nat.le_trans (drop_len l2 a) b2
  have v0 : evE true (run P n) [w, x, .tup [.int p, .int a]] (.var 0) h = .ok w h := v_at rfl h1.val
  have v1 : evE true (run P n) [w, x, .tup [.int p, .int a]] (.var 1) h = .ok x h := v_at rfl h2.val
  have all := b_addL (b_addL (b_addL (sl_to v0 h1 e0) (sl_from v1 h2 e1) (le2 t1 t4)) (sl_to v1 h2 e1) (by rw [List.length_append]; exact le3 t1 t4 t2)) (sl_from v0 h1 e0) (by rw [List.length_append, List.length_append]; exact le4 t1 t4 t2 t3)
  rw [show l1.take p ++ l2.drop a ++ l2.take a ++ l1.drop p = jn l1 l2 p a by unfold jn; simp only [List.append_assoc]] at all
  exact own_ev all

noncomputable def twV (l1 l2 : List Nat) : Option (Nat × Nat) → V
  | some (p, a) => .lst (V.nats (jn l1 l2 p a))
  | none => .none
theorem fs_find {α β : Type} (q : α → Bool) (f : α → β) : ∀ l : List α, l.findSome? (fun a => if q a then some (f a) else none) = (l.find? q).map f
  | [] => rfl
  | a :: l => by
    rw [List.findSome?_cons, List.find?_cons]
    cases q a with
    | true => rfl
    | false => exact fs_find q f l

noncomputable def twIn : List PS := [
      .ifs (.cmp .eq (.call false "_law_from" [.var 2, .var 5, .bin .sub (.var 0) (.int 1)]) (.var 4)) [
        .ret (.bin .add (.bin .add (.slice (.var 1) .none (some (.var 3))) (.call false "_law_from" [.var 2, .var 5, .bf .len (.var 2)])) (.slice (.var 1) (some (.var 3)) .none))] []]
noncomputable def twOut : List PS := [.asg 4 (.call false "_law_from" [.var 1, .var 3, .bin .sub (.var 0) (.int 1)]), .for1 5 (.range1 (.bf .len (.var 2))) twIn]
section
variable {w x : V} {l1 l2 : List Nat} {k : Nat} (u : UL_two P) (h1 : IsL h w l1) (h2 : IsL h x l2) (n1 : 0 < l1.length) (n2 : 0 < l2.length) (b1 : l1.length ≤ 1000) (b2 : l2.length ≤ 1000) (hk : 1 ≤ k) (k8 : k ≤ 8)
include u h1 h2 n1 n2 b1 b2 hk k8
theorem two_in {p : Nat} (hp : p < l1.length) {a : Nat} (ha : a < l2.length) :
    ((if decide (rd l2 (k - 1) a = rd l1 (k - 1) p) then some (V.lst (V.nats (jn l1 l2 p a))) else none) = none ∧ exSs true (run P (n + 1)) twIn [.int k, w, x, .int p, .lst (V.nats (rd l1 (k - 1) p)), .int a] h = .ok .next [.int k, w, x, .int p, .lst (V.nats (rd l1 (k - 1) p)), .int a] h) ∨
    ∃ v, (if decide (rd l2 (k - 1) a = rd l1 (k - 1) p) then some (V.lst (V.nats (jn l1 l2 p a))) else none) = some v ∧ exSs true (run P (n + 1)) twIn [.int k, w, x, .int p, .lst (V.nats (rd l1 (k - 1) p)), .int a] h = .ok (.ret v) [.int k, w, x, .int p, .lst (V.nats (rd l1 (k - 1) p)), .int a] h := by
  have k1 : k - 1 ≤ 1000 := Nat.le_trans (Nat.sub_le _ _) (Nat.le_trans k8 (by decide))
  have v1 : evE true (run P (n + 1)) [.int k, w, x, .int p, .lst (V.nats (rd l1 (k - 1) p)), .int a] (.var 1) h = .ok w h := v_at rfl h1.val
  have v2 : evE true (run P (n + 1)) [.int k, w, x, .int p, .lst (V.nats (rd l1 (k - 1) p)), .int a] (.var 2) h = .ok x h := v_at rfl h2.val
  have vp : evE true (run P (n + 1)) [.int k, w, x, .int p, .lst (V.nats (rd l1 (k - 1) p)), .int a] (.var 3) h = .ok (.int p) h := rfl
  have va : evE true (run P (n + 1)) [.int k, w, x, .int p, .lst (V.nats (rd l1 (k - 1) p)), .int a] (.var 5) h = .ok (.int a) h := rfl
  have sz : evE true (run P (n + 1)) [.int k, w, x, .int p, .lst (V.nats (rd l1 (k - 1) p)), .int a] (.bin .sub (.var 0) (.int 1)) h = .ok (.int ((k - 1 : Nat) : Int)) h := (b_sub (x := k) (y := 1) rfl rfl).trans (by rw [sub1 hk])
  have ln : evE true (run P (n + 1)) [.int k, w, x, .int p, .lst (V.nats (rd l1 (k - 1) p)), .int a] (.bf .len (.var 2)) h = .ok (.int l2.length) h := by rw [len_var rfl h2, nats_length]
  have c1 := call_3 (f := "_law_from") v2 va sz (from_p (n := n) u.l_from h2 n2 b2 a (k - 1) ha k1)
  have c2 := call_3 (f := "_law_from") v2 va ln (from_p (n := n) u.l_from h2 n2 b2 a l2.length ha b2)
  rw [rd_turn l2 a ha] at c2
  have t1 := Nat.le_trans (take_len l1 p) b1
  have t3 := Nat.le_trans (drop_len l1 p) b1
  have tl : (l2.drop a ++ l2.take a).length ≤ 1000 := by rw [← rd_turn l2 a ha, rd_len]; exact b2
  have ret := b_addL (b_addL (sl_to v1 h1 vp) c2 (le2 t1 tl)) (sl_from v1 h1 vp) (by rw [List.length_append]; exact le3 t1 tl t3)
  have cond : evE true (run P (n + 1)) [.int k, w, x, .int p, .lst (V.nats (rd l1 (k - 1) p)), .int a] (.cmp .eq (.call false "_law_from" [.var 2, .var 5, .bin .sub (.var 0) (.int 1)]) (.var 4)) h = .ok (.bool (decide (rd l2 (k - 1) a = rd l1 (k - 1) p))) h :=
    e_eq c1 (v_at (v := .lst (V.nats (rd l1 (k - 1) p))) rfl trivial) (pyEq_L (IsL.lst h _) (IsL.lst h _))
  unfold twIn
  rw [ss_cons', qS_7, cond]
  cases decide (rd l2 (k - 1) a = rd l1 (k - 1) p) with
  | false => exact .inl ⟨rfl, rfl⟩
  | true =>
    refine .inr ⟨_, rfl, ?_⟩
    rw [R.st_ok]
    show ((exSs true (run P (n + 1)) [.ret _] _ h).then _) = _
    rw [ss_cons', qS_6, ret]; rfl
theorem two_out {p : Nat} (hp : p < l1.length) {b c : V} :
    ((fnd l2 (k - 1) (rd l1 (k - 1) p)).map (fun a : Nat => V.lst (V.nats (jn l1 l2 p a))) = none ∧ ∃ ρ', exSs true (run P (n + 1)) twOut [.int k, w, x, .int p, b, c] h = .ok .next ρ' h ∧ ∃ b c, ρ' = [.int k, w, x, .int p, b, c]) ∨
    ∃ v ρ', (fnd l2 (k - 1) (rd l1 (k - 1) p)).map (fun a : Nat => V.lst (V.nats (jn l1 l2 p a))) = some v ∧ exSs true (run P (n + 1)) twOut [.int k, w, x, .int p, b, c] h = .ok (.ret v) ρ' h := by
  have k1 : k - 1 ≤ 1000 := Nat.le_trans (Nat.sub_le _ _) (Nat.le_trans k8 (by decide))
  have sz : evE true (run P (n + 1)) [.int k, w, x, .int p, b, c] (.bin .sub (.var 0) (.int 1)) h = .ok (.int ((k - 1 : Nat) : Int)) h := (b_sub (x := k) (y := 1) rfl rfl).trans (by rw [sub1 hk])
  have c1 := call_3 (f := "_law_from") (v_at (i := 1) rfl h1.val) (v_at (i := 3) (v := .int p) rfl trivial) sz (from_p (n := n) u.l_from h1 n1 b1 p (k - 1) hp k1)
  have step : exSs true (run P (n + 1)) twOut [.int k, w, x, .int p, b, c] h = exSs true (run P (n + 1)) [.for1 5 (.range1 (.bf .len (.var 2))) twIn] [.int k, w, x, .int p, .lst (V.nats (rd l1 (k - 1) p)), c] h := by
    unfold twOut
    rw [ss_cons', qS_2, c1, R.st_ok, RS.then_next]; rfl
  rw [step, ss_cons', s_for1', if_neg (by decide), it_rng (n := l2.length) (by rw [len_var rfl h2, nats_length]) (Nat.le_trans b2 (by decide)), R.st_ok]
  have L := forL_R (h := h) (t := Option.none) (bi := bind1 5) (body := fun ρ h => exSs true (run P (n + 1)) twIn ρ h) (fun a : Nat => V.int a) (fun a => if decide (rd l2 (k - 1) a = rd l1 (k - 1) p) then some (V.lst (V.nats (jn l1 l2 p a))) else none) (fun ρ => ∃ c, ρ = [.int k, w, x, .int p, .lst (V.nats (rd l1 (k - 1) p)), c]) rfl (List.range l2.length) (fun a ha ρ hρ => by
    obtain ⟨c, rfl⟩ := hρ
    refine ⟨[.int k, w, x, .int p, .lst (V.nats (rd l1 (k - 1) p)), .int a], rfl, ?_⟩
    rcases two_in (n := n) u h1 h2 n1 n2 b1 b2 hk k8 hp (List.mem_range.1 ha) with ⟨e1, e2⟩ | ⟨v, e1, e2⟩
    · exact .inl ⟨e1, _, e2, _, rfl⟩
    · exact .inr ⟨v, _, e1, e2⟩) [.int k, w, x, .int p, .lst (V.nats (rd l1 (k - 1) p)), c] ⟨_, rfl⟩
  rw [fs_find (fun a => decide (rd l2 (k - 1) a = rd l1 (k - 1) p)) (fun a => V.lst (V.nats (jn l1 l2 p a)))] at L
  unfold fnd
  rcases L with ⟨e, ρ', e1, c', rfl⟩ | ⟨v, ρ', e, e1⟩
  · exact .inl ⟨e, _, by rw [e1]; rfl, _, _, rfl⟩
  · exact .inr ⟨v, ρ', e, by rw [e1]; rfl⟩
theorem two_run : run P (n + 2) true "_law_two" [.int k, w, x] h = .ok (twV l1 l2 (mt l1 l2 (k - 1))) h := by
  refine start u.self rfl (ρ := [.int k, w, x, .undef, .undef, .undef]) rfl ?_
  show (exSs true (run P (n + 1)) [.for1 3 (.range1 (.bf .len (.var 1))) twOut, .ret .none] _ h).out = _
  rw [ss_cons', s_for1', if_neg (by decide), it_rng (n := l1.length) (by rw [len_var rfl h1, nats_length]) (Nat.le_trans b1 (by decide)), R.st_ok]
  have L := forL_R (h := h) (t := Option.none) (bi := bind1 3) (body := fun ρ h => exSs true (run P (n + 1)) twOut ρ h) (fun a : Nat => V.int a) (fun p => (fnd l2 (k - 1) (rd l1 (k - 1) p)).map (fun a : Nat => V.lst (V.nats (jn l1 l2 p a)))) (fun ρ => ∃ a b c, ρ = [.int k, w, x, a, b, c]) rfl (List.range l1.length) (fun p hp ρ hρ => by
    obtain ⟨a, b, c, rfl⟩ := hρ
    refine ⟨[.int k, w, x, .int p, b, c], rfl, ?_⟩
    rcases two_out (n := n) u h1 h2 n1 n2 b1 b2 hk k8 (List.mem_range.1 hp) (b := b) (c := c) with ⟨e1, ρ', e2, b', c', rfl⟩ | ⟨v, ρ', e1, e2⟩
    · exact .inl ⟨e1, _, e2, _, _, _, rfl⟩
    · exact .inr ⟨v, _, e1, e2⟩) [.int k, w, x, .undef, .undef, .undef] ⟨_, _, _, rfl⟩
  have em : (List.range l1.length).findSome? (fun p => (fnd l2 (k - 1) (rd l1 (k - 1) p)).map (fun a : Nat => V.lst (V.nats (jn l1 l2 p a)))) = (mt l1 l2 (k - 1)).map fun q => V.lst (V.nats (jn l1 l2 q.1 q.2)) := by
    unfold mt
    rw [← fs_map]
    congr 1
    funext p
    rw [Option.map_map]; rfl
  rw [em] at L
  cases hm : mt l1 l2 (k - 1) with
  | none =>
    rw [hm] at L
    rcases L with ⟨_, ρ', e, _⟩ | ⟨v, _, e, _⟩
    · rw [e]; rfl
    · cases e
  | some q =>
    rw [hm] at L
    rcases L with ⟨e, _⟩ | ⟨v, ρ', e, e2⟩
    · cases e
    · cases e; rw [e2]; rfl
end
theorem mt_lt {l1 l2 : List Nat} {z p a : Nat} (e : mt l1 l2 z = some (p, a)) : p < l1.length ∧ a < l2.length ∧ rd l2 z a = rd l1 z p := by
  unfold mt at e
  obtain ⟨q, hq, e⟩ := List.exists_of_findSome?_eq_some e
  obtain ⟨b, hb, e⟩ := Option.map_eq_some_iff.1 e
  cases e
  unfold fnd at hb
  exact ⟨List.mem_range.1 hq, List.mem_range.1 (List.mem_of_find?_eq_some hb), by simpa using List.find?_some hb⟩
end
end L05
end Mine

namespace Mine
namespace L05
section
variable {P : Tab} {n : Nat} {h : H}

/-- things that are rings -/
inductive Rg (h : H) : List V → List (List Nat) → Prop
  | nil : Rg h [] []
  | cons {v : V} {l : List Nat} {vs : List V} {ls : List (List Nat)} (hl : IsL h v l) (h0 : 0 < l.length) (hn : l.length ≤ 256) (t : Rg h vs ls) : Rg h (v :: vs) (l :: ls)
theorem Rg.len {vs : List V} {ls : List (List Nat)} (r : Rg h vs ls) : vs.length = ls.length := by
  induction r with
  | nil => rfl
  | cons _ _ _ _ ih => rw [List.length_cons, List.length_cons, ih]
theorem Rg.get {vs : List V} {ls : List (List Nat)} (r : Rg h vs ls) : ∀ {i : Nat}, i < ls.length → ∃ v, vs[i]? = some v ∧ IsL h v (ls.getD i []) ∧ 0 < (ls.getD i []).length ∧ (ls.getD i []).length ≤ 256 := by
  induction r with
  | nil => intro i hi; exact absurd hi (Nat.not_lt_zero _)
  | cons hl h0 hn t ih =>
    intro i hi
    cases i with
    | zero => exact ⟨_, rfl, hl, h0, hn⟩
    | succ i =>
      obtain ⟨v, e, r⟩ := ih (i := i) (Nat.lt_of_succ_lt_succ hi)
      exact ⟨v, e, r⟩
theorem Rg.erase {vs : List V} {ls : List (List Nat)} (r : Rg h vs ls) : ∀ i : Nat, Rg h (vs.eraseIdx i) (ls.eraseIdx i) := by
  induction r with
  | nil => intro i; exact .nil
  | cons hl h0 hn t ih =>
    intro i
    cases i with
    | zero => exact t
    | succ i => exact .cons hl h0 hn (ih i)
theorem Rg.app {vs : List V} {ls : List (List Nat)} (r : Rg h vs ls) (e : H) : Rg (h ++ e) vs ls := by
  induction r with
  | nil => exact .nil
  | cons hl h0 hn t ih => exact .cons (hl.app e) h0 hn ih

/-- the first of those left that can be joined -/
noncomputable def fj (f : List Nat) (ls : List (List Nat)) (z : Nat) : Option (Nat × Nat × Nat) := (List.range ls.length).findSome? fun i => (mt f (ls.getD i []) z).map fun q => (i, q)
noncomputable def fjV : Option (Nat × Nat × Nat) → V
  | some (i, p, a) => .tup [.int i, .tup [.int p, .int a]]
  | none => .none
theorem fj_lt {f : List Nat} {ls : List (List Nat)} {z i p a : Nat} (e : fj f ls z = some (i, p, a)) : i < ls.length ∧ mt f (ls.getD i []) z = some (p, a) := by
  unfold fj at e
  obtain ⟨q, hq, e⟩ := List.exists_of_findSome?_eq_some e
  obtain ⟨b, hb, e⟩ := Option.map_eq_some_iff.1 e
  cases e
  exact ⟨List.mem_range.1 hq, hb⟩

theorem enum_map : ∀ (m : Nat) (vs : List V), enumFrom m vs = (List.range vs.length).map fun i : Nat => V.tup [.int ((m + i : Nat) : Int), vs.getD i .none]
  | _, [] => rfl
  | m, v :: vs => by
    rw [enumFrom, List.length_cons, List.range_succ_eq_map, List.map_cons, enum_map (m + 1) vs, List.map_map]
    congr 1
    refine List.map_congr_left fun i _ => ?_
    show V.tup [.int ((m + 1 + i : Nat) : Int), vs.getD i .none] = V.tup [.int ((m + (i + 1) : Nat) : Int), vs.getD i .none]
    rw [Nat.add_right_comm]; rfl

noncomputable def fjB : List PS := [
    .asg 5 (.call false "meeting" [.var 0, .var 1, .var 4]),
    .ifs (.cmp .isNot (.var 5) .none) [
      .ret (.tup [.var 3, .var 5])] []]
theorem fj_body (u : U_first_joined P) {w x y : V} {f l : List Nat} {k i : Nat} (h1 : IsL h w f) (h2 : IsL h x l) (n1 : 0 < f.length) (n2 : 0 < l.length) (b1 : f.length ≤ 256) (b2 : l.length ≤ 256) (hk : 1 ≤ k) (k8 : k ≤ 8) {c : V} :
    ((mt f l (k - 1)).map (fun q => V.tup [.int i, .tup [.int q.1, .int q.2]]) = none ∧ exSs true (run P (n + 2)) fjB [.int k, w, y, .int i, x, c] h = .ok .next [.int k, w, y, .int i, x, .none] h) ∨
    ∃ v ρ', (mt f l (k - 1)).map (fun q => V.tup [.int i, .tup [.int q.1, .int q.2]]) = some v ∧ exSs true (run P (n + 2)) fjB [.int k, w, y, .int i, x, c] h = .ok (.ret v) ρ' h := by
  have ec := call_3 (F := run P (n + 2)) (ρ := [.int k, w, y, .int i, x, c]) (f := "meeting") (v_at (i := 0) (v := .int k) rfl trivial) (v_at (i := 1) rfl h1.val) (v_at (i := 4) rfl h2.val) (meeting_run (n := n) u.meeting h1 h2 n1 n2 b1 b2 hk k8)
  have step : exSs true (run P (n + 2)) fjB [.int k, w, y, .int i, x, c] h = exSs true (run P (n + 2)) [.ifs (.cmp .isNot (.var 5) .none) [.ret (.tup [.var 3, .var 5])] []] [.int k, w, y, .int i, x, mtV (mt f l (k - 1))] h := by
    unfold fjB
    rw [ss_cons', qS_2, ec, R.st_ok, RS.then_next]; rfl
  rw [step]
  cases mt f l (k - 1) with
  | none => exact .inl ⟨rfl, rfl⟩
  | some q => exact .inr ⟨_, _, rfl, rfl⟩
theorem first_run (u : U_first_joined P) {w : V} {f : List Nat} {k c : Nat} {vs : List V} {ls : List (List Nat)} (h1 : IsL h w f) (n1 : 0 < f.length) (b1 : f.length ≤ 256) (hc : h[c]? = some (.list vs)) (r : Rg h vs ls) (hk : 1 ≤ k) (k8 : k ≤ 8) :
    pcall h (run P (n + 3) true "first_joined" [.int k, w, .ref c] h) = .ok (fjV (fj f ls (k - 1))) h := by
  have go : run P (n + 3) true "first_joined" [.int k, w, .ref c] h = .ok (fjV (fj f ls (k - 1))) h := by
    refine start u.self rfl (ρ := [.int k, w, .ref c, .undef, .undef, .undef]) rfl ?_
    show (exSs true (run P (n + 2)) [.for2 3 4 (.enum (.var 2)) fjB, .ret .none] _ h).out = _
    have hit : evIt true (run P (n + 2)) [.int k, w, .ref c, .undef, .undef, .undef] (.enum (.var 2)) h = .ok ((List.range vs.length).map (fun i : Nat => V.tup [.int (i : Int), vs.getD i .none]), some (c, .list vs)) h := by
      rw [qI_5, v_at (v := .ref c) rfl trivial, R.bind_ok]
      show R.opt (match h[c]? with | some (.list vs) => _ | _ => _) h = _
      rw [hc]
      show R.ok (enumFrom 0 vs, some (c, Cell.list vs)) h = _
      rw [enum_map]
      congr 2
      refine List.map_congr_left fun i _ => ?_
      rw [Nat.zero_add]
    rw [ss_cons', qS_9, if_neg (by decide), hit, R.st_ok]
    have L := forL_R (h := h) (t := some (c, .list vs)) (bi := bind2 3 4) (body := fun ρ h => exSs true (run P (n + 2)) fjB ρ h) (fun i : Nat => V.tup [.int (i : Int), vs.getD i .none]) (fun i => (mt f (ls.getD i []) (k - 1)).map fun q => V.tup [.int i, .tup [.int q.1, .int q.2]]) (fun ρ => ∃ a b c', ρ = [.int k, w, .ref c, a, b, c']) (decide_eq_true hc) (List.range vs.length) (fun i hi ρ hρ => by
      obtain ⟨a, b, c', rfl⟩ := hρ
      obtain ⟨v, e, r1, r2, r3⟩ := r.get (i := i) (by rw [← r.len]; exact List.mem_range.1 hi)
      have e' : vs.getD i .none = v := by rw [List.getD_eq_getElem?_getD, e]; rfl
      refine ⟨[.int k, w, .ref c, .int i, v, c'], by rw [e']; rfl, ?_⟩
      rcases fj_body (n := n) (i := i) (y := .ref c) u h1 r1 n1 r2 b1 r3 hk k8 (c := c') with ⟨e1, e2⟩ | ⟨u, ρ', e1, e2⟩
      · exact .inl ⟨e1, _, e2, _, _, _, rfl⟩
      · exact .inr ⟨u, ρ', e1, e2⟩) [.int k, w, .ref c, .undef, .undef, .undef] ⟨_, _, _, rfl⟩
    have em : (List.range vs.length).findSome? (fun i => (mt f (ls.getD i []) (k - 1)).map fun q => V.tup [.int i, .tup [.int q.1, .int q.2]]) = (fj f ls (k - 1)).map fun q => V.tup [.int q.1, .tup [.int q.2.1, .int q.2.2]] := by
      unfold fj
      rw [← fs_map, r.len]
      congr 1
      funext p
      rw [Option.map_map]; rfl
    rw [em] at L
    cases hm : fj f ls (k - 1) with
    | none =>
      rw [hm] at L
      rcases L with ⟨_, ρ', e, _⟩ | ⟨v, _, e, _⟩
      · rw [e]; rfl
      · cases e
    | some q =>
      rw [hm] at L
      rcases L with ⟨e, _⟩ | ⟨v, ρ', e, e2⟩
      · cases e
      · cases e; rw [e2]; rfl
  rw [go]
  cases fj f ls (k - 1) with
  | none => exact pcall_ok rfl h
  | some q => exact pcall_ok rfl h
end
end L05
end Mine

namespace Mine
namespace L05
section
variable {P : Tab} {n : Nat} {h : H}

noncomputable def tot (ls : List (List Nat)) : Nat := (ls.map List.length).sum
theorem tot_erase : ∀ (ls : List (List Nat)) (i : Nat), i < ls.length → (ls.getD i []).length + tot (ls.eraseIdx i) = tot ls
  | [], _, hi => absurd hi (Nat.not_lt_zero _)
  | l :: ls, 0, _ => by show l.length + tot ls = (l.length :: ls.map List.length).sum; rw [List.sum_cons]; rfl
  | l :: ls, i + 1, hi => by
    have ih := tot_erase ls i (Nat.lt_of_succ_lt_succ hi)
    show (ls.getD i []).length + (l.length :: (ls.eraseIdx i).map List.length).sum = (l.length :: ls.map List.length).sum
    rw [List.sum_cons, List.sum_cons, ← Nat.add_assoc, Nat.add_comm _ l.length, Nat.add_assoc]
    exact congrArg _ ih

/-- all joined, one by one -/
noncomputable def jall (z : Nat) : Nat → List Nat → List (List Nat) → Option (List Nat)
  | 0, f, _ => some f
  | m + 1, f, ls => match fj f ls z with
    | none => none
    | some (i, p, a) => jall z m (jn f (ls.getD i []) p a) (ls.eraseIdx i)

noncomputable def jT : PE := .cmp .gt (.bf .len (.var 4)) (.int 0)
noncomputable def jB : List PS := [
    .asg 5 (.call false "first_joined" [.var 0, .var 3, .var 4]),
    .ifs (.cmp .is (.var 5) .none) [
      .raise "NoJoin"] [],
    .asg 3 (.call true "put_in" [.var 3, .popAt (.var 4) (.idx (.var 5) (.int 0)), .idx (.var 5) (.int 1)])]
noncomputable abbrev Ej (k : Nat) (rv v2 : V) (fa la : Nat) (v5 v6 : V) : List V := [.int k, rv, v2, .ref fa, .ref la, v5, v6]

theorem place_nat {m i : Nat} (hi : i < m) : place m (i : Int) = some i := by
  unfold place
  rw [if_pos (Int.natCast_nonneg _), if_pos (Int.ofNat_lt.2 hi)]; rfl

/-- where the loop stands -/
structure JS (h : H) (f : List Nat) (ls : List (List Nat)) (fa la : Nat) (e : H) (vs : List V) : Prop where
  fc : (h ++ e)[fa]? = some (.list (V.nats f))
  lc : (h ++ e)[la]? = some (.list vs)
  ne : fa ≠ la
  lo : h.length ≤ la
  fo : h.length ≤ fa
  rg : Rg h vs ls
  f0 : 0 < f.length
  sum : f.length + tot ls ≤ 256

theorem j_none (u : U_joined_all P) {f : List Nat} {ls : List (List Nat)} {fa la : Nat} {e : H} {vs : List V} {k : Nat} {rv v2 v5 v6 : V} (s : JS h f ls fa la e vs) (hk : 1 ≤ k) (k8 : k ≤ 8) (hf : fj f ls (k - 1) = none) :
    ∃ ρ', exSs true (run P (n + 3)) jB (Ej k rv v2 fa la v5 v6) (h ++ e) = .err "NoJoin" ρ' (h ++ e) := by
  have b1 : f.length ≤ 256 := Nat.le_trans (Nat.le_add_right _ _) s.sum
  have ec := call_3 (F := run P (n + 3)) (ρ := Ej k rv v2 fa la v5 v6) (f := "first_joined") (v_at (i := 0) (v := .int k) rfl trivial) (v_at (i := 3) (v := .ref fa) rfl trivial) (v_at (i := 4) (v := .ref la) rfl trivial) (first_run (n := n) u.first_joined (IsL.ref s.fc) s.f0 b1 s.lc (s.rg.app e) hk k8)
  rw [hf] at ec
  refine ⟨Ej k rv v2 fa la .none v6, ?_⟩
  unfold jB
  rw [ss_cons', qS_2, ec]; rfl
theorem j_some (u : U_joined_all P) {f : List Nat} {ls : List (List Nat)} {fa la : Nat} {e : H} {vs : List V} {k i p a : Nat} {rv v2 v5 v6 : V} (s : JS h f ls fa la e vs) (hk : 1 ≤ k) (k8 : k ≤ 8) (hf : fj f ls (k - 1) = some (i, p, a)) :
    ∃ fa' e' vs' v5', exSs true (run P (n + 3)) jB (Ej k rv v2 fa la v5 v6) (h ++ e) = .ok .next (Ej k rv v2 fa' la v5' v6) (h ++ e') ∧ JS h (jn f (ls.getD i []) p a) (ls.eraseIdx i) fa' la e' vs' := by
  have b1 : f.length ≤ 256 := Nat.le_trans (Nat.le_add_right _ _) s.sum
  have ec := call_3 (F := run P (n + 3)) (ρ := Ej k rv v2 fa la v5 v6) (f := "first_joined") (v_at (i := 0) (v := .int k) rfl trivial) (v_at (i := 3) (v := .ref fa) rfl trivial) (v_at (i := 4) (v := .ref la) rfl trivial) (first_run (n := n) u.first_joined (IsL.ref s.fc) s.f0 b1 s.lc (s.rg.app e) hk k8)
  rw [hf] at ec
  obtain ⟨hi, hm⟩ := fj_lt hf
  obtain ⟨v, hv, r1, r2, r3⟩ := s.rg.get hi
  have iv : i < vs.length := by rw [s.rg.len]; exact hi
  have lt : la < (h ++ e).length := (List.getElem?_eq_some_iff.1 s.lc).1
  have hset : (h ++ e).set la (.list (vs.eraseIdx i)) = h ++ e.set (la - h.length) (.list (vs.eraseIdx i)) := List.set_append_right _ _ s.lo
  have hpop : evE true (run P (n + 3)) (Ej k rv v2 fa la (.tup [.int i, .tup [.int p, .int a]]) v6) (.popAt (.var 4) (.idx (.var 5) (.int 0))) (h ++ e) = .ok v (h ++ e.set (la - h.length) (.list (vs.eraseIdx i))) := by
    have hle : vs.length ≤ 1000000 := by
      rw [s.rg.len]
      have : ∀ xs : List V, ∀ ys, Rg h xs ys → ys.length ≤ tot ys := fun xs ys r => by
        induction r with
        | nil => exact Nat.le_refl _
        | cons _ h0 _ _ ih => rw [List.length_cons, tot, List.map_cons, List.sum_cons, Nat.add_comm]; exact Nat.add_le_add h0 ih
      exact Nat.le_trans (this _ _ s.rg) (Nat.le_trans (Nat.le_add_left _ _) (Nat.le_trans s.sum (by decide)))
    rw [qE_35, v_at (v := .ref la) rfl trivial, R.bind_ok, if_pos (lcell_ref s.lc), show evE true (run P (n + 3)) (Ej k rv v2 fa la (.tup [.int i, .tup [.int p, .int a]]) v6) (.idx (.var 5) (.int 0)) (h ++ e) = .ok (.int i) (h ++ e) from rfl, R.bind_ok]
    show onList (h ++ e) (.ref la) (fun vs => (place vs.length (i : Int)).bind fun j => (vs[j]?).map fun v => (v, vs.eraseIdx j)) = _
    rw [onList_ref s.lc _ v (vs.eraseIdx i) (by rw [place_nat iv]; show (vs[i]?).map _ = _; rw [hv]; rfl) (Nat.le_trans (List.length_eraseIdx_le ..) hle), hset]
  generalize hE : e.set (la - h.length) (.list (vs.eraseIdx i)) = e1 at hpop hset
  have fc : (h ++ e1)[fa]? = some (.list (V.nats f)) := by rw [← hset, List.getElem?_set_ne (Ne.symm s.ne)]; exact s.fc
  have lc : (h ++ e1)[la]? = some (.list (vs.eraseIdx i)) := by rw [← hset]; exact List.getElem?_set_self lt
  have hput := put_in_run (n := n + 2) (p := p) (a := a) u.put_in (IsL.ref fc) (r1.app e1) (Nat.le_trans b1 (by decide)) (Nat.le_trans r3 (by decide))
  refine ⟨(h ++ e1).length, e1 ++ [.list (V.nats (jn f (ls.getD i []) p a))], vs.eraseIdx i, .tup [.int i, .tup [.int p, .int a]], ?_, ?_⟩
  · unfold jB
    rw [ss_cons', qS_2, ec, R.st_ok, RS.then_next]
    show exSs true (run P (n + 3)) [.ifs _ _ _, .asg 3 _] (Ej k rv v2 fa la (.tup [.int i, .tup [.int p, .int a]]) v6) (h ++ e) = _
    rw [ss_cons', qS_7, show evE true (run P (n + 3)) (Ej k rv v2 fa la (.tup [.int i, .tup [.int p, .int a]]) v6) (.cmp .is (.var 5) .none) (h ++ e) = .ok (.bool false) (h ++ e) from rfl, R.st_ok]
    show (exSs true (run P (n + 3)) [.asg 3 _] (Ej k rv v2 fa la (.tup [.int i, .tup [.int p, .int a]]) v6) (h ++ e)) = _
    have args : evEs true (run P (n + 3)) (Ej k rv v2 fa la (.tup [.int i, .tup [.int p, .int a]]) v6) [.var 3, .popAt (.var 4) (.idx (.var 5) (.int 0)), .idx (.var 5) (.int 1)] (h ++ e) = .ok [.ref fa, v, .tup [.int p, .int a]] (h ++ e1) := by
      rw [qEs_2, v_at (v := .ref fa) rfl trivial, R.bind_ok, qEs_2, hpop]; rfl
    rw [ss_cons', qS_2, qE_27, args, R.bind_ok]
    show (((run P (n + 3) true "put_in" [.ref fa, v, .tup [.int p, .int a]] (h ++ e1)).st _ _).then _) = _
    rw [hput, List.append_assoc]; rfl
  · refine ⟨?_, ?_, ?_, s.lo, by rw [List.length_append]; exact Nat.le_add_right _ _, s.rg.erase i, by rw [jn_len]; exact Nat.lt_of_lt_of_le s.f0 (Nat.le_add_right _ _), ?_⟩
    · rw [← List.append_assoc]; exact cell_get _ _
    · rw [← List.append_assoc, List.getElem?_append_left (List.getElem?_eq_some_iff.1 lc).1]; exact lc
    · exact Nat.ne_of_gt (List.getElem?_eq_some_iff.1 lc).1
    · rw [jn_len, Nat.add_assoc, tot_erase ls i hi]; exact s.sum

theorem j_loop (u : U_joined_all P) {k : Nat} (hk : 1 ≤ k) (k8 : k ≤ 8) {rv v2 v6 : V} {la : Nat} : ∀ (m : Nat) (f : List Nat) (ls : List (List Nat)) (fa : Nat) (e : H) (vs : List V) (v5 : V) (N : Nat), ls.length = m → m < N → JS h f ls fa la e vs →
    match jall (k - 1) m f ls with
    | some l => ∃ fa' e' v5', whileL (fun ρ h => evE true (run P (n + 3)) ρ jT h) (fun ρ h => exSs true (run P (n + 3)) jB ρ h) N (Ej k rv v2 fa la v5 v6) (h ++ e) = .ok .next (Ej k rv v2 fa' la v5' v6) (h ++ e') ∧ (h ++ e')[fa']? = some (.list (V.nats l)) ∧ h.length ≤ fa'
    | none => ∃ ρ' e', whileL (fun ρ h => evE true (run P (n + 3)) ρ jT h) (fun ρ h => exSs true (run P (n + 3)) jB ρ h) N (Ej k rv v2 fa la v5 v6) (h ++ e) = .err "NoJoin" ρ' (h ++ e')
  | m, f, ls, fa, e, vs, v5, 0, _, hN, _ => absurd hN (Nat.not_lt_zero _)
  | m, f, ls, fa, e, vs, v5, N + 1, hm, hN, s => by
    have ht : evE true (run P (n + 3)) (Ej k rv v2 fa la v5 v6) jT (h ++ e) = .ok (.bool (decide (0 < (m : Int)))) (h ++ e) := by
      unfold jT
      have := len_var (F := run P (n + 3)) (ρ := Ej k rv v2 fa la v5 v6) (i := 4) rfl (litems_ref s.lc)
      rw [s.rg.len, hm] at this
      rw [qE_13, this]; rfl
    have step : whileL (fun ρ h => evE true (run P (n + 3)) ρ jT h) (fun ρ h => exSs true (run P (n + 3)) jB ρ h) (N + 1) (Ej k rv v2 fa la v5 v6) (h ++ e) = if 0 < m then (exSs true (run P (n + 3)) jB (Ej k rv v2 fa la v5 v6) (h ++ e)).then fun ρ h' => whileL (fun ρ h => evE true (run P (n + 3)) ρ jT h) (fun ρ h => exSs true (run P (n + 3)) jB ρ h) N ρ h' else .ok .next (Ej k rv v2 fa la v5 v6) (h ++ e) := by
      show ((evE true (run P (n + 3)) (Ej k rv v2 fa la v5 v6) jT (h ++ e)).st _ _) = _
      rw [ht]
      by_cases h0 : 0 < m
      · rw [if_pos h0, decide_eq_true (Int.natCast_pos.2 h0)]; rfl
      · rw [if_neg h0, decide_eq_false (fun x => h0 (Int.natCast_pos.1 x))]; rfl
    rw [step]
    cases m with
    | zero => exact ⟨fa, e, v5, rfl, s.fc, s.fo⟩
    | succ m =>
      rw [if_pos (Nat.succ_pos m), jall]
      cases hf : fj f ls (k - 1) with
      | none =>
        obtain ⟨ρ', e1⟩ := j_none (n := n) (rv := rv) (v2 := v2) (v5 := v5) (v6 := v6) u s hk k8 hf
        exact ⟨ρ', e, by rw [e1]; rfl⟩
      | some q =>
        obtain ⟨i, p, a⟩ := q
        obtain ⟨fa', e', vs', v5', e1, s'⟩ := j_some (n := n) (rv := rv) (v2 := v2) (v5 := v5) (v6 := v6) u s hk k8 hf
        rw [e1, RS.then_next]
        exact j_loop u hk k8 m _ _ fa' e' vs' v5' N (by rw [List.length_eraseIdx, if_pos (fj_lt hf).1, hm]; rfl) (Nat.lt_of_succ_lt_succ hN) s'
end
end L05
end Mine

namespace Mine
namespace L05
section
variable {P : Tab} {n : Nat} {h : H}

theorem lst_evE {F : Fn} {ρ : List V} {e : PE} {v : V} {vs : List V} (ee : evE true F ρ e h = .ok v h) (hl : litems h v = some vs) : evE true F ρ (.bf .list e) h = .ok (.lst vs) h := by
  rw [b_bf (f := .list) rfl, ee, R.bind_ok]
  rcases litems_cases hl with rfl | ⟨i, rfl, hc⟩
  · rfl
  · show R.opt (Option.map _ (match h[i]? with | some (.list vs) => some vs | _ => Option.none)) h = _
    rw [hc]; rfl
theorem slc1 (vs : List V) (h0 : 0 < vs.length) : slc vs (some 1) Option.none = vs.drop 1 := by
  show (vs.take vs.length).drop (if (1 : Int) < 0 then _ else min (1 : Int).toNat vs.length) = _
  rw [List.take_length, if_neg (by decide)]
  show vs.drop (min 1 vs.length) = _
  rw [Nat.min_eq_left h0]

/-- the thing is a list with something in it -/
noncomputable def lB (h : H) (v : V) : Bool := match litems h v with | some vs => !vs.isEmpty | none => false
theorem j_cond {F : Fn} {ρ : List V} {rv : V} (e1 : ρ[1]? = some rv) (hr : okV h rv) : evE true F ρ (.or [.not (.isinst (.var 1) [.list]), .cmp .eq (.bf .len (.var 1)) (.int 0)]) h = .ok (.bool (!lB h rv)) h := by
  have v1 := v_at (q := true) (F := F) (h := h) e1 hr.val
  unfold lB
  rw [qE_11, qR_3, qE_9, qE_21, v1, R.bind_ok]
  cases hl : litems h rv with
  | none => rw [show isTys h rv [.list] = some false by unfold isTys; rw [notList_of hr hl]; rfl]; rfl
  | some vs =>
    rw [show isTys h rv [.list] = some true by unfold isTys; rw [isList_of hl]]
    show evE true F ρ (.cmp .eq (.bf .len (.var 1)) (.int 0)) h = _
    refine (c_eqI (y := 0) (len_var e1 hl) rfl).trans ?_
    cases vs with
    | nil => rfl
    | cons v vs => rw [decide_eq_false (by rw [List.length_cons]; exact Int.natCast_ne_zero.2 (Nat.succ_ne_zero _))]; rfl

noncomputable abbrev Ez (z rv : V) : List V := [z, rv, .undef, .undef, .undef, .undef, .undef]
theorem joined_size (u : U_joined_all P) {z rv : V} (hz : okV h z) (e : among z 1 8 = false) : run P (n + 4) true "joined_all" [z, rv] h = .err "BadSize" h := by
  refine start u.self rfl (ρ := Ez z rv) rfl (o_exprE ?_)
  rw [n_size (n := n + 1) u.need_size rfl hz, e]; rfl
theorem joined_no (u : U_joined_all P) {z rv : V} (hz : okV h z) (e : among z 1 8 = true) (hr : okV h rv) (hb : lB h rv = false) : run P (n + 4) true "joined_all" [z, rv] h = .err "BadRing" h := by
  refine start u.self rfl (ρ := Ez z rv) rfl (o_expr (h' := h) ?_ (o_ifT (h' := h) ?_ rfl))
  · rw [n_size (n := n + 1) u.need_size rfl hz, e]; rfl
  · rw [j_cond rfl hr, hb]; rfl
/-- through the rings -/
theorem j_each (u : U_joined_all P) {z rv : V} {vs : List V} (hz : okV h z) (e : among z 1 8 = true) (hl : litems h rv = some vs) (h0 : 0 < vs.length) (hi : ∀ v ∈ vs, okI h v) {r : R V} (hk : (∀ v ∈ vs, ringB h v = true) → ∀ w, (exSs true (run P (n + 3)) (D_joined_all.body.drop 3) [z, rv, w, .undef, .undef, .undef, .undef] h).out = r) (hb : (∃ v ∈ vs, ringB h v = false) → r = .err "BadRing" h) :
    run P (n + 4) true "joined_all" [z, rv] h = r := by
  have hr : okV h rv := okV_of hl
  refine start u.self rfl (ρ := Ez z rv) rfl (o_expr (h' := h) ?_ (o_ifF (h' := h) ?_ ?_))
  · rw [n_size (n := n + 1) u.need_size rfl hz, e]; rfl
  · rw [j_cond rfl hr]
    unfold lB
    rw [hl]
    cases vs with
    | nil => exact absurd h0 (Nat.lt_irrefl _)
    | cons v vs => rfl
  · obtain ⟨t, ht, hto⟩ := iter_of hl
    have hit : evIt true (run P (n + 3)) (Ez z rv) (.seq (.var 1)) h = .ok (vs.map id, t) h := by
      rw [qI_1, v_at (v := rv) rfl hr.val, R.bind_ok, ht, List.map_id]; rfl
    have ec : ∀ v ∈ vs, evE true (run P (n + 3)) [z, rv, v, .undef, .undef, .undef, .undef] (.call false "need_ring" [.glob "MOST_SIGNS" 9, .var 2]) h = if ringB h v then .ok .none h else .err "BadRing" h := fun v hv => n_ring (n := n + 1) u.need_ring rfl (hi v hv)
    show (exSs true (run P (n + 3)) (.for1 2 (.seq (.var 1)) [.expr (.call false "need_ring" [.glob "MOST_SIGNS" 9, .var 2])] :: D_joined_all.body.drop 3) _ h).out = r
    refine o_each (w₀ := .undef) (fun v => ringB h v) hit hto rfl ?_ hk ?_
    · intro v hv hb
      show exSs true (run P (n + 3)) [.expr _] [z, rv, v, .undef, .undef, .undef, .undef] h = _
      rw [ss_cons', qS_1, ec v hv, hb]; rfl
    · intro p v q' e hp hb' k
      have hv : v ∈ vs := by rw [e]; exact List.mem_append_right _ (List.mem_cons_self ..)
      show ((exSs true (run P (n + 3)) [.expr _] [z, rv, v, .undef, .undef, .undef, .undef] h).then k).out = _
      rw [ss_cons', qS_1, ec v hv, hb', hb ⟨v, hv, hb'⟩]; rfl
/-- all are rings -/
theorem j_pass (u : U_joined_all P) {z rv : V} {vs : List V} (hz : okV h z) (e : among z 1 8 = true) (hl : litems h rv = some vs) (h0 : 0 < vs.length) (hi : ∀ v ∈ vs, okI h v) (all : ∀ v ∈ vs, ringB h v = true) :
    ∃ w, ∀ r, (exSs true (run P (n + 3)) (D_joined_all.body.drop 3) [z, rv, w, .undef, .undef, .undef, .undef] h).out = r → run P (n + 4) true "joined_all" [z, rv] h = r := by
  have hr : okV h rv := okV_of hl
  obtain ⟨t, ht, hto⟩ := iter_of hl
  have hit : evIt true (run P (n + 3)) (Ez z rv) (.seq (.var 1)) h = .ok (vs.map id, t) h := by
    rw [qI_1, v_at (v := rv) rfl hr.val, R.bind_ok, ht, List.map_id]; rfl
  have L := forL_R (h := h) (t := t) (bi := bind1 2) (body := fun ρ h => exSs true (run P (n + 3)) [.expr (.call false "need_ring" [.glob "MOST_SIGNS" 9, .var 2])] ρ h) (fun v : V => id v) (fun _ => none) (fun ρ => ∃ w, ρ = [z, rv, w, .undef, .undef, .undef, .undef]) hto vs (fun v hv ρ hρ => by
    obtain ⟨w, rfl⟩ := hρ
    refine ⟨[z, rv, v, .undef, .undef, .undef, .undef], rfl, .inl ⟨rfl, _, ?_, v, rfl⟩⟩
    have ec : evE true (run P (n + 3)) [z, rv, v, .undef, .undef, .undef, .undef] (.call false "need_ring" [.glob "MOST_SIGNS" 9, .var 2]) h = if ringB h v then .ok .none h else .err "BadRing" h := n_ring (n := n + 1) u.need_ring rfl (hi v hv)
    rw [ss_cons', qS_1, ec, all v hv]; rfl) (Ez z rv) ⟨_, rfl⟩
  have hno : vs.findSome? (fun _ : V => (none : Option V)) = none := List.findSome?_eq_none_iff.2 fun _ _ => rfl
  rw [hno] at L
  rcases L with ⟨_, _, e1, w, rfl⟩ | ⟨_, _, e1, _⟩
  · refine ⟨w, fun r hk => ?_⟩
    refine start u.self rfl (ρ := Ez z rv) rfl (o_expr (h' := h) ?_ (o_ifF (h' := h) ?_ ?_))
    · rw [n_size (n := n + 1) u.need_size rfl hz, e]; rfl
    · rw [j_cond rfl hr]
      unfold lB
      rw [hl]
      cases vs with
      | nil => exact absurd h0 (Nat.lt_irrefl _)
      | cons v vs => rfl
    · show (exSs true (run P (n + 3)) (.for1 2 (.seq (.var 1)) [.expr (.call false "need_ring" [.glob "MOST_SIGNS" 9, .var 2])] :: D_joined_all.body.drop 3) _ h).out = r
      rw [ss_cons', s_for1', if_neg (by decide), hit, R.st_ok]
      show (RS.then (forL t (bind1 2) _ (vs.map fun v => id v) _ h) _).out = r
      rw [e1]; exact hk
  · cases e1
theorem joined_bad (u : U_joined_all P) {z rv : V} {vs : List V} (hz : okV h z) (e : among z 1 8 = true) (hl : litems h rv = some vs) (hi : ∀ v ∈ vs, okI h v) {v : V} (hv : v ∈ vs) (hb : ringB h v = false) : run P (n + 4) true "joined_all" [z, rv] h = .err "BadRing" h :=
  j_each u hz e hl (List.length_pos_of_mem hv) hi (fun all => absurd ((all v hv).symm.trans hb) (by decide)) fun _ => rfl

theorem zi_sum (l : List Nat) : (zi l).sum = ((l.sum : Nat) : Int) := by
  induction l with
  | nil => rfl
  | cons a l ih =>
    show ((a : Int) :: zi l).sum = _
    rw [List.sum_cons, ih, List.sum_cons, Int.natCast_add]
theorem joined_ok (u : U_joined_all P) {rv : V} {vs : List V} {l0 : List Nat} {ls : List (List Nat)} {k : Nat} (hk : 1 ≤ k) (k8 : k ≤ 8) (hl : litems h rv = some vs) (r : Rg h vs (l0 :: ls)) (h9 : ∀ l ∈ l0 :: ls, ∀ d ∈ l, d < 9) (hs : tot (l0 :: ls) ≤ 256) :
    match jall (k - 1) ls.length l0 ls with
    | some l => ∃ a e, run P (n + 4) true "joined_all" [.int k, rv] h = .ok (.ref a) (h ++ e) ∧ (h ++ e)[a]? = some (.list (V.nats l)) ∧ h.length ≤ a
    | none => ∃ e, run P (n + 4) true "joined_all" [.int k, rv] h = .err "NoJoin" (h ++ e) := by
  have hn : (l0 :: ls).length ≤ tot (l0 :: ls) := by
    have : ∀ xs : List V, ∀ ys, Rg h xs ys → ys.length ≤ tot ys := fun xs ys r => by
      induction r with
      | nil => exact Nat.le_refl _
      | cons _ h0 _ _ ih => rw [List.length_cons, tot, List.map_cons, List.sum_cons, Nat.add_comm]; exact Nat.add_le_add h0 ih
    exact this _ _ r
  have each : ∀ v ∈ vs, ∃ l ∈ l0 :: ls, IsL h v l ∧ 0 < l.length ∧ l.length ≤ 256 := by
    clear hs hn hl h9
    generalize l0 :: ls = L at r
    induction r with
    | nil => exact fun _ x => nomatch x
    | cons a b c _ ih =>
      intro v hv
      rcases List.mem_cons.1 hv with rfl | hv
      · exact ⟨_, List.mem_cons_self .., a, b, c⟩
      · obtain ⟨l, m, x⟩ := ih v hv
        exact ⟨l, List.mem_cons_of_mem _ m, x⟩
  have hi : ∀ v ∈ vs, okI h v := fun v hv => let ⟨l, _, a, _⟩ := each v hv; IsL.okI a
  have hr : ∀ v ∈ vs, ringB h v = true := fun v hv => let ⟨l, m, a, b, c⟩ := each v hv; ringB_L a b c (h9 l m)
  have h0 : 0 < vs.length := by rw [r.len]; exact Nat.succ_pos _
  obtain ⟨v0, vs', rfl, i0, f0, b0, rt⟩ : ∃ v0 vs', vs = v0 :: vs' ∧ IsL h v0 l0 ∧ 0 < l0.length ∧ l0.length ≤ 256 ∧ Rg h vs' ls := by
    cases r with
    | cons a b c d => exact ⟨_, _, rfl, a, b, c, d⟩
  have S : JS h l0 ls h.length (h.length + 1) [.list (V.nats l0), .list vs'] vs' := by
    refine ⟨?_, ?_, Nat.ne_of_lt (Nat.lt_succ_self _), Nat.le_succ _, Nat.le_refl _, rt, f0, hs⟩
    · rw [List.getElem?_append_right (Nat.le_refl _), Nat.sub_self]; rfl
    · rw [List.getElem?_append_right (Nat.le_add_right _ 1), Nat.add_sub_cancel_left]; rfl
  have lt : ls.length < turns := lt_turns (Nat.le_trans (Nat.le_trans (Nat.le_succ _) hn) (Nat.le_trans hs (by decide)))
  obtain ⟨w, pass⟩ := j_pass (n := n) u (z := .int k) trivial (am_size hk k8) hl h0 hi hr
  have go : ∀ {res : R V}, (exSs true (run P (n + 3)) [.while jT jB, .ret (.var 3)] (Ej k rv w h.length (h.length + 1) .undef .undef) (h ++ [.list (V.nats l0), .list vs'])).out = res → run P (n + 4) true "joined_all" [.int k, rv] h = res := by
    intro res hres
    refine pass _ ?_
    obtain ⟨t, ht, hto⟩ := iter_of hl
    have hval : rv.val := (okV_of hl).val
    have ec : evE true (run P (n + 3)) [.int k, rv, w, .undef, .undef, .undef, .undef] (.comp (.bf .len (.var 6)) 6 (.seq (.var 1)) .none) h = .ok (.lst (V.nats ((l0 :: ls).map List.length))) h := by
      have hit : evIt true (run P (n + 3)) [.int k, rv, w, .undef, .undef, .undef, .undef] (.seq (.var 1)) h = .ok ((v0 :: vs').map id, t) h := by
        rw [qI_1, v_at (v := rv) rfl hval, R.bind_ok, ht, List.map_id]; rfl
      refine ev_comp hit hto (fun v => .int ((litems h v).getD []).length) (fun v hv => ?_) ?_
      · obtain ⟨l, _, a, _⟩ := each v hv
        have a' : litems h v = some (V.nats l) := a
        show evE true (run P (n + 3)) [.int k, rv, w, .undef, .undef, .undef, v] _ h = _
        rw [len_var rfl a, a']; rfl
      · have : ((v0 :: vs').map fun v => V.int ((litems h v).getD []).length) = V.nats ((l0 :: ls).map List.length) := by
          clear hs hn hl h9 each hi hr h0 i0 f0 b0 rt S hres ht hto hit
          generalize v0 :: vs' = W at r
          generalize l0 :: ls = L at r
          induction r with
          | nil => rfl
          | cons a _ _ _ ih =>
            rw [List.map_cons, List.map_cons, nats_cons, ih]
            have a' : litems h _ = some (V.nats _) := a
            rw [a', Option.getD_some, nats_length]
        rw [this, mkL_eq (by rw [nats_length, List.length_map]; exact Nat.le_trans hn (Nat.le_trans hs (by decide)))]
    have es : evE true (run P (n + 3)) [.int k, rv, w, .undef, .undef, .undef, .undef] (.bf .sum (.comp (.bf .len (.var 6)) 6 (.seq (.var 1)) .none)) h = .ok (.int (tot (l0 :: ls))) h := by
      rw [b_bf (f := .sum) rfl, ec, R.bind_ok]
      show R.opt ((asInts (V.nats ((l0 :: ls).map List.length))).bind sumI) h = _
      rw [asInts_nats]
      show R.opt (sumI (zi ((l0 :: ls).map List.length))) h = _
      have ok : (zi ((l0 :: ls).map List.length)).length ≤ 1000 ∧ ∀ i ∈ zi ((l0 :: ls).map List.length), 0 ≤ i ∧ i ≤ 1000000 := by
        refine ⟨?_, fun i hi => ?_⟩
        · unfold zi; rw [List.length_map, List.length_map]; exact Nat.le_trans hn (Nat.le_trans hs (by decide))
        · obtain ⟨d, hd, rfl⟩ := List.mem_map.1 hi
          obtain ⟨l, hm, rfl⟩ := List.mem_map.1 hd
          have : ∀ xs : List V, ∀ ys, Rg h xs ys → ∀ l ∈ ys, l.length ≤ 256 := fun xs ys r => by
            induction r with
            | nil => exact fun _ x => nomatch x
            | cons _ _ c _ ih =>
              intro l hl
              rcases List.mem_cons.1 hl with rfl | hl
              · exact c
              · exact ih l hl
          have := this _ _ r l hm
          exact ⟨Int.natCast_nonneg _, Int.ofNat_le.2 (Nat.le_trans this (by decide))⟩
      unfold sumI
      rw [if_pos ok, zi_sum]; rfl
    refine o_ifF (h' := h) ?_ ?_
    · rw [qE_13, es, R.bind_ok, qE_6, R.bind_ok]
      show R.opt (Option.map V.bool (pyCmp .gt h (.int (tot (l0 :: ls))) (.int 256))) h = _
      rw [cmp_gt_int, decide_eq_false (p := (256 : Int) < ((tot (l0 :: ls) : Nat) : Int)) (Int.not_lt.2 (Int.ofNat_le.2 hs))]; rfl
    · have ei : evE true (run P (n + 3)) [.int k, rv, w, .undef, .undef, .undef, .undef] (.idx (.var 1) (.int 0)) h = .ok v0 h := e_idx (j := 0) (v_at rfl hval) hl rfl
      refine o_asg (own_ev (lst_evE ei i0)) (ρ' := [.int k, rv, w, .ref h.length, .undef, .undef, .undef]) rfl ?_
      have hl' : litems (h ++ [.list (V.nats l0)]) rv = some (v0 :: vs') := litems_app hl _
      have es1 : evE true (run P (n + 3)) [.int k, rv, w, .ref h.length, .undef, .undef, .undef] (.slice (.var 1) (some (.int 1)) .none) (h ++ [.list (V.nats l0)]) = .ok (.lst vs') (h ++ [.list (V.nats l0)]) := by
        rw [qE_19, v_at (v := rv) rfl hval, R.bind_ok, qO_2, qE_3, R.bind_ok, R.bind_ok, qO_1, R.bind_ok]
        show R.opt ((litems (h ++ [Cell.list (V.nats l0)]) rv).map fun vs => V.lst (slc vs (some 1) Option.none)) _ = _
        rw [hl', Option.map_some, slc1 (v0 :: vs') (Nat.succ_pos _)]; rfl
      refine o_asg (own_ev (lst_evE es1 rfl)) (ρ' := Ej k rv w h.length (h.length + 1) .undef .undef) (by rw [List.length_append]; rfl) ?_
      rw [List.append_assoc]
      exact hres
  have L := j_loop (n := n) (h := h) (rv := rv) (v2 := w) (v6 := .undef) (la := h.length + 1) u hk k8 ls.length l0 ls h.length [.list (V.nats l0), .list vs'] vs' .undef turns rfl lt S
  have wh : exSs true (run P (n + 3)) [.while jT jB, .ret (.var 3)] (Ej k rv w h.length (h.length + 1) .undef .undef) (h ++ [.list (V.nats l0), .list vs']) = (whileL (fun ρ h => evE true (run P (n + 3)) ρ jT h) (fun ρ h => exSs true (run P (n + 3)) jB ρ h) turns (Ej k rv w h.length (h.length + 1) .undef .undef) (h ++ [.list (V.nats l0), .list vs'])).then fun ρ h => exSs true (run P (n + 3)) [.ret (.var 3)] ρ h := by
    rw [ss_cons', qS_10, if_neg (by decide)]
  cases hj : jall (k - 1) ls.length l0 ls with
  | none =>
    rw [hj] at L
    obtain ⟨ρ', e, L⟩ := L
    exact ⟨e, go (by rw [wh, L]; rfl)⟩
  | some l =>
    rw [hj] at L
    obtain ⟨fa', e', v5', L, hc⟩ := L
    exact ⟨fa', e', go (by rw [wh, L]; rfl), hc⟩
end
end L05
end Mine

namespace Mine
namespace L05
section
variable {P : Tab} {n : Nat} {h : H}

theorem asked_ok (u : UL_asked P) {z rv v : V} {h' : H} (hz : z.val) (hr : rv.val) (e : run P (n + 4) true "joined_all" [z, rv] h = .ok v h') : run P (n + 5) true "_law_asked" [z, rv] h = .ok v h' := by
  refine start u.self rfl (ρ := [z, rv, .undef]) rfl ?_
  have args : evEs true (run P (n + 4)) [z, rv, .undef] [.var 0, .var 1] h = .ok [z, rv] h := es_cons (v_at rfl hz) (es_cons (v_at rfl hr) rfl)
  have hb : exSs true (run P (n + 4)) [.ret (.call true "joined_all" [.var 0, .var 1])] [z, rv, .undef] h = .ok (.ret v) [z, rv, .undef] h' := by
    rw [ss_cons', qS_6, qE_27, args, R.bind_ok]
    show (((run P (n + 4) true "joined_all" [z, rv] h).st _ _).then _) = _
    rw [e]; rfl
  show (exSs true (run P (n + 4)) [.try [.ret (.call true "joined_all" [.var 0, .var 1])] "RingError" 2 [.ret (.callX "_law_classes" 2)]] _ h).out = _
  rw [ss_cons', qS_12, if_neg (by decide), hb]; rfl
theorem asked_err (u : UL_asked P) {z rv : V} {h' : H} {c : String} (hz : z.val) (hr : rv.val) (hc : c ∈ ["BadSize", "BadWord", "BadBook", "BadRing", "NoWord", "NoRing", "NoJoin"]) (e : run P (n + 4) true "joined_all" [z, rv] h = .err c h') : run P (n + 5) true "_law_asked" [z, rv] h = .ok (.tup [.int (codeOf c)]) h' := by
  refine start u.self rfl (ρ := [z, rv, .undef]) rfl ?_
  have args : evEs true (run P (n + 4)) [z, rv, .undef] [.var 0, .var 1] h = .ok [z, rv] h := es_cons (v_at rfl hz) (es_cons (v_at rfl hr) rfl)
  have hb : exSs true (run P (n + 4)) [.ret (.call true "joined_all" [.var 0, .var 1])] [z, rv, .undef] h = .err c [z, rv, .undef] h' := by
    rw [ss_cons', qS_6, qE_27, args, R.bind_ok]
    show (((run P (n + 4) true "joined_all" [z, rv] h).st _ _).then _) = _
    rw [e]; rfl
  have hx : c ∈ excNames := List.mem_cons_of_mem _ hc
  have hcl : pcall h' (run P (n + 4) false "_law_classes" [.exc c] h') = .ok (.tup [.int (codeOf c)]) h' := by rw [classes_eq u.l_classes (n + 3) false c hc h', pcall_ok rfl]
  show (exSs true (run P (n + 4)) [.try [.ret (.call true "joined_all" [.var 0, .var 1])] "RingError" 2 [.ret (.callX "_law_classes" 2)]] _ h).out = _
  rw [ss_cons', qS_12, if_neg (by decide), hb]
  show (RS.then (if (excNames.contains c && "RingError" == "RingError") = true then _ else _) _).out = _
  rw [if_pos (by simp [hx])]
  show (RS.then (match (RS.then (R.st (pcall h' (run P (n + 4) false "_law_classes" [.exc c] h')) _ _) _) with | .ok f ρ h => _ | .err _ _ _ => _ | .bad => _) _).out = _
  rw [hcl]; rfl

theorem fs_isSome {α β : Type} (g : α → Option β) : ∀ l : List α, l.findSome? (fun i => (g i).map fun q => (i, q)) = (l.find? fun i => (g i).isSome).bind fun i => (g i).map fun q => (i, q)
  | [] => rfl
  | a :: l => by
    rw [List.findSome?_cons, List.find?_cons]
    cases e : g a with
    | none => exact fs_isSome g l
    | some b =>
      show some (a, b) = (g a).map _
      rw [e]; rfl
noncomputable def idx (f : List Nat) (ls : List (List Nat)) (z : Nat) : List Nat := (List.range ls.length).filter fun i => (mt f (ls.getD i []) z).isSome
theorem idx_none {f : List Nat} {ls : List (List Nat)} {z : Nat} (e : fj f ls z = none) : idx f ls z = [] := by
  unfold idx
  refine List.filter_eq_nil_iff.2 fun i hi hs => ?_
  unfold fj at e
  have := List.findSome?_eq_none_iff.1 e i hi
  rw [Option.map_eq_none_iff] at this
  rw [this] at hs; cases hs
theorem idx_some {f : List Nat} {ls : List (List Nat)} {z i p a : Nat} (e : fj f ls z = some (i, p, a)) : ∃ rest, idx f ls z = i :: rest := by
  unfold fj at e
  rw [fs_isSome (fun i => mt f (ls.getD i []) z)] at e
  obtain ⟨j, hj, e⟩ := Option.bind_eq_some_iff.1 e
  obtain ⟨q, _, e⟩ := Option.map_eq_some_iff.1 e
  cases e
  unfold idx
  rw [← List.head?_filter] at hj
  cases hf : (List.range ls.length).filter fun i => (mt f (ls.getD i []) z).isSome with
  | nil => rw [hf] at hj; cases hj
  | cons b rest => rw [hf] at hj; cases hj; exact ⟨rest, rfl⟩
end
end L05
end Mine

namespace Mine
namespace L05
section
variable {P : Tab} {n : Nat} {h : H}

noncomputable def dT : PE := .cmp .ne (.var 3) (.list [])
noncomputable def dC : PE := .comp (.var 5) 5 (.range1 (.bf .len (.var 3))) (some (.cmp .isNot (.call false "_law_two" [.var 0, .var 2, .idx (.var 3) (.var 5)]) .none))
noncomputable def dB : List PS := [
    .asg 4 dC,
    .ifs (.cmp .eq (.var 4) (.list [])) [
      .ret (.tup [.int 6])] [],
    .asg 2 (.call false "_law_two" [.var 0, .var 2, .idx (.var 3) (.idx (.var 4) (.int 0))]),
    .asg 3 (.bin .add (.slice (.var 3) .none (some (.idx (.var 4) (.int 0)))) (.slice (.var 3) (some (.bin .add (.idx (.var 4) (.int 0)) (.int 1))) .none))]
noncomputable abbrev Ed (k : Nat) (rv : V) (f : List Nat) (ls : List (List Nat)) (v4 : V) : List V := [.int k, rv, .lst (V.nats f), .lst (V.lists ls), v4, .undef]

/-- rings with their bounds -/
structure DS (f : List Nat) (ls : List (List Nat)) : Prop where
  f0 : 0 < f.length
  l0 : ∀ l ∈ ls, 0 < l.length
  sum : f.length + tot ls ≤ 256
theorem tot_mem : ∀ {ls : List (List Nat)} {l : List Nat}, l ∈ ls → l.length ≤ tot ls
  | _ :: ls, l, h => by
    rw [tot, List.map_cons, List.sum_cons]
    rcases List.mem_cons.1 h with rfl | h
    · exact Nat.le_add_right _ _
    · exact Nat.le_trans (tot_mem h) (Nat.le_add_left _ _)
theorem tot_len : ∀ {ls : List (List Nat)}, (∀ l ∈ ls, 0 < l.length) → ls.length ≤ tot ls
  | [], _ => Nat.le_refl _
  | l :: ls, h => by
    rw [tot, List.map_cons, List.sum_cons, List.length_cons, Nat.add_comm]
    exact Nat.add_le_add (h l (List.mem_cons_self ..)) (tot_len fun l hl => h l (List.mem_cons_of_mem _ hl))
theorem getD_mem {ls : List (List Nat)} {i : Nat} (hi : i < ls.length) : ls.getD i [] ∈ ls := by
  rw [List.getD_eq_getElem?_getD, List.getElem?_eq_getElem hi]; exact List.getElem_mem hi
theorem lists_get {ls : List (List Nat)} {i : Nat} (hi : i < ls.length) : (V.lists ls)[i]? = some (.lst (V.nats (ls.getD i []))) := by
  rw [V.lists, List.getElem?_map, List.getD_eq_getElem?_getD, List.getElem?_eq_getElem hi]; rfl
theorem lists_len (ls : List (List Nat)) : (V.lists ls).length = ls.length := by rw [V.lists, List.length_map]

section
variable (u : UL_due P) {f : List Nat} {ls : List (List Nat)} {k : Nat} {rv v4 : V} (s : DS f ls) (hk : 1 ≤ k) (k8 : k ≤ 8)
include u s hk k8
theorem d_two {ρ : List V} {e : PE} {i : Nat} (e0 : ρ[0]? = some (.int k)) (e2 : ρ[2]? = some (.lst (V.nats f))) (e3 : ρ[3]? = some (.lst (V.lists ls))) (ee : evE true (run P (n + 2)) ρ e h = .ok (.int i) h) (hi : i < ls.length) :
    evE true (run P (n + 2)) ρ (.call false "_law_two" [.var 0, .var 2, .idx (.var 3) e]) h = .ok (twV f (ls.getD i []) (mt f (ls.getD i []) (k - 1))) h := by
  have hm := getD_mem hi
  have b := Nat.le_trans (tot_mem hm) (Nat.le_trans (Nat.le_add_left _ _) s.sum)
  refine call_3 (v_at e0 trivial) (v_at e2 trivial) (w := .lst (V.nats f)) (x := .lst (V.nats (ls.getD i []))) ?_ ?_
  · rw [qE_18, v_at e3 trivial, R.bind_ok, ee, R.bind_ok, idx_of (h := h) rfl (lists_get hi)]; rfl
  · rw [two_run (n := n) u.l_two (IsL.lst h f) (IsL.lst h _) s.f0 (s.l0 _ hm) (Nat.le_trans (Nat.le_add_right _ _) (Nat.le_trans s.sum (by decide))) (Nat.le_trans b (by decide)) hk k8]
    refine pcall_ok ?_ h
    cases mt f (ls.getD i []) (k - 1) with
    | none => rfl
    | some q => exact nats_plain _
theorem d_comp : evE true (run P (n + 2)) (Ed k rv f ls v4) dC h = .ok (.lst (V.nats (idx f ls (k - 1)))) h := by
  have hlen : ls.length ≤ 1000000 := Nat.le_trans (tot_len s.l0) (Nat.le_trans (Nat.le_add_left _ _) (Nat.le_trans s.sum (by decide)))
  have hit : evIt true (run P (n + 2)) (Ed k rv f ls v4) (.range1 (.bf .len (.var 3))) h = .ok ((List.range ls.length).map (fun i : Nat => V.int i), Option.none) h := it_rng (by rw [len_var (w := .lst (V.lists ls)) rfl rfl, lists_len]) hlen
  refine ev_compF hit rfl (fun i : Nat => V.int i) (fun i => (mt f (ls.getD i []) (k - 1)).isSome) (fun i hi => ?_) (fun i _ _ => rfl) ?_
  · have ec := d_two (n := n) (h := h) (ρ := [.int k, rv, .lst (V.nats f), .lst (V.lists ls), v4, .int i]) (e := .var 5) u s hk k8 rfl rfl rfl rfl (List.mem_range.1 hi)
    show evE true (run P (n + 2)) [.int k, rv, .lst (V.nats f), .lst (V.lists ls), v4, .int i] _ h = _
    rw [qE_13, ec]
    cases mt f (ls.getD i []) (k - 1) <;> rfl
  · exact mkL_eq (by rw [List.length_map]; exact Nat.le_trans (List.length_filter_le _ _) (by rw [List.length_range]; exact hlen))
theorem d_none (hf : fj f ls (k - 1) = none) : exSs true (run P (n + 2)) dB (Ed k rv f ls v4) h = .ok (.ret (.tup [.int 6])) (Ed k rv f ls (.lst [])) h := by
  have e := d_comp (n := n) (h := h) (rv := rv) (v4 := v4) u s hk k8
  rw [idx_none hf] at e
  unfold dB
  rw [ss_cons', qS_2, e, R.st_ok, RS.then_next]
  show exSs true (run P (n + 2)) (.ifs _ _ _ :: _) (Ed k rv f ls (.lst [])) h = _
  have c : evE true (run P (n + 2)) (Ed k rv f ls (.lst [])) (.cmp .eq (.var 4) (.list [])) h = .ok (.bool true) h := e_eq (v := .lst (V.nats [])) (w := .lst (V.nats [])) rfl rfl (by rw [pyEq_L (IsL.lst h []) (IsL.lst h []), decide_eq_true rfl])
  rw [ss_cons', qS_7, c]; rfl
theorem d_some {i p a : Nat} (hf : fj f ls (k - 1) = some (i, p, a)) : ∃ v, exSs true (run P (n + 2)) dB (Ed k rv f ls v4) h = .ok .next (Ed k rv (jn f (ls.getD i []) p a) (ls.eraseIdx i) v) h := by
  obtain ⟨rest, hx⟩ := idx_some hf
  obtain ⟨hi, hm⟩ := fj_lt hf
  have e := d_comp (n := n) (h := h) (rv := rv) (v4 := v4) u s hk k8
  rw [hx] at e
  refine ⟨.lst (V.nats (i :: rest)), ?_⟩
  unfold dB
  rw [ss_cons', qS_2, e, R.st_ok, RS.then_next]
  show exSs true (run P (n + 2)) (.ifs _ _ _ :: _) (Ed k rv f ls (.lst (V.nats (i :: rest)))) h = _
  have c : evE true (run P (n + 2)) (Ed k rv f ls (.lst (V.nats (i :: rest)))) (.cmp .eq (.var 4) (.list [])) h = .ok (.bool false) h := e_eq (v := .lst (V.nats (i :: rest))) (w := .lst (V.nats [])) rfl rfl (by rw [pyEq_L (IsL.lst h _) (IsL.lst h []), decide_eq_false (by simp)])
  have ei : ∀ {ρ : List V}, ρ[4]? = some (.lst (V.nats (i :: rest))) → evE true (run P (n + 2)) ρ (.idx (.var 4) (.int 0)) h = .ok (.int i) h := fun e4 => e_idx (j := 0) (v_at e4 trivial) rfl rfl
  have tw := d_two (n := n) (h := h) (ρ := Ed k rv f ls (.lst (V.nats (i :: rest)))) (e := .idx (.var 4) (.int 0)) u s hk k8 rfl rfl rfl (ei rfl) hi
  rw [hm] at tw
  rw [ss_cons', qS_7, c]
  show exSs true (run P (n + 2)) (.asg 2 _ :: _) (Ed k rv f ls (.lst (V.nats (i :: rest)))) h = _
  rw [ss_cons', qS_2, tw, R.st_ok, RS.then_next]
  show exSs true (run P (n + 2)) [.asg 3 _] [.int k, rv, .lst (V.nats (jn f (ls.getD i []) p a)), .lst (V.lists ls), .lst (V.nats (i :: rest)), .undef] h = _
  have ll : litems h (.lst (V.lists ls)) = some (V.lists ls) := rfl
  have s1 : evE true (run P (n + 2)) [.int k, rv, .lst (V.nats (jn f (ls.getD i []) p a)), .lst (V.lists ls), .lst (V.nats (i :: rest)), .undef] (.slice (.var 3) .none (some (.idx (.var 4) (.int 0)))) h = .ok (.lst ((V.lists ls).take i)) h := by
    rw [qE_19, v_at (v := .lst (V.lists ls)) rfl trivial, R.bind_ok, qO_1, R.bind_ok, qO_2, ei rfl, R.bind_ok, R.bind_ok, slice_to ll i]; rfl
  have s2 : evE true (run P (n + 2)) [.int k, rv, .lst (V.nats (jn f (ls.getD i []) p a)), .lst (V.lists ls), .lst (V.nats (i :: rest)), .undef] (.slice (.var 3) (some (.bin .add (.idx (.var 4) (.int 0)) (.int 1))) .none) h = .ok (.lst ((V.lists ls).drop (i + 1))) h := by
    rw [qE_19, v_at (v := .lst (V.lists ls)) rfl trivial, R.bind_ok, qO_2, (b_add (y := 1) (ei rfl) rfl).trans (show R.ok (V.int ((i : Int) + 1)) h = R.ok (V.int ((i + 1 : Nat) : Int)) h from rfl), R.bind_ok, R.bind_ok, qO_1, R.bind_ok, slice_from ll (i + 1)]; rfl
  have hlen : ls.length ≤ 1000 := Nat.le_trans (tot_len s.l0) (Nat.le_trans (Nat.le_add_left _ _) (Nat.le_trans s.sum (by decide)))
  have er : (V.lists ls).take i ++ (V.lists ls).drop (i + 1) = V.lists (ls.eraseIdx i) := by
    rw [List.eraseIdx_eq_take_drop_succ]; unfold V.lists; rw [List.map_append, List.map_take, List.map_drop]
  rw [ss_cons', qS_2, qE_7, s1, R.bind_ok, s2, R.bind_ok, addLL h _ _ (by rw [List.length_take, List.length_drop, lists_len]; exact le2 (Nat.le_trans (Nat.min_le_right _ _) hlen) (Nat.le_trans (Nat.sub_le _ _) hlen)), er]; rfl
end

theorem d_loop (u : UL_due P) {k : Nat} (hk : 1 ≤ k) (k8 : k ≤ 8) {rv : V} : ∀ (m : Nat) (f : List Nat) (ls : List (List Nat)) (v4 : V) (N : Nat), ls.length = m → m < N → DS f ls →
    match jall (k - 1) m f ls with
    | some l => ∃ v, whileL (fun ρ h => evE true (run P (n + 2)) ρ dT h) (fun ρ h => exSs true (run P (n + 2)) dB ρ h) N (Ed k rv f ls v4) h = .ok .next (Ed k rv l [] v) h
    | none => ∃ ρ', whileL (fun ρ h => evE true (run P (n + 2)) ρ dT h) (fun ρ h => exSs true (run P (n + 2)) dB ρ h) N (Ed k rv f ls v4) h = .ok (.ret (.tup [.int 6])) ρ' h
  | m, f, ls, v4, 0, _, hN, _ => absurd hN (Nat.not_lt_zero _)
  | m, f, ls, v4, N + 1, hm, hN, s => by
    have ht : evE true (run P (n + 2)) (Ed k rv f ls v4) dT h = .ok (.bool (!decide (ls = []))) h := by
      unfold dT
      exact e_ne (v := .lst (V.lists ls)) (w := .lst (V.lists [])) (v_at rfl trivial) rfl (pyEq_LL (frz_plain 0 h _ (lists_plain _)) (frz_plain 0 h _ (lists_plain _)))
    have step : whileL (fun ρ h => evE true (run P (n + 2)) ρ dT h) (fun ρ h => exSs true (run P (n + 2)) dB ρ h) (N + 1) (Ed k rv f ls v4) h = if ls = [] then .ok .next (Ed k rv f ls v4) h else (exSs true (run P (n + 2)) dB (Ed k rv f ls v4) h).then fun ρ h' => whileL (fun ρ h => evE true (run P (n + 2)) ρ dT h) (fun ρ h => exSs true (run P (n + 2)) dB ρ h) N ρ h' := by
      show ((evE true (run P (n + 2)) (Ed k rv f ls v4) dT h).st _ _) = _
      rw [ht]
      by_cases h0 : ls = []
      · rw [if_pos h0, decide_eq_true h0]; rfl
      · rw [if_neg h0, decide_eq_false h0]; rfl
    rw [step]
    cases m with
    | zero =>
      have : ls = [] := List.eq_nil_of_length_eq_zero hm
      subst this
      exact ⟨v4, rfl⟩
    | succ m =>
      rw [if_neg (fun q => by subst q; cases hm), jall]
      cases hf : fj f ls (k - 1) with
      | none => exact ⟨_, by rw [d_none (n := n) u s hk k8 hf]; rfl⟩
      | some q =>
        obtain ⟨i, p, a⟩ := q
        obtain ⟨v, e⟩ := d_some (n := n) (h := h) (rv := rv) (v4 := v4) u s hk k8 hf
        have hi := (fj_lt hf).1
        rw [e, RS.then_next]
        refine d_loop u hk k8 m _ _ v N (by rw [List.length_eraseIdx, if_pos hi, hm]; rfl) (Nat.lt_of_succ_lt_succ hN) ⟨by rw [jn_len]; exact Nat.lt_of_lt_of_le s.f0 (Nat.le_add_right _ _), fun l hl => s.l0 l (List.mem_of_mem_eraseIdx hl), ?_⟩
        rw [jn_len, Nat.add_assoc, tot_erase ls i hi]; exact s.sum
noncomputable def dueV : Option (List Nat) → V
  | some l => .lst (V.nats l)
  | none => .tup [.int 6]
theorem due_run (u : UL_due P) {k : Nat} (hk : 1 ≤ k) (k8 : k ≤ 8) {f : List Nat} {ls : List (List Nat)} (s : DS f ls) : pcall h (run P (n + 3) true "_law_due" [.int k, .lst (V.lists (f :: ls))] h) = .ok (dueV (jall (k - 1) ls.length f ls)) h := by
  have lt : ls.length < turns := lt_turns (Nat.le_trans (tot_len s.l0) (Nat.le_trans (Nat.le_add_left _ _) (Nat.le_trans s.sum (by decide))))
  have L := d_loop (n := n) (h := h) (rv := .lst (V.lists (f :: ls))) u hk k8 ls.length f ls .undef turns rfl lt s
  have go : run P (n + 3) true "_law_due" [.int k, .lst (V.lists (f :: ls))] h = .ok (dueV (jall (k - 1) ls.length f ls)) h := by
    refine start u.self rfl (ρ := [.int k, .lst (V.lists (f :: ls)), .undef, .undef, .undef, .undef]) rfl ?_
    refine o_asg (v := .lst (V.nats f)) (h' := h) (e_idx (j := 0) (v_at (v := .lst (V.lists (f :: ls))) rfl trivial) rfl rfl) (ρ' := [.int k, .lst (V.lists (f :: ls)), .lst (V.nats f), .undef, .undef, .undef]) rfl ?_
    have es1 : evE true (run P (n + 2)) [.int k, .lst (V.lists (f :: ls)), .lst (V.nats f), .undef, .undef, .undef] (.slice (.var 1) (some (.int 1)) .none) h = .ok (.lst (V.lists ls)) h := by
      rw [qE_19, v_at (v := .lst (V.lists (f :: ls))) rfl trivial, R.bind_ok, qO_2, qE_3, R.bind_ok, R.bind_ok, qO_1, R.bind_ok, show (1 : Int) = ((1 : Nat) : Int) from rfl, slice_from (h := h) (v := .lst (V.lists (f :: ls))) rfl 1]; rfl
    refine o_asg es1 (ρ' := Ed k (.lst (V.lists (f :: ls))) f ls .undef) rfl ?_
    show (exSs true (run P (n + 2)) [.while dT dB, .ret (.var 2)] _ h).out = _
    rw [ss_cons', qS_10, if_neg (by decide)]
    cases hj : jall (k - 1) ls.length f ls with
    | none => rw [hj] at L; obtain ⟨ρ', L⟩ := L; rw [L]; rfl
    | some l => rw [hj] at L; obtain ⟨v, L⟩ := L; rw [L]; rfl
  rw [go]
  refine pcall_ok ?_ h
  cases jall (k - 1) ls.length f ls with
  | none => rfl
  | some l => exact nats_plain l
end
end L05
end Mine

namespace Mine
namespace L05
section

theorem rotPerm {α : Type} (p q : Nat) (g : Nat → α) (hg : ∀ j, g (p + q + j) = g j) : ((List.range (p + q)).map fun i => g (p + i)).Perm ((List.range (p + q)).map g) := by
  have e1 : (List.range (p + q)).map g = (List.range p).map g ++ (List.range q).map fun i => g (p + i) := by
    rw [List.range_add, List.map_append, List.map_map]; rfl
  have e2 : ((List.range (p + q)).map fun i => g (p + i)) = ((List.range q).map fun i => g (p + i)) ++ (List.range p).map g := by
    rw [Nat.add_comm p q, List.range_add, List.map_append, List.map_map]
    congr 1
    refine List.map_congr_left fun j _ => ?_
    show g (p + (q + j)) = g j
    rw [← Nat.add_assoc, hg]
  rw [e1, e2]; exact List.perm_append_comm

theorem rd_per (l : List Nat) (k i : Nat) : rd l k (l.length + i) = rd l k i := by
  unfold rd
  refine List.map_congr_left fun t _ => ?_
  rw [Nat.add_assoc, Nat.add_mod_left]
theorem rd_getD {l : List Nat} (h0 : 0 < l.length) (p j : Nat) : (rd l l.length p).getD (j % l.length) 0 = l.getD ((p + j) % l.length) 0 := by
  have hj := Nat.mod_lt j h0
  rw [List.getD_eq_getElem?_getD]
  show ((List.map _ (List.range l.length))[j % l.length]?).getD 0 = _
  rw [List.getElem?_map, List.getElem?_range hj]
  show l.getD ((p + j % l.length) % l.length) 0 = _
  rw [Nat.add_mod_mod]
theorem rd_rot {l : List Nat} (h0 : 0 < l.length) (p k i : Nat) : rd (rd l l.length p) k i = rd l k (p + i) := by
  unfold rd
  refine List.map_congr_left fun t _ => ?_
  have := rd_getD h0 p (i + t)
  unfold rd at this
  rw [List.length_map, List.length_range, this, Nat.add_assoc]
/-- the words of a turned ring -/
theorem rws_rot {l : List Nat} {p : Nat} (hp : p < l.length) (k : Nat) : (rws (rd l l.length p) k).Perm (rws l k) := by
  have h0 : 0 < l.length := Nat.zero_lt_of_lt hp
  obtain ⟨q, hq⟩ := Nat.exists_eq_add_of_le (Nat.le_of_lt hp)
  unfold rws
  rw [rd_len]
  rw [show (List.range l.length).map (rd (rd l l.length p) k) = (List.range l.length).map fun i => rd l k (p + i) from List.map_congr_left fun i _ => rd_rot h0 p k i, hq]
  exact rotPerm p q (rd l k) fun j => by rw [← hq]; exact rd_per l k j

section
variable {x y : List Nat} {z : Nat} (hx : 0 < x.length) (hy : 0 < y.length) (H : ∀ t, t < z → x.getD (t % x.length) 0 = y.getD (t % y.length) 0)
include hx hy H
theorem cat_at : ∀ t, t < z → (x ++ y).getD (t % (x.length + y.length)) 0 = x.getD (t % x.length) 0 ∧ (x ++ y).getD ((x.length + t) % (x.length + y.length)) 0 = y.getD (t % y.length) 0 := by
  have X : ∀ t, t < x.length → (x ++ y).getD (t % (x.length + y.length)) 0 = x.getD (t % x.length) 0 := fun t ht => by
    rw [Nat.mod_eq_of_lt (Nat.lt_of_lt_of_le ht (Nat.le_add_right _ _)), Nat.mod_eq_of_lt ht, List.getD_eq_getElem?_getD, List.getElem?_append_left ht, List.getD_eq_getElem?_getD]
  have Y : ∀ t, t < y.length → (x ++ y).getD ((x.length + t) % (x.length + y.length)) 0 = y.getD (t % y.length) 0 := fun t ht => by
    rw [Nat.mod_eq_of_lt (Nat.add_lt_add_left ht _), Nat.mod_eq_of_lt ht, List.getD_eq_getElem?_getD, List.getElem?_append_right (Nat.le_add_right _ _), Nat.add_sub_cancel_left, List.getD_eq_getElem?_getD]
  intro t
  induction t using Nat.strongRecOn with
  | _ t ih =>
    intro hz
    refine ⟨?_, ?_⟩
    · rcases Nat.lt_or_ge t x.length with h | h
      · exact X t h
      · obtain ⟨t', rfl⟩ := Nat.exists_eq_add_of_le h
        have lt : t' < x.length + t' := Nat.lt_add_of_pos_left hx
        have hz' := Nat.lt_trans lt hz
        rw [(ih t' lt hz').2, ← H t' hz', Nat.add_mod_left]
    · rcases Nat.lt_or_ge t y.length with h | h
      · exact Y t h
      · obtain ⟨t', rfl⟩ := Nat.exists_eq_add_of_le h
        have lt : t' < y.length + t' := Nat.lt_add_of_pos_left hy
        have hz' := Nat.lt_trans lt hz
        rw [← Nat.add_assoc, Nat.add_mod_left, (ih t' lt hz').1, H t' hz', Nat.add_mod_left]
theorem cat_rd {k : Nat} (hk : k ≤ z + 1) : (∀ i, i < x.length → rd (x ++ y) k i = rd x k i) ∧ ∀ i, i < y.length → rd (x ++ y) k (x.length + i) = rd y k i := by
  have X : ∀ t, t < x.length → (x ++ y).getD (t % (x.length + y.length)) 0 = x.getD (t % x.length) 0 := fun t ht => by
    rw [Nat.mod_eq_of_lt (Nat.lt_of_lt_of_le ht (Nat.le_add_right _ _)), Nat.mod_eq_of_lt ht, List.getD_eq_getElem?_getD, List.getElem?_append_left ht, List.getD_eq_getElem?_getD]
  have Y : ∀ t, t < y.length → (x ++ y).getD ((x.length + t) % (x.length + y.length)) 0 = y.getD (t % y.length) 0 := fun t ht => by
    rw [Nat.mod_eq_of_lt (Nat.add_lt_add_left ht _), Nat.mod_eq_of_lt ht, List.getD_eq_getElem?_getD, List.getElem?_append_right (Nat.le_add_right _ _), Nat.add_sub_cancel_left, List.getD_eq_getElem?_getD]
  have C := cat_at hx hy H
  refine ⟨fun i hi => ?_, fun i hi => ?_⟩
  · unfold rd
    refine List.map_congr_left fun s hs => ?_
    have hs := List.mem_range.1 hs
    rw [List.length_append]
    rcases Nat.lt_or_ge (i + s) x.length with h | h
    · exact X _ h
    · obtain ⟨t, ht⟩ := Nat.exists_eq_add_of_le h
      have tz : t < z := by omega
      rw [ht, (C t tz).2, Nat.add_mod_left, H t tz]
  · unfold rd
    refine List.map_congr_left fun s hs => ?_
    have hs := List.mem_range.1 hs
    rw [List.length_append, Nat.add_assoc]
    rcases Nat.lt_or_ge (i + s) y.length with h | h
    · exact Y _ h
    · obtain ⟨t, ht⟩ := Nat.exists_eq_add_of_le h
      have tz : t < z := by omega
      rw [ht, ← Nat.add_assoc, Nat.add_mod_left, (C t tz).1, Nat.add_mod_left, H t tz]
theorem cat_rws {k : Nat} (hk : k ≤ z + 1) : rws (x ++ y) k = rws x k ++ rws y k := by
  obtain ⟨a, b⟩ := cat_rd hx hy H hk
  unfold rws
  rw [List.length_append, List.range_add, List.map_append, List.map_map]
  congr 1
  · exact List.map_congr_left fun i hi => a i (List.mem_range.1 hi)
  · exact List.map_congr_left fun i hi => b i (List.mem_range.1 hi)
end

theorem jn_words {l1 l2 : List Nat} {k p a : Nat} (hk : 1 ≤ k) (hp : p < l1.length) (ha : a < l2.length) (e : rd l2 (k - 1) a = rd l1 (k - 1) p) : (rws (jn l1 l2 p a) k).Perm (rws l1 k ++ rws l2 k) := by
  have n1 : 0 < l1.length := Nat.zero_lt_of_lt hp
  have n2 : 0 < l2.length := Nat.zero_lt_of_lt ha
  have hpJ : p < (jn l1 l2 p a).length := by rw [jn_len]; exact Nat.lt_of_lt_of_le hp (Nat.le_add_right _ _)
  have hl : (l1.take p).length = p := by rw [List.length_take, Nat.min_eq_left (Nat.le_of_lt hp)]
  have rot : rd (jn l1 l2 p a) (jn l1 l2 p a).length p = rd l2 l2.length a ++ rd l1 l1.length p := by
    rw [rd_turn _ p hpJ, rd_turn l2 a ha, rd_turn l1 p hp]
    unfold jn
    rw [List.append_assoc (l1.take p), List.drop_left' hl, List.take_left' hl, List.append_assoc]
  have H : ∀ t, t < k - 1 → (rd l2 l2.length a).getD (t % (rd l2 l2.length a).length) 0 = (rd l1 l1.length p).getD (t % (rd l1 l1.length p).length) 0 := fun t ht => by
    rw [rd_len, rd_len, rd_getD n2, rd_getD n1]
    have := congrArg (fun l => l[t]?) e
    simp only [rd, List.getElem?_map, List.getElem?_range ht, Option.map_some, Option.some.injEq] at this
    exact this
  have c := cat_rws (x := rd l2 l2.length a) (y := rd l1 l1.length p) (by rw [rd_len]; exact n2) (by rw [rd_len]; exact n1) H (k := k) (by rw [Nat.sub_add_cancel hk]; exact Nat.le_refl _)
  have r := rws_rot hpJ k
  rw [rot, c] at r
  exact r.symm.trans ((List.Perm.append (rws_rot ha k) (rws_rot hp k)).trans List.perm_append_comm)

theorem flat_erase {α β : Type} (g : α → List β) (d : α) : ∀ (ls : List α) (i : Nat), i < ls.length → (ls.flatMap g).Perm (g (ls.getD i d) ++ (ls.eraseIdx i).flatMap g)
  | [], _, hi => absurd hi (Nat.not_lt_zero _)
  | l :: ls, 0, _ => by rw [List.flatMap_cons]; exact List.Perm.refl _
  | l :: ls, i + 1, hi => by
    have ih := flat_erase g d ls i (Nat.lt_of_succ_lt_succ hi)
    show (List.flatMap g (l :: ls)).Perm (g (ls.getD i d) ++ List.flatMap g (l :: ls.eraseIdx i))
    rw [List.flatMap_cons, List.flatMap_cons]
    refine (List.Perm.append_left (g l) ih).trans ?_
    rw [← List.append_assoc, ← List.append_assoc]
    exact List.Perm.append_right _ List.perm_append_comm
theorem jall_words {k : Nat} (hk : 1 ≤ k) : ∀ (m : Nat) (f : List Nat) (ls : List (List Nat)) (l : List Nat), ls.length = m → jall (k - 1) m f ls = some l → (rws l k).Perm (rws f k ++ ls.flatMap fun r => rws r k)
  | 0, f, ls, l, hm, e => by
    have : ls = [] := List.eq_nil_of_length_eq_zero hm
    subst this
    cases e
    rw [List.flatMap_nil, List.append_nil]
  | m + 1, f, ls, l, hm, e => by
    rw [jall] at e
    cases hf : fj f ls (k - 1) with
    | none => rw [hf] at e; cases e
    | some q =>
      obtain ⟨i, p, a⟩ := q
      rw [hf] at e
      obtain ⟨hi, hmt⟩ := fj_lt hf
      obtain ⟨h1, h2, h3⟩ := mt_lt hmt
      have ih := jall_words hk m _ _ l (by rw [List.length_eraseIdx, if_pos hi, hm]; rfl) e
      refine ih.trans ?_
      refine (List.Perm.append_right _ (jn_words hk h1 h2 h3)).trans ?_
      rw [List.append_assoc]
      exact List.Perm.append_left _ (flat_erase (fun r => rws r k) [] ls i hi).symm
end
end L05
end Mine

namespace Mine
namespace L05
section
theorem sortVs_lists (h : H) (ts : List (List Nat)) (h0 : 0 < ts.length) (h64 : ts.length < 64) : sortVs h (V.lists ts) = some ((isort (fun a b => lexLt a.1 b.1) (ts.map fun t => ((zi t, .lst (V.nats t)) : List Int × V))).map (·.2)) := by
  have e1 : keyed keyI (V.lists ts) = none := by
    cases ts with
    | nil => exact absurd h0 (Nat.lt_irrefl _)
    | cons t ts => rfl
  have e2 : keyed (keyL h) (V.lists ts) = some (ts.map fun t => (zi t, .lst (V.nats t))) := keyed_map (f := keyL h) (fun t : List Nat => V.lst (V.nats t)) zi ts fun t _ => asInts_nats t
  unfold sortVs
  rw [e1, e2]
  show sortBy lexLt _ = _
  unfold sortBy
  rw [if_pos]
  rw [Bool.and_eq_true]
  refine ⟨by simpa using h64, ?_⟩
  rw [List.all_eq_true]
  intro p hp
  rw [List.all_eq_true]
  intro q hq
  obtain ⟨a, _, rfl⟩ := List.mem_map.1 hp
  obtain ⟨b, _, rfl⟩ := List.mem_map.1 hq
  exact decide_eq_true fun e => by rw [zi_inj e]
/-- two lists of the same things, both in order -/
theorem sorted_eq {α : Type} {le : α → α → Prop} : ∀ {a b : List α}, a.Perm b → a.Pairwise le → b.Pairwise le → (∀ x ∈ a, ∀ y ∈ a, le x y → le y x → x = y) → a = b
  | [], b, p, _, _, _ => (List.nil_perm.1 p).symm
  | x :: a, [], p, _, _, _ => absurd p.length_eq (by simp)
  | x :: a, y :: b, p, ha, hb, anti => by
    have hx : x ∈ y :: b := p.mem_iff.1 (List.mem_cons_self ..)
    have hy : y ∈ x :: a := p.mem_iff.2 (List.mem_cons_self ..)
    have e : x = y := by
      rcases List.mem_cons.1 hx with e | hx'
      · exact e
      · rcases List.mem_cons.1 hy with e | hy'
        · exact e.symm
        · exact anti x (List.mem_cons_self ..) y hy ((List.pairwise_cons.1 ha).1 y hy') ((List.pairwise_cons.1 hb).1 x hx')
    subst e
    rw [sorted_eq (List.perm_cons x |>.1 p) (List.pairwise_cons.1 ha).2 (List.pairwise_cons.1 hb).2 fun u hu v hv => anti u (List.mem_cons_of_mem _ hu) v (List.mem_cons_of_mem _ hv)]
theorem sort_perm (h : H) {A B : List (List Nat)} (p : A.Perm B) (h0 : 0 < A.length) (h64 : A.length < 64) : ∃ S, sortVs h (V.lists A) = some S ∧ sortVs h (V.lists B) = some S ∧ (∀ v ∈ S, ∃ l : List Nat, v = .lst (V.nats l)) := by
  have hp : ∀ ts : List (List Nat), (isort (fun a b : List Int × V => lexLt a.1 b.1) (ts.map fun t => (zi t, V.lst (V.nats t)))).Perm (ts.map fun t => (zi t, V.lst (V.nats t))) := fun ts => isort_perm _
  have hu : ∀ ts : List (List Nat), (isort (fun a b : List Int × V => lexLt a.1 b.1) (ts.map fun t => (zi t, V.lst (V.nats t)))).Pairwise fun a b => lexLt b.1 a.1 = false := fun ts => isort_up (lt := fun a b : List Int × V => lexLt a.1 b.1) (le := fun a b => lexLt b.1 a.1 = false) (fun a b e => ord_lex.asymm e) (fun a b e => e) (fun a b c e1 e2 => ord_lex.le_tr e1 e2) _
  have e := sorted_eq ((hp A).trans ((p.map _).trans (hp B).symm)) (hu A) (hu B) (fun x hx y hy h1 h2 => by
    obtain ⟨a, _, rfl⟩ := List.mem_map.1 ((hp A).mem_iff.1 hx)
    obtain ⟨b, _, rfl⟩ := List.mem_map.1 ((hp A).mem_iff.1 hy)
    rw [zi_inj (lex_tot _ _ h2 h1)])
  refine ⟨_, sortVs_lists h A h0 h64, ?_, fun v hv => ?_⟩
  · rw [sortVs_lists h B (by rw [← p.length_eq]; exact h0) (by rw [← p.length_eq]; exact h64), e]
  · obtain ⟨x, hx, rfl⟩ := List.mem_map.1 hv
    obtain ⟨t, _, rfl⟩ := List.mem_map.1 ((hp A).mem_iff.1 hx)
    exact ⟨t, rfl⟩
theorem all_lists : ∀ {S : List V}, (∀ v ∈ S, ∃ l : List Nat, v = .lst (V.nats l)) → ∃ L, S = V.lists L
  | [], _ => ⟨[], rfl⟩
  | v :: S, h => by
    obtain ⟨l, rfl⟩ := h v (List.mem_cons_self ..)
    obtain ⟨L, rfl⟩ := all_lists fun v hv => h v (List.mem_cons_of_mem _ hv)
    exact ⟨l :: L, rfl⟩
end
end L05
end Mine

namespace Mine
namespace L05
section
variable {P : Tab} {n : Nat} {h : H} {F : Fn}
def badO (v : V) : Prop := v.plain = true ∧ v.val ∧ among v 0 8 = false
def bad2 (v : V) : Prop := clean v ∧ ∀ g, ringB g v = false
theorem bad2_no {v : V} (hp : v.plain = true) (hv : v.val) (hn : ∀ us, v ≠ .lst us) : bad2 v := ⟨clean_flat hp hv hn, fun g => by unfold ringB; rw [plain_litems hp hn g]⟩
theorem clean_mid {a b : List Nat} {o : V} (ho : badO o) : clean (.lst (V.nats a ++ [o] ++ V.nats b)) := by
  have each : ∀ v ∈ V.nats a ++ [o] ++ V.nats b, v.plain = true ∧ v.val := by
    intro v hv
    simp only [List.mem_append, List.mem_singleton] at hv
    rcases hv with (hv | rfl) | hv
    · obtain ⟨d, _, rfl⟩ := nats_val hv; exact ⟨rfl, trivial⟩
    · exact ⟨ho.1, ho.2.1⟩
    · obtain ⟨d, _, rfl⟩ := nats_val hv; exact ⟨rfl, trivial⟩
  exact ⟨plains_of fun v hv => (each v hv).1, trivial, fun vs e v hv => by cases e; exact (each v hv).2⟩
theorem all_mid {a b : List Nat} {o : V} (ho : badO o) : (V.nats a ++ [o] ++ V.nats b).all (fun v => among v 0 8) = false := by
  rw [List.all_eq_false]; exact ⟨o, by simp, by rw [ho.2.2]; exact Bool.false_ne_true⟩
theorem bad2_mid {a b : List Nat} {o : V} (ho : badO o) : bad2 (.lst (V.nats a ++ [o] ++ V.nats b)) := ⟨clean_mid ho, fun g => by
  show ringy _ = false
  unfold ringy
  rw [all_mid ho, Bool.and_false]⟩
theorem bad2_long (l : List Nat) (e : l = [] ∨ 256 < l.length) : bad2 (.lst (V.nats l)) := ⟨clean_nats l, fun g => by
  show ringy _ = false
  unfold ringy
  rw [nats_length]
  rcases e with rfl | e
  · rfl
  · rw [decide_eq_false (p := l.length ≤ 256) (by omega), Bool.and_false, Bool.false_and]⟩
noncomputable def app0 (g : H) (a : Nat) : H := match g[a]? with | some (.list vs) => g.set a (.list (vs ++ [.int 0])) | _ => g
theorem app0_ne (g : H) {a i : Nat} (e : i ≠ a) : (app0 g a)[i]? = g[i]? := by
  unfold app0
  split
  · rw [List.getElem?_set_ne (Ne.symm e)]
  · rfl
theorem app0_self {g : H} {a : Nat} {vs : List V} (e : g[a]? = some (.list vs)) : (app0 g a)[a]? = some (.list (vs ++ [.int 0])) := by
  unfold app0
  rw [e]
  exact List.getElem?_set_self (List.getElem?_eq_some_iff.1 e).1
theorem app_ev {F : Fn} {ρ : List V} {e : PE} {a : Nat} {vs : List V} (ee : evE true F ρ e h = .ok (.ref a) h) (ea : h[a]? = some (.list vs)) (hl : vs.length < 1000000) : evE true F ρ (.append e (.int 0)) h = .ok .none (app0 h a) := by
  rw [qE_30, ee, R.bind_ok, if_pos (lcell_ref ea), qE_3, R.bind_ok, onList_ref ea _ _ _ rfl (by simp; omega)]
  unfold app0
  rw [ea]
end
end L05
end Mine

namespace Mine
namespace L05
section
variable {P : Tab} {n : Nat} {h : H}

theorem words_run (u : UL_words P) {w : V} {l : List Nat} {k : Nat} (hl : IsL h w l) (h0 : 0 < l.length) (hn : l.length ≤ 1000) (hk : k ≤ 8) : pcall h (run P (n + 2) true "_law_words" [w, .int k] h) = .ok (.lst (V.lists (rws l k))) h := by
  have : run P (n + 2) true "_law_words" [w, .int k] h = .ok (.lst (V.lists (rws l k))) h := by
    refine start u.self rfl (ρ := [w, .int k, .undef]) rfl (o_ret ?_)
    refine ev_comp (c := fun i : Nat => V.int i) (it_rng (n := l.length) (by rw [len_var rfl hl, nats_length]) (Nat.le_trans hn (by decide))) rfl (fun p => .lst (V.nats (rd l k p))) (fun p hp => ?_) (by rw [mkL_eq (by rw [List.length_map, List.length_range]; exact Nat.le_trans hn (by decide)), V.lists, rws, List.map_map]; rfl)
    exact call_3 (v_at (i := 0) rfl hl.val) (v_at (i := 2) (v := .int p) rfl trivial) (v_at (i := 1) (v := .int k) rfl trivial) (from_p (n := n) u.l_from hl h0 hn p k (List.mem_range.1 hp) (Nat.le_trans hk (by decide)))
  rw [this]; exact pcall_ok (lists_plain _) h

/-- the five steps -/
theorem step_ev {F : Fn} {ρ : List V} {g : H} (j : Nat) (hj : j < 5) (e13 : ρ[13]? = some (.int j)) : ∃ d : Int, d ≠ 0 ∧ evE true F ρ (.idx (.list [.int 1, .int 11, .int 121, .int 1331, .int 14641]) (.var 13)) g = .ok (.int d) g := by
  have e : ∀ (d : Int), pyIdx g (.lst [.int 1, .int 11, .int 121, .int 1331, .int 14641]) (.int j) = some (.int d) → evE true F ρ (.idx (.list [.int 1, .int 11, .int 121, .int 1331, .int 14641]) (.var 13)) g = .ok (.int d) g := fun d hd => by
    rw [qE_18]
    show ((evE true F ρ (.var 13) g).bind fun y h => R.opt (pyIdx h (.lst [.int 1, .int 11, .int 121, .int 1331, .int 14641]) y) h) = _
    rw [v_at e13 trivial, R.bind_ok, hd]; rfl
  cases j with
  | zero => exact ⟨1, by decide, e _ rfl⟩
  | succ j => cases j with
    | zero => exact ⟨11, by decide, e _ rfl⟩
    | succ j => cases j with
      | zero => exact ⟨121, by decide, e _ rfl⟩
      | succ j => cases j with
        | zero => exact ⟨1331, by decide, e _ rfl⟩
        | succ j => cases j with
          | zero => exact ⟨14641, by decide, e _ rfl⟩
          | succ j => exact absurd hj (Nat.not_lt_of_le (Nat.le_add_left 5 j))

noncomputable abbrev El (s : List Int) (c : Int) (sg k : V) (rs : V) (a b o due hd td ws rg : V) : List V := [V.ints s, .int c, sg, k, rs, a, b, o, due, hd, td, ws, rg, .undef, .undef, .undef]
/-- rings as the law draws them -/
structure Drawn (rs : List (List Nat)) : Prop where
  len : ∀ r ∈ rs, 0 < r.length ∧ r.length ≤ 5
  dig : ∀ r ∈ rs, ∀ d ∈ r, d < 9

theorem ring_ev {F : Fn} {g : H} {s : List Int} {c mo : Int} {sg : Nat} {k rs a o due hd td ws rg : V} (h1 : 1 ≤ sg) (h4 : sg ≤ 4) : ∃ r : List Nat, evE true F (El s c (.int sg) k rs a (.int mo) o due hd td ws rg) (.comp (.bin .mod (.bin .fdiv (.var 6) (.idx (.list [.int 1, .int 11, .int 121, .int 1331, .int 14641]) (.var 13))) (.var 2)) 13 (.range1 (.bin .add (.int 1) (.bin .mod (.bin .fdiv (.var 6) (.int 161051)) (.int 5)))) .none) g = .ok (.lst (V.nats r)) g ∧ (0 < r.length ∧ r.length ≤ 5) ∧ ∀ d ∈ r, d < 9 := by
  obtain ⟨e5, h5⟩ := mod_nat (mo.fdiv 161051) 5 (by decide)
  generalize ((mo.fdiv 161051).fmod (5 : Nat)).toNat = m at e5 h5
  have e5 : (mo.fdiv 161051).fmod 5 = (m : Int) := e5
  have hit : evIt true F (El s c (.int sg) k rs a (.int mo) o due hd td ws rg) (.range1 (.bin .add (.int 1) (.bin .mod (.bin .fdiv (.var 6) (.int 161051)) (.int 5)))) g = .ok ((List.range (1 + m)).map (fun i : Nat => V.int i), Option.none) g :=
    it_rng ((b_add (x := 1) rfl (b_mod (y := 5) (b_fdiv (x := mo) (y := 161051) rfl rfl (by decide)) rfl (by decide))).trans (by rw [e5, Int.natCast_add]; rfl)) (Nat.le_trans (Nat.add_le_add_left (Nat.le_of_lt h5) 1) (by decide))
  have each : ∀ j : Nat, j < 5 → ∃ d : Nat, d < 9 ∧ evE true F ((El s c (.int sg) k rs a (.int mo) o due hd td ws rg).set 13 (.int j)) (.bin .mod (.bin .fdiv (.var 6) (.idx (.list [.int 1, .int 11, .int 121, .int 1331, .int 14641]) (.var 13))) (.var 2)) g = .ok (.int d) g := fun j hj => by
    obtain ⟨d, hd, e⟩ := step_ev (F := F) (g := g) (ρ := (El s c (.int sg) k rs a (.int mo) o due hd td ws rg).set 13 (.int j)) j hj rfl
    obtain ⟨e1, l1⟩ := mod_nat (mo.fdiv d) sg h1
    refine ⟨((mo.fdiv d).fmod (sg : Int)).toNat, Nat.lt_of_lt_of_le l1 (Nat.le_trans h4 (by decide)), ?_⟩
    rw [← e1]
    exact b_mod (b_fdiv (x := mo) rfl e hd) rfl (Int.natCast_ne_zero.2 (Nat.ne_of_gt h1))
  refine ⟨(List.range (1 + m)).map fun j => if hj : j < 5 then (each j hj).choose else 0, ?_, ?_, ?_⟩
  · refine ev_comp hit rfl (fun j => .int ((if hj : j < 5 then (each j hj).choose else 0 : Nat) : Int)) (fun j hj => ?_) ?_
    · have hj5 : j < 5 := Nat.lt_of_lt_of_le (List.mem_range.1 hj) (by rw [Nat.add_comm]; exact h5)
      rw [dif_pos hj5]; exact (each j hj5).choose_spec.2
    · rw [mkL_eq (by rw [List.length_map, List.length_range]; exact Nat.le_trans (Nat.add_le_add_left (Nat.le_of_lt h5) 1) (by decide)), V.nats, List.map_map]; rfl
  · rw [List.length_map, List.length_range]; exact ⟨Nat.add_pos_left Nat.one_pos _, by rw [Nat.add_comm]; exact h5⟩
  · intro d hd
    obtain ⟨j, hj, rfl⟩ := List.mem_map.1 hd
    have hj5 : j < 5 := Nat.lt_of_lt_of_le (List.mem_range.1 hj) (by rw [Nat.add_comm]; exact h5)
    rw [dif_pos hj5]; exact (each j hj5).choose_spec.1

theorem law_start (u : UL_law P) (s : List Int) : ∃ (rs : List (List Nat)) (sg k : Nat) (a b : V), Drawn rs ∧ 0 < rs.length ∧ rs.length ≤ 5 ∧ 1 ≤ k ∧ k ≤ 4 ∧
    ∀ r, (exSs true (run P (n + 8)) (L_law.body.drop 5) (El s (cellAt s 0) (.int sg) (.int k) (.ref 0) a b .undef .undef .undef .undef .undef .undef) [.list (V.lists rs)]).out = r → run P (n + 9) true "law" [V.ints s] [] = r := by
  have cel : ∀ (ρ : List V) (g : H) (e : PE) (k : Nat), ρ[0]? = some (V.ints s) → evE true (run P (n + 8)) ρ e g = .ok (.int k) g → evE true (run P (n + 8)) ρ (.call false "_law_cell_at" [.var 0, e]) g = .ok (.int (cellAt s k)) g := fun ρ g e k e0 ee => call_2 (v_at e0 trivial) ee (cell_p (n := n + 7) u.l_cell_at s k)
  generalize hc : cellAt s 0 = c
  obtain ⟨e4, h4⟩ := mod_nat c 4 (by decide)
  obtain ⟨ek, hk⟩ := mod_nat (c.fdiv 4) 4 (by decide)
  obtain ⟨en, hn⟩ := mod_nat (c.fdiv 16) 5 (by decide)
  generalize (c.fmod (4 : Nat)).toNat = s0 at e4 h4
  generalize ((c.fdiv 4).fmod (4 : Nat)).toNat = k0 at ek hk
  generalize ((c.fdiv 16).fmod (5 : Nat)).toNat = m at en hn
  have e4 : c.fmod 4 = (s0 : Int) := e4
  have ek : (c.fdiv 4).fmod 4 = (k0 : Int) := ek
  have en : (c.fdiv 16).fmod 5 = (m : Int) := en
  have hit : evIt true (run P (n + 8)) (El s c (.int ((1 + s0 : Nat) : Int)) (.int ((1 + k0 : Nat) : Int)) (.ref 0) .undef .undef .undef .undef .undef .undef .undef .undef) (.range1 (.bin .add (.int 1) (.bin .mod (.bin .fdiv (.var 1) (.int 16)) (.int 5)))) [.list []] = .ok ((List.range (1 + m)).map (fun i : Nat => V.int i), Option.none) [.list []] :=
    it_rng ((b_add (x := 1) rfl (b_mod (y := 5) (b_fdiv (x := c) (y := 16) rfl rfl (by decide)) rfl (by decide))).trans (by rw [en, Int.natCast_add]; rfl)) (Nat.le_trans (Nat.add_le_add_left (Nat.le_of_lt hn) 1) (by decide))
  obtain ⟨ρ', g', e, rs, a, b, rfl, rfl, D, hl⟩ := s_forI (F := run P (n + 8)) (x := 5) (body := [
    .asg 6 (.bin .mod (.bin .mul (.call false "_law_cell_at" [.var 0, .bin .add (.int 2) (.var 5)]) (.int 48271)) (.int 2147483647)),
    .expr (.append (.var 4) (.comp (.bin .mod (.bin .fdiv (.var 6) (.idx (.list [.int 1, .int 11, .int 121, .int 1331, .int 14641]) (.var 13))) (.var 2)) 13 (.range1 (.bin .add (.int 1) (.bin .mod (.bin .fdiv (.var 6) (.int 161051)) (.int 5)))) .none))])
    (fun q ρ g => ∃ rs a b, ρ = El s c (.int ((1 + s0 : Nat) : Int)) (.int ((1 + k0 : Nat) : Int)) (.ref 0) a b .undef .undef .undef .undef .undef .undef ∧ g = [.list (V.lists rs)] ∧ Drawn rs ∧ rs.length = q.length) hit ⟨[], _, _, rfl, rfl, ⟨all_nil, all_nil⟩, rfl⟩ (fun q i q' ρ g hq hi => by
      obtain ⟨rs, a, b, rfl, rfl, D, hl⟩ := hi
      have hql : q.length ≤ 5 := by
        have := congrArg List.length hq
        rw [List.length_range, List.length_append] at this
        exact Nat.le_trans (Nat.le_add_right _ _) (Nat.le_trans (Nat.le_of_eq this.symm) (by rw [Nat.add_comm]; exact hn))
      have m1 : evE true (run P (n + 8)) (El s c (.int ((1 + s0 : Nat) : Int)) (.int ((1 + k0 : Nat) : Int)) (.ref 0) (.int i) b .undef .undef .undef .undef .undef .undef) (.bin .mod (.bin .mul (.call false "_law_cell_at" [.var 0, .bin .add (.int 2) (.var 5)]) (.int 48271)) (.int 2147483647)) [.list (V.lists rs)] = .ok (.int ((cellAt s (2 + i) * 48271).fmod 2147483647)) [.list (V.lists rs)] :=
        b_mod (y := 2147483647) (b_mul (y := 48271) (cel _ _ _ (2 + i) rfl ((b_add (x := 2) (y := i) rfl rfl).trans (by rw [Int.natCast_add]; rfl))) rfl (by decide)) rfl (by decide)
      generalize (cellAt s (2 + i) * 48271).fmod 2147483647 = mo at m1
      obtain ⟨r, er, hr, hd⟩ := ring_ev (F := run P (n + 8)) (g := [.list (V.lists rs)]) (s := s) (c := c) (mo := mo) (sg := 1 + s0) (k := .int ((1 + k0 : Nat) : Int)) (rs := .ref 0) (a := .int i) (o := .undef) (due := .undef) (hd := .undef) (td := .undef) (ws := .undef) (rg := .undef) (Nat.le_add_right 1 s0) (by rw [Nat.add_comm]; exact h4)
      refine ⟨El s c (.int ((1 + s0 : Nat) : Int)) (.int ((1 + k0 : Nat) : Int)) (.ref 0) (.int i) (.int mo) .undef .undef .undef .undef .undef .undef, [.list (V.lists (rs ++ [r]))], ?_, rs ++ [r], _, _, rfl, rfl, ⟨fun x hx => ?_, fun x hx => ?_⟩, by rw [List.length_append, List.length_append, hl]; rfl⟩
      · show exSs true (run P (n + 8)) [.asg 6 _, .expr (.append (.var 4) _)] (El s c (.int ((1 + s0 : Nat) : Int)) (.int ((1 + k0 : Nat) : Int)) (.ref 0) (.int i) b .undef .undef .undef .undef .undef .undef) _ = _
        rw [ss_cons', qS_2, m1, R.st_ok, RS.then_next, ss_cons', qS_1, qE_30, v_at (v := .ref 0) rfl trivial, R.bind_ok, if_pos (show lcell [.list (V.lists rs)] (.ref 0) = true from rfl)]
        show (((evE true (run P (n + 8)) (El s c (.int ((1 + s0 : Nat) : Int)) (.int ((1 + k0 : Nat) : Int)) (.ref 0) (.int i) (.int mo) .undef .undef .undef .undef .undef .undef) _ _).bind _).st _ _).then _ = _
        rw [er, R.bind_ok, onList_ref (h := [.list (V.lists rs)]) (i := 0) (vs := V.lists rs) rfl _ _ _ rfl (by rw [List.length_append, lists_len, hl]; exact Nat.le_trans (Nat.succ_le_succ hql) (by decide))]
        unfold V.lists
        rw [List.map_append]; rfl
      · rcases List.mem_append.1 hx with hx | hx
        · exact D.len x hx
        · rw [List.mem_singleton.1 hx]; exact hr
      · rcases List.mem_append.1 hx with hx | hx
        · exact D.dig x hx
        · rw [List.mem_singleton.1 hx]; exact hd)
  rw [List.length_range] at hl
  refine ⟨rs, 1 + s0, 1 + k0, a, b, D, by rw [hl]; exact Nat.add_pos_left Nat.one_pos _, by rw [hl, Nat.add_comm]; exact hn, Nat.le_add_right 1 k0, by rw [Nat.add_comm]; exact hk, fun r hr => ?_⟩
  refine start u.self rfl (ρ := [V.ints s, .undef, .undef, .undef, .undef, .undef, .undef, .undef, .undef, .undef, .undef, .undef, .undef, .undef, .undef, .undef]) rfl ?_
  refine o_asg (cel _ [] (.int 0) 0 rfl rfl) (ρ' := El s c .undef .undef .undef .undef .undef .undef .undef .undef .undef .undef .undef) (by rw [hc]; rfl) ?_
  refine o_asg (b_add (x := 1) rfl (b_mod (x := c) (y := 4) rfl rfl (by decide))) (ρ' := El s c (.int ((1 + s0 : Nat) : Int)) .undef .undef .undef .undef .undef .undef .undef .undef .undef .undef) (by rw [e4, Int.natCast_add]; rfl) ?_
  refine o_asg (b_add (x := 1) rfl (b_mod (y := 4) (b_fdiv (x := c) (y := 4) rfl rfl (by decide)) rfl (by decide))) (ρ' := El s c (.int ((1 + s0 : Nat) : Int)) (.int ((1 + k0 : Nat) : Int)) .undef .undef .undef .undef .undef .undef .undef .undef .undef) (by rw [ek, Int.natCast_add]; rfl) ?_
  refine o_asg (v := .ref 0) (h' := [.list []]) rfl (ρ' := El s c (.int ((1 + s0 : Nat) : Int)) (.int ((1 + k0 : Nat) : Int)) (.ref 0) .undef .undef .undef .undef .undef .undef .undef .undef) rfl ?_
  show (exSs true (run P (n + 8)) (.for1 5 _ _ :: L_law.body.drop 5) _ _).out = r
  rw [show ∀ (s : PS) (ss : List PS), s :: ss = [s] ++ ss from fun _ _ => rfl, exSs_app, e]
  exact hr
end
end L05
end Mine

namespace Mine
namespace L05
section
variable {P : Tab} {n : Nat} {h : H}

/-- what is no list of rings -/
structure NR (v : V) : Prop where
  pl : v.plain = true
  vl : v.val
  no : ∀ h, lB h v = false ∨ ∃ vs x, v = .lst vs ∧ (∀ y ∈ vs, okI h y) ∧ x ∈ vs ∧ ringB h x = false
theorem NR.bad (u : U_joined_all P) {v z : V} (e : NR v) (hz : okV h z) (hs : among z 1 8 = true) : run P (n + 4) true "joined_all" [z, v] h = .err "BadRing" h := by
  rcases e.no h with a | ⟨vs, x, rfl, a, b, c⟩
  · exact joined_no u hz hs (plain_okV e.pl e.vl h) a
  · exact joined_bad u hz hs rfl a b c
theorem zeros (m : Nat) : (List.replicate m [V.int 0]).flatten = V.nats (List.replicate m 0) := by
  induction m with
  | zero => rfl
  | succ m ih => rw [List.replicate_succ, List.replicate_succ, List.flatten_cons, ih]; rfl
theorem reps (m : Nat) (l : List Nat) : (List.replicate m (V.nats l)).flatten = V.nats (List.replicate m l).flatten := by
  induction m with
  | zero => rfl
  | succ m ih => rw [List.replicate_succ, List.replicate_succ, List.flatten_cons, List.flatten_cons, ih, nats_append]
theorem nr_no {v : V} (hp : v.plain = true) (hv : v.val) (hn : ∀ us, v ≠ .lst us) : NR v := ⟨hp, hv, fun h => .inl (by unfold lB; rw [plain_litems hp hn h])⟩
theorem nr_mid {rs : List (List Nat)} {x : V} {i : Nat} (hx : bad2 x) : NR (.lst (V.lists (rs.take i) ++ [x] ++ V.lists (rs.drop i))) := by
  have each : ∀ y ∈ V.lists (rs.take i) ++ [x] ++ V.lists (rs.drop i), (∃ l : List Nat, y = .lst (V.nats l)) ∨ y = x := fun y hy => by
    rcases List.mem_append.1 hy with hy | hy
    · rcases List.mem_append.1 hy with hy | hy
      · obtain ⟨l, _, rfl⟩ := List.mem_map.1 hy; exact .inl ⟨l, rfl⟩
      · exact .inr (List.mem_singleton.1 hy)
    · obtain ⟨l, _, rfl⟩ := List.mem_map.1 hy; exact .inl ⟨l, rfl⟩
  refine ⟨plains_of fun y hy => ?_, trivial, fun h => .inr ⟨_, x, rfl, fun y hy => ?_, List.mem_append_left _ (List.mem_append_right _ (List.mem_cons_self ..)), hx.2 h⟩⟩
  · rcases each y hy with ⟨l, rfl⟩ | rfl
    · exact nats_plain l
    · exact hx.1.1
  · rcases each y hy with ⟨l, rfl⟩ | rfl
    · exact IsL.okI (IsL.lst h l)
    · exact ⟨hx.1.okV h, hx.1.items h⟩

set_option maxHeartbeats 4000000 in
theorem odd_run (u : UL_odd P) {rs : List (List Nat)} {c : Int} (D : Drawn rs) (h0 : 0 < rs.length) (h5 : rs.length ≤ 5) (hc : h[0]? = some (.list (V.lists rs))) : ∃ v, pcall h (run P (n + 1) true "_law_odd" [.ref 0, .int c] h) = .ok v h ∧ NR v := by
  have ll : litems h (.ref 0) = some (V.lists rs) := litems_ref hc
  have len0 : ∀ {ρ : List V}, ρ[0]? = some (.ref 0) → evE true (run P n) ρ (.bf .len (.var 0)) h = .ok (.int rs.length) h := fun e => by rw [len_var e ll, lists_len]
  have cm : ∀ {ρ : List V} (d m : Nat), 0 < d → 0 < m → ρ[1]? = some (.int c) → evE true (run P n) ρ (.bin .mod (.bin .fdiv (.var 1) (.int d)) (.int m)) h = .ok (.int ((c.fdiv d).fmod m)) h := fun d m hd hm e => b_mod (b_fdiv (v_at e trivial) rfl (Int.natCast_ne_zero.2 (Nat.ne_of_gt hd))) rfl (Int.natCast_ne_zero.2 (Nat.ne_of_gt hm))
  obtain ⟨ej, hj⟩ := mod_nat (c.fdiv 128) rs.length h0
  generalize ((c.fdiv 128).fmod (rs.length : Int)).toNat = j at ej hj
  have hr := getD_mem hj
  have r5 := D.len _ hr
  have gj := lists_get hj
  generalize rs.getD j [] = r at hr r5 gj
  obtain ⟨ep, hp⟩ := mod_nat (c.fdiv 640) (r.length + 1) (Nat.succ_pos _)
  generalize ((c.fdiv 640).fmod ((r.length + 1 : Nat) : Int)).toNat = p at ep hp
  obtain ⟨ea, ha⟩ := mod_nat (c.fdiv 8) (rs.length + 1) (Nat.succ_pos _)
  generalize ((c.fdiv 8).fmod ((rs.length + 1 : Nat) : Int)).toNat = at' at ea ha
  -- the odd thing
  obtain ⟨o, o1, o2⟩ := pick (F := run P n) (h := h) (ρ := [.ref 0, .int c, .lst (V.nats r), .int p, .undef, .undef, .undef]) (es := [.int 9, .neg 1, .bool true, .none]) (i := .bin .mod (.bin .fdiv (.var 1) (.int 8)) (.int 4)) (m := 4) (c := c.fdiv 8) badO (by decide) rfl
    (es_cons rfl (es_cons rfl (es_cons rfl (es_cons rfl rfl)))) (cm 8 4 (by decide) (by decide) rfl)
    (all_cons ⟨rfl, trivial, rfl⟩ (all_cons ⟨rfl, trivial, rfl⟩ (all_cons ⟨rfl, trivial, rfl⟩ (all_cons ⟨rfl, trivial, rfl⟩ all_nil)))) (show 4 ≤ 1000000 by decide)
  have hS : bad2 (.lst (V.nats (r.take p) ++ [o] ++ V.nats (r.drop p))) := bad2_mid o2
  generalize hSe : V.lst (V.nats (r.take p) ++ [o] ++ V.nats (r.drop p)) = S at hS
  have g0 := lists_get h0
  have r05 := D.len _ (getD_mem h0)
  generalize rs.getD 0 [] = r0 at g0 r05
  have long : evE true (run P n) [.ref 0, .int c, .lst (V.nats r), .int p, S, .undef, .undef] (.bin .add (.bin .mul (.list [.int 0]) (.int 250)) (.bin .mul (.idx (.var 0) (.int 0)) (.int 7))) h = .ok (.lst (V.nats (List.replicate 250 0 ++ (List.replicate 7 r0).flatten))) h := by
    have a1 : evE true (run P n) [.ref 0, .int c, .lst (V.nats r), .int p, S, .undef, .undef] (.bin .mul (.list [.int 0]) (.int 250)) h = .ok (.lst (V.nats (List.replicate 250 0))) h := by
      rw [qE_7, show evE true (run P n) [.ref 0, .int c, .lst (V.nats r), .int p, S, .undef, .undef] (.list [.int 0]) h = .ok (.lst [.int 0]) h from rfl, R.bind_ok, qE_3, R.bind_ok, show (250 : Int) = ((250 : Nat) : Int) from rfl, mul_of (h := h) (a := .lst [.int 0]) rfl 250 (by decide) (show 250 * 1 ≤ 1000000 by decide), zeros]; rfl
    have a2 : evE true (run P n) [.ref 0, .int c, .lst (V.nats r), .int p, S, .undef, .undef] (.bin .mul (.idx (.var 0) (.int 0)) (.int 7)) h = .ok (.lst (V.nats (List.replicate 7 r0).flatten)) h := by
      have a0 : evE true (run P n) [.ref 0, .int c, .lst (V.nats r), .int p, S, .undef, .undef] (.idx (.var 0) (.int 0)) h = .ok (.lst (V.nats r0)) h := e_idx (j := 0) (v_at (v := .ref 0) rfl trivial) ll g0
      rw [qE_7, a0, R.bind_ok, qE_3, R.bind_ok, show (7 : Int) = ((7 : Nat) : Int) from rfl, mul_of (h := h) (a := .lst (V.nats r0)) rfl 7 (by decide) (by rw [nats_length]; exact Nat.le_trans (Nat.mul_le_mul_left 7 r05.2) (by decide)), reps]; rfl
    exact b_addL a1 a2 (by rw [List.length_replicate, List.length_flatten, List.map_replicate, List.sum_replicate_nat]; exact Nat.le_trans (Nat.add_le_add_left (Nat.mul_le_mul_left 7 r05.2) 250) (by decide))
  obtain ⟨b, b1, b2⟩ := pick (F := run P n) (h := h) (ρ := [.ref 0, .int c, .lst (V.nats r), .int p, S, .undef, .undef]) (es := [.list [], .var 4, .var 4, .tup [.int 0], .none, .str "0", .var 4, .bin .add (.bin .mul (.list [.int 0]) (.int 250)) (.bin .mul (.idx (.var 0) (.int 0)) (.int 7))]) (i := .bin .mod (.var 1) (.int 8)) (m := 8) (c := c) bad2 (by decide) rfl
    (es_cons (v := .lst (V.nats [])) rfl (es_cons (v_at (v := S) rfl hS.1.2.1) (es_cons (v_at (v := S) rfl hS.1.2.1) (es_cons (v := .tup [.int 0]) rfl (es_cons (v := .none) rfl (es_cons (v := .str "0") rfl (es_cons (v_at (v := S) rfl hS.1.2.1) (es_cons long rfl)))))))) (b_mod (x := c) (y := 8) rfl rfl (by decide))
    (all_cons (bad2_long [] (.inl rfl)) (all_cons hS (all_cons hS (all_cons (bad2_no rfl trivial nofun) (all_cons (bad2_no rfl trivial nofun) (all_cons (bad2_no rfl trivial nofun) (all_cons hS (all_cons (bad2_long _ (.inr (by rw [List.length_append, List.length_replicate, List.length_flatten, List.map_replicate, List.sum_replicate_nat]; exact Nat.lt_of_lt_of_le (show 256 < 250 + 7 * 1 by decide) (Nat.add_le_add_left (Nat.mul_le_mul_left 7 r05.1) 250)))) all_nil)))))))) (show 8 ≤ 1000000 by decide)
  have tr : NR (.tup (V.lists rs)) := nr_no (lists_plain rs) trivial nofun
  obtain ⟨w, w1, w2⟩ := pick (F := run P n) (h := h) (ρ := [.ref 0, .int c, .lst (V.nats r), .int p, S, b, .undef]) (es := [.list [], .none, .bf .tuple (.var 0), .str "0"]) (i := .bin .mod (.bin .fdiv (.var 1) (.int 32)) (.int 4)) (m := 4) (c := c.fdiv 32) NR (by decide) rfl
    (es_cons (v := .lst []) rfl (es_cons (v := .none) rfl (es_cons (v := .tup (V.lists rs)) (by
      rw [b_bf (f := .tuple) rfl, v_at (v := .ref 0) rfl trivial, R.bind_ok]
      show R.opt (Option.map V.tup (items h (.ref 0))) h = _
      rw [show items h (.ref 0) = some (V.lists rs) by unfold items; simp only [hc]]; rfl) (es_cons (v := .str "0") rfl rfl)))) (cm 32 4 (by decide) (by decide) rfl)
    (all_cons ⟨rfl, trivial, fun _ => .inl rfl⟩ (all_cons (nr_no rfl trivial nofun) (all_cons tr (all_cons (nr_no rfl trivial nofun) all_nil)))) (show 4 ≤ 1000000 by decide)
  have hfin := nr_mid (rs := rs) (i := at') b2
  have go : ∃ v, run P (n + 1) true "_law_odd" [.ref 0, .int c] h = .ok v h ∧ NR v := by
    have begin_ : ∀ res, (exSs true (run P n) (L_odd.body.drop 4) [.ref 0, .int c, .lst (V.nats r), .int p, S, b, .undef] h).out = res → run P (n + 1) true "_law_odd" [.ref 0, .int c] h = res := fun res hres => by
      refine start u.self rfl (ρ := [.ref 0, .int c, .undef, .undef, .undef, .undef, .undef]) rfl ?_
      have i1 : evE true (run P n) [.ref 0, .int c, .undef, .undef, .undef, .undef, .undef] (.idx (.var 0) (.bin .mod (.bin .fdiv (.var 1) (.int 128)) (.bf .len (.var 0)))) h = .ok (.lst (V.nats r)) h := by
        have := b_mod (q := true) (F := run P n) (ρ := [.ref 0, .int c, .undef, .undef, .undef, .undef, .undef]) (h := h) (a := .bin .fdiv (.var 1) (.int 128)) (b := .bf .len (.var 0)) (b_fdiv (x := c) (y := 128) rfl rfl (by decide)) (len0 rfl) (Int.natCast_ne_zero.2 (Nat.ne_of_gt h0))
        rw [ej] at this
        rw [qE_18, v_at (v := .ref 0) rfl trivial, R.bind_ok, this, R.bind_ok, idx_of ll gj]; rfl
      refine o_asg i1 (ρ' := [.ref 0, .int c, .lst (V.nats r), .undef, .undef, .undef, .undef]) rfl ?_
      have i2 : evE true (run P n) [.ref 0, .int c, .lst (V.nats r), .undef, .undef, .undef, .undef] (.bin .mod (.bin .fdiv (.var 1) (.int 640)) (.bin .add (.bf .len (.var 2)) (.int 1))) h = .ok (.int p) h := by
        have := b_mod (q := true) (F := run P n) (ρ := [.ref 0, .int c, .lst (V.nats r), .undef, .undef, .undef, .undef]) (h := h) (a := .bin .fdiv (.var 1) (.int 640)) (b := .bin .add (.bf .len (.var 2)) (.int 1)) (b_fdiv (x := c) (y := 640) rfl rfl (by decide)) (b_add (x := r.length) (y := 1) (by rw [len_var (w := .lst (V.nats r)) rfl rfl, nats_length]) rfl) (Int.natCast_ne_zero.2 (Nat.succ_ne_zero r.length))
        exact this.trans (by rw [← ep]; rfl)
      refine o_asg i2 (ρ' := [.ref 0, .int c, .lst (V.nats r), .int p, .undef, .undef, .undef]) rfl ?_
      have i3 : evE true (run P n) [.ref 0, .int c, .lst (V.nats r), .int p, .undef, .undef, .undef] (.bin .add (.bin .add (.slice (.var 2) .none (some (.var 3))) (.list [.idx (.list [.int 9, .neg 1, .bool true, .none]) (.bin .mod (.bin .fdiv (.var 1) (.int 8)) (.int 4))])) (.slice (.var 2) (some (.var 3)) .none)) h = .ok S h := by
        have il : evE true (run P n) [.ref 0, .int c, .lst (V.nats r), .int p, .undef, .undef, .undef] (.list [.idx (.list [.int 9, .neg 1, .bool true, .none]) (.bin .mod (.bin .fdiv (.var 1) (.int 8)) (.int 4))]) h = .ok (.lst [o]) h := by
          rw [qE_15, qEs_2, o1]; rfl
        have t1 := take_len r p
        have t2 := drop_len r p
        rw [qE_7, qE_7, sl_to (v := .lst (V.nats r)) (p := p) rfl (IsL.lst h r) rfl, R.bind_ok, il, R.bind_ok, addLL h _ _ (by rw [nats_length, List.length_singleton]; exact Nat.le_trans (Nat.succ_le_succ (Nat.le_trans t1 r5.2)) (by decide)), R.opt_some, R.bind_ok, sl_from (v := .lst (V.nats r)) (p := p) rfl (IsL.lst h r) rfl, R.bind_ok, addLL h _ _ (by rw [List.length_append, nats_length, nats_length, List.length_singleton]; exact Nat.le_trans (Nat.add_le_add (Nat.succ_le_succ (Nat.le_trans t1 r5.2)) (Nat.le_trans t2 r5.2)) (by decide)), hSe]; rfl
      refine o_asg i3 (ρ' := [.ref 0, .int c, .lst (V.nats r), .int p, S, .undef, .undef]) rfl ?_
      exact o_asg b1 (ρ' := [.ref 0, .int c, .lst (V.nats r), .int p, S, b, .undef]) rfl hres
    by_cases h81 : (c.fdiv 8).fmod 4 = 1
    · refine ⟨w, begin_ _ ?_, w2⟩
      exact o_ifT (h' := h) ((c_eqI (y := 1) (cm 8 4 (by decide) (by decide) rfl) rfl).trans (by rw [decide_eq_true (show (c.fdiv ((8 : Nat) : Int)).fmod ((4 : Nat) : Int) = 1 from h81)])) (o_ret w1)
    · refine ⟨_, begin_ _ ?_, hfin⟩
      refine o_ifF (h' := h) ((c_eqI (y := 1) (cm 8 4 (by decide) (by decide) rfl) rfl).trans (by rw [decide_eq_false (show ¬ (c.fdiv ((8 : Nat) : Int)).fmod ((4 : Nat) : Int) = 1 from h81)])) ?_
      have i6 : evE true (run P n) [.ref 0, .int c, .lst (V.nats r), .int p, S, b, .undef] (.bin .mod (.bin .fdiv (.var 1) (.int 8)) (.bin .add (.bf .len (.var 0)) (.int 1))) h = .ok (.int at') h := by
        have := b_mod (q := true) (F := run P n) (ρ := [.ref 0, .int c, .lst (V.nats r), .int p, S, b, .undef]) (h := h) (a := .bin .fdiv (.var 1) (.int 8)) (b := .bin .add (.bf .len (.var 0)) (.int 1)) (b_fdiv (x := c) (y := 8) rfl rfl (by decide)) (b_add (x := rs.length) (y := 1) (len0 rfl) rfl) (Int.natCast_ne_zero.2 (Nat.succ_ne_zero rs.length))
        exact this.trans (by rw [← ea]; rfl)
      refine o_asg i6 (ρ' := [.ref 0, .int c, .lst (V.nats r), .int p, S, b, .int at']) rfl (o_ret ?_)
      have il : evE true (run P n) [.ref 0, .int c, .lst (V.nats r), .int p, S, b, .int at'] (.list [.var 5]) h = .ok (.lst [b]) h := by
        rw [qE_15, qEs_2, v_at (v := b) rfl b2.1.2.1]; rfl
      have s1 : evE true (run P n) [.ref 0, .int c, .lst (V.nats r), .int p, S, b, .int at'] (.slice (.var 0) .none (some (.var 6))) h = .ok (.lst (V.lists (rs.take at'))) h := by
        rw [qE_19, v_at (v := .ref 0) rfl trivial, R.bind_ok, qO_1, R.bind_ok, qO_2, v_at (v := .int at') rfl trivial, R.bind_ok, R.bind_ok, slice_to ll at']; unfold V.lists; rw [List.map_take]; rfl
      have s2 : evE true (run P n) [.ref 0, .int c, .lst (V.nats r), .int p, S, b, .int at'] (.slice (.var 0) (some (.var 6)) .none) h = .ok (.lst (V.lists (rs.drop at'))) h := by
        rw [qE_19, v_at (v := .ref 0) rfl trivial, R.bind_ok, qO_2, v_at (v := .int at') rfl trivial, R.bind_ok, R.bind_ok, qO_1, R.bind_ok, slice_from ll at']; unfold V.lists; rw [List.map_drop]; rfl
      rw [qE_7, qE_7, s1, R.bind_ok, il, R.bind_ok, addLL h _ _ (by rw [lists_len, List.length_take, List.length_singleton]; exact Nat.le_trans (Nat.succ_le_succ (Nat.le_trans (Nat.min_le_right _ _) h5)) (by decide)), R.opt_some, R.bind_ok, s2, R.bind_ok, addLL h _ _ (by rw [List.length_append, lists_len, lists_len, List.length_take, List.length_drop, List.length_singleton]; exact Nat.le_trans (Nat.add_le_add (Nat.succ_le_succ (Nat.le_trans (Nat.min_le_right _ _) h5)) (Nat.le_trans (Nat.sub_le _ _) h5)) (by decide))]; rfl
  obtain ⟨v, e, nr⟩ := go
  exact ⟨v, by rw [e]; exact pcall_ok nr.pl h, nr⟩
end
end L05
end Mine

namespace Mine
namespace L05
section
variable {P : Tab} {n : Nat}

theorem eqT (h : H) (c : Int) : pyEq h (.tup [.int c]) (.tup [.int c]) = some true := by
  rw [pyEq_plain h rfl rfl rfl rfl, peq_tup, peqs_cons, peq_int, beq_self_eq_true]; rfl

/-- the two refused ways -/
theorem law_odd (u : UL_law P) (s : List Int) {rs : List (List Nat)} {sg k : Nat} {a b : V} (D : Drawn rs) (h0 : 0 < rs.length) (h5 : rs.length ≤ 5) (hk : 1 ≤ k) (k4 : k ≤ 4) (hc : (cellAt s 1).fmod 8 = 1 ∨ (cellAt s 1).fmod 8 = 2) :
    (exSs true (run P (n + 8)) (L_law.body.drop 5) (El s (cellAt s 0) (.int sg) (.int k) (.ref 0) a b .undef .undef .undef .undef .undef .undef) [.list (V.lists rs)]).out = .ok (.bool true) [.list (V.lists rs)] := by
  have cel : ∀ (ρ : List V) (g : H), ρ[0]? = some (V.ints s) → evE true (run P (n + 8)) ρ (.call false "_law_cell_at" [.var 0, .int 1]) g = .ok (.int (cellAt s 1)) g := fun ρ g e0 => call_2 (v_at e0 trivial) rfl (cell_p (n := n + 7) u.l_cell_at s 1)
  generalize cellAt s 0 = c
  generalize hh : [Cell.list (V.lists rs)] = h
  have hcell : h[0]? = some (.list (V.lists rs)) := by rw [← hh]; rfl
  refine o_asg (b_fdiv (y := 8) (cel _ _ rfl) rfl (by decide)) (ρ' := El s c (.int sg) (.int k) (.ref 0) a b (.int ((cellAt s 1).fdiv 8)) .undef .undef .undef .undef .undef) rfl ?_
  have c1 : ∀ m : Int, evE true (run P (n + 8)) (El s c (.int sg) (.int k) (.ref 0) a b (.int ((cellAt s 1).fdiv 8)) .undef .undef .undef .undef .undef) (.cmp .eq (.bin .mod (.call false "_law_cell_at" [.var 0, .int 1]) (.int 8)) (.int m)) h = .ok (.bool (decide ((cellAt s 1).fmod 8 = m))) h := fun m => c_eqI (b_mod (y := 8) (cel _ _ rfl) rfl (by decide)) rfl
  generalize (cellAt s 1).fdiv 8 = o
  rcases hc with hc | hc
  · obtain ⟨v, e, nr⟩ := odd_run (n := n + 7) (c := o) u.l_odd D h0 h5 hcell
    refine o_ifT ((c1 1).trans (by rw [decide_eq_true hc])) (o_ret ?_)
    have eo : evE true (run P (n + 8)) (El s c (.int sg) (.int k) (.ref 0) a b (.int o) .undef .undef .undef .undef .undef) (.call false "_law_odd" [.var 4, .var 7]) h = .ok v h := call_2 (v_at (v := .ref 0) rfl trivial) (v_at (v := .int o) rfl trivial) e
    have ea := asked_err (n := n + 3) u.l_asked (z := .int k) (rv := v) trivial nr.vl (by decide) (nr.bad (n := n + 3) u.l_asked.joined_all (h := h) (z := .int k) trivial (am_size hk (Nat.le_trans k4 (by decide))))
    have ec := call_2 (F := run P (n + 8)) (ρ := El s c (.int sg) (.int k) (.ref 0) a b (.int o) .undef .undef .undef .undef .undef) (f := "_law_asked") (v_at (i := 3) (v := .int k) rfl trivial) eo (by rw [ea]; exact pcall_ok rfl h)
    exact e_eq ec (w := .tup [.int 3]) rfl (eqT h 3)
  · refine o_ifF ((c1 1).trans (by rw [hc]; rfl)) ?_
    refine o_ifT ((c1 2).trans (by rw [decide_eq_true hc])) ?_
    obtain ⟨z, z1, z2⟩ := pick (F := run P (n + 8)) (h := h) (ρ := El s c (.int sg) (.int k) (.ref 0) a b (.int o) .undef .undef .undef .undef .undef) (es := [.int 0, .int 9, .bool true, .str "1", .none, .neg 1]) (i := .bin .mod (.var 7) (.int 6)) (m := 6) (c := o) (fun v => okV h v ∧ among v 1 8 = false) (by decide) rfl
      (es_cons rfl (es_cons rfl (es_cons rfl (es_cons rfl (es_cons rfl (es_cons rfl rfl)))))) (b_mod (x := o) (y := 6) rfl rfl (by decide))
      (all_cons ⟨trivial, rfl⟩ (all_cons ⟨trivial, rfl⟩ (all_cons ⟨trivial, rfl⟩ (all_cons ⟨trivial, rfl⟩ (all_cons ⟨trivial, rfl⟩ (all_cons ⟨trivial, rfl⟩ all_nil)))))) (show 6 ≤ 1000000 by decide)
    refine o_asg z1 (ρ' := El s c (.int sg) z (.ref 0) a b (.int o) .undef .undef .undef .undef .undef) rfl (o_ret ?_)
    obtain ⟨v, e, nr⟩ := odd_run (n := n + 7) (c := o.fdiv 12) u.l_odd D h0 h5 hcell
    have eo : evE true (run P (n + 8)) (El s c (.int sg) z (.ref 0) a b (.int o) .undef .undef .undef .undef .undef) (.call false "_law_odd" [.var 4, .bin .fdiv (.var 7) (.int 12)]) h = .ok v h := call_2 (v_at (v := .ref 0) rfl trivial) (b_fdiv (x := o) (y := 12) rfl rfl (by decide)) e
    obtain ⟨rv, r1, r2⟩ := pick (F := run P (n + 8)) (h := h) (ρ := El s c (.int sg) z (.ref 0) a b (.int o) .undef .undef .undef .undef .undef) (es := [.var 4, .call false "_law_odd" [.var 4, .bin .fdiv (.var 7) (.int 12)]]) (i := .bin .mod (.bin .fdiv (.var 7) (.int 6)) (.int 2)) (m := 2) (c := o.fdiv 6) (fun v => v.val) (by decide) rfl
      (es_cons (v := .ref 0) rfl (es_cons eo rfl)) (b_mod (y := 2) (b_fdiv (x := o) (y := 6) rfl rfl (by decide)) rfl (by decide))
      (all_cons trivial (all_cons nr.vl all_nil)) (show 2 ≤ 1000000 by decide)
    have ea := asked_err (n := n + 3) u.l_asked (z := z) (rv := rv) z2.1.val r2 (by decide) (joined_size (n := n + 3) u.l_asked.joined_all (h := h) (rv := rv) z2.1 z2.2)
    have ec := call_2 (F := run P (n + 8)) (ρ := El s c (.int sg) z (.ref 0) a b (.int o) .undef .undef .undef .undef .undef) (f := "_law_asked") (v_at (i := 3) (v := z) rfl z2.1.val) r1 (by rw [ea]; exact pcall_ok rfl h)
    exact e_eq ec (w := .tup [.int 0]) rfl (eqT h 0)
end
end L05
end Mine

namespace Mine
namespace L05
section
variable {P : Tab} {n : Nat} {h : H}

theorem iter_ref {G : H} {i : Nat} {vs : List V} (e : G[i]? = some (.list vs)) : iterOf G (.ref i) = some (vs, some (i, .list vs)) := by
  unfold iterOf; simp only [e]
theorem cells_at (h : H) (ts : List (List Nat)) (i : Nat) (hi : i < ts.length) : (h ++ cells ts)[h.length + i]? = some (.list (V.nats (ts.getD i []))) := by
  rw [List.getElem?_append_right (Nat.le_add_right _ _), Nat.add_sub_cancel_left, cells, List.getElem?_map, List.getD_eq_getElem?_getD, List.getElem?_eq_getElem hi]; rfl
theorem refs_cons (b m : Nat) : refs b (m + 1) = .ref b :: refs (b + 1) m := by
  rw [refs, refs, List.range_succ_eq_map, List.map_cons, List.map_map]
  congr 1
  refine List.map_congr_left fun i _ => ?_
  show V.ref (b + (i + 1)) = V.ref (b + 1 + i)
  rw [Nat.add_right_comm, Nat.add_assoc]
theorem rg_refs {h : H} : ∀ (ls : List (List Nat)) (b : Nat), (∀ i, i < ls.length → h[b + i]? = some (.list (V.nats (ls.getD i [])))) → (∀ l ∈ ls, 0 < l.length ∧ l.length ≤ 256) → Rg h (refs b ls.length) ls
  | [], _, _, _ => .nil
  | l :: ls, b, hc, hl => by
    rw [List.length_cons, refs_cons]
    refine .cons (IsL.ref (hc 0 (Nat.succ_pos _))) (hl l (List.mem_cons_self ..)).1 (hl l (List.mem_cons_self ..)).2 (rg_refs ls (b + 1) (fun i hi => ?_) fun x hx => hl x (List.mem_cons_of_mem _ hx))
    have := hc (i + 1) (Nat.succ_lt_succ hi)
    rw [← Nat.add_assoc, Nat.add_right_comm] at this
    exact this
theorem rg_lists {h : H} : ∀ (ls : List (List Nat)), (∀ l ∈ ls, 0 < l.length ∧ l.length ≤ 256) → Rg h (V.lists ls) ls
  | [], _ => .nil
  | l :: ls, hl => .cons (IsL.lst h l) (hl l (List.mem_cons_self ..)).1 (hl l (List.mem_cons_self ..)).2 (rg_lists ls fun x hx => hl x (List.mem_cons_of_mem _ hx))
theorem tot_le : ∀ (rs : List (List Nat)), (∀ r ∈ rs, r.length ≤ 5) → tot rs ≤ 5 * rs.length
  | [], _ => Nat.le_refl _
  | r :: rs, h => by
    rw [tot, List.map_cons, List.sum_cons, List.length_cons, Nat.mul_succ, Nat.add_comm]
    exact Nat.add_le_add (tot_le rs fun x hx => h x (List.mem_cons_of_mem _ hx)) (h r (List.mem_cons_self ..))

/-- the cells that the law has made: the rings, what was handed -/
structure HC (rs : List (List Nat)) (G : H) : Prop where
  r : G[0]? = some (.list (V.lists rs))
  c : ∀ i, i < rs.length → G[1 + i]? = some (.list (V.nats (rs.getD i [])))
theorem HC.app {rs : List (List Nat)} {G : H} (x : HC rs G) (e : H) : HC rs (G ++ e) := ⟨by rw [List.getElem?_append_left (List.getElem?_eq_some_iff.1 x.r).1]; exact x.r, fun i hi => by rw [List.getElem?_append_left (List.getElem?_eq_some_iff.1 (x.c i hi)).1]; exact x.c i hi⟩
section
variable {F : Fn} {ρ : List V} {G : H} {rs : List (List Nat)}
theorem hand_ne (x : HC rs G) (e9 : ρ[9]? = some (.lst (refs 1 rs.length))) (e4 : ρ[4]? = some (.ref 0)) : evE true F ρ (.cmp .ne (.var 9) (.var 4)) G = .ok (.bool false) G := by
  refine e_ne (t := true) (v_at e9 trivial) (v_at e4 trivial) ?_
  have f1 : frz 0 G (.lst (refs 1 rs.length)) = some (.lst (V.lists rs)) := by
    show Option.map V.lst (V.mapRefs (frzAt 4 0 G) (refs 1 rs.length)) = _
    rw [mapRefs_refs _ 1 rs fun i hi => frzAt_nats (Nat.zero_le _) (by rw [x.c i hi, List.getD_eq_getElem?_getD, List.getElem?_eq_getElem hi]; rfl)]; rfl
  have f2 : frz 0 G (.ref 0) = some (.lst (V.lists rs)) := frz_items (litems_ref x.r) (lists_plain rs)
  rw [pyEq_LL f1 f2, decide_eq_true rfl]
theorem copy_ev (xr : G[0]? = some (.list (V.lists rs))) (h5 : rs.length ≤ 5) (e4 : ρ[4]? = some (.ref 0)) (hr : 14 < ρ.length) : evE true F ρ (.comp (.bf .list (.var 14)) 14 (.seq (.var 4)) .none) G = .ok (.lst (V.lists rs)) G := by
  have hit : evIt true F ρ (.seq (.var 4)) G = .ok (rs.map (fun r => V.lst (V.nats r)), some (0, .list (V.lists rs))) G := by
    rw [qI_1, v_at e4 trivial, R.bind_ok]
    rw [iter_ref xr]; rfl
  refine ev_comp hit (decide_eq_true xr) (fun r => .lst (V.nats r)) (fun r _ => lst_ev (List.getElem?_set_self hr) rfl) ?_
  exact mkL_eq (by rw [List.length_map]; exact Nat.le_trans h5 (by decide))
theorem bools_nil {v : V} {vs : List V} {t : Watch} (e10 : ρ[10]? = some v) (hv : v.val) (hi : iterOf G v = some (vs, t)) (ht : t.ok G = true) (hr : 15 < ρ.length) (hx : ∀ x ∈ vs, ∃ i : Int, x = .int i) : evE true F ρ (.cmp .ne (.comp (.var 15) 15 (.seq (.var 10)) (some (.isinst (.var 15) [.bool]))) (.list [])) G = .ok (.bool false) G := by
  have hit : evIt true F ρ (.seq (.var 10)) G = .ok (vs.map id, t) G := by rw [qI_1, v_at e10 hv, R.bind_ok, hi, List.map_id]; rfl
  refine e_ne (t := true) (v := .lst (V.nats [])) (w := .lst (V.nats [])) ?_ rfl (by rw [pyEq_L (IsL.lst G []) (IsL.lst G []), decide_eq_true rfl])
  refine ev_compF (r := .lst []) hit ht (fun x => x) (fun _ => false) (fun x hm => ?_) (fun x _ e => by cases e) (by rw [List.filter_eq_nil_iff.2 (fun _ _ e => by cases e)]; rfl)
  obtain ⟨i, rfl⟩ := hx x hm
  show evE true F (ρ.set 15 (.int i)) _ G = _
  rw [qE_21, v_at (v := .int i) (List.getElem?_set_self hr) trivial]; rfl
end

/-- rings drawn: their sums -/
theorem drawn_256 {rs : List (List Nat)} (D : Drawn rs) : ∀ l ∈ rs, 0 < l.length ∧ l.length ≤ 256 := fun l hl => ⟨(D.len l hl).1, Nat.le_trans (D.len l hl).2 (by decide)⟩
theorem drawn_tot {rs : List (List Nat)} (D : Drawn rs) (h5 : rs.length ≤ 5) : tot rs ≤ 25 := Nat.le_trans (tot_le rs fun r hr => (D.len r hr).2) (Nat.mul_le_mul_left 5 h5)
theorem flat_tot (k : Nat) : ∀ rs : List (List Nat), (rs.flatMap fun r => rws r k).length = tot rs
  | [] => rfl
  | r :: rs => by rw [List.flatMap_cons, List.length_append, flat_tot k rs, rws_len, tot, tot, List.map_cons, List.sum_cons]

/-- the rings asked for: their words -/
theorem words_loop (u : UL_words P) {rs : List (List Nat)} {G : H} {k : Nat} (x : HC rs G) (D : Drawn rs) (h5 : rs.length ≤ 5) (k8 : k ≤ 8) (s : List Int) (c : Int) (sg a b o due hd td : V) :
    ∃ w, ∀ (ss : List PS) (r : R V), (exSs true (run P (n + 2)) ss (El s c sg (.int k) (.ref 0) a b o due hd td (.lst (V.lists (rs.flatMap fun r => rws r k))) w) G).out = r →
    (exSs true (run P (n + 2)) (.for1 12 (.seq (.var 4)) [.asg 11 (.bin .add (.var 11) (.call false "_law_words" [.var 12, .var 3]))] :: ss) (El s c sg (.int k) (.ref 0) a b o due hd td (.lst []) .undef) G).out = r := by
  have hit : evIt true (run P (n + 2)) (El s c sg (.int k) (.ref 0) a b o due hd td (.lst []) .undef) (.seq (.var 4)) G = .ok (rs.map (fun r => V.lst (V.nats r)), some (0, .list (V.lists rs))) G := by
    rw [qI_1, v_at (v := .ref 0) rfl trivial, R.bind_ok]
    rw [iter_ref x.r]; rfl
  have hb : ∀ (q : List (List Nat)) (l : List Nat) (q' : List (List Nat)) (v : V), rs = q ++ l :: q' → exSs true (run P (n + 2)) [.asg 11 (.bin .add (.var 11) (.call false "_law_words" [.var 12, .var 3]))] ((El s c sg (.int k) (.ref 0) a b o due hd td (.lst (V.lists (q.flatMap fun r => rws r k))) v).set 12 (.lst (V.nats l))) G = .ok .next (El s c sg (.int k) (.ref 0) a b o due hd td (.lst (V.lists ((q ++ [l]).flatMap fun r => rws r k))) (.lst (V.nats l))) G := by
    intro q l q' v hq
    have hl : l ∈ rs := by rw [hq]; exact List.mem_append_right _ (List.mem_cons_self ..)
    have dl := D.len l hl
    have ql : tot q ≤ 25 := by
      have : tot q ≤ tot rs := by rw [hq, tot, tot, List.map_append, List.sum_append]; exact Nat.le_add_right _ _
      exact Nat.le_trans this (drawn_tot D h5)
    have ec := call_2 (F := run P (n + 2)) (ρ := El s c sg (.int k) (.ref 0) a b o due hd td (.lst (V.lists (q.flatMap fun r => rws r k))) (.lst (V.nats l))) (f := "_law_words") (v_at (i := 12) (v := .lst (V.nats l)) rfl trivial) (v_at (i := 3) (v := .int k) rfl trivial) (words_run (n := n) u (IsL.lst G l) dl.1 (Nat.le_trans dl.2 (by decide)) k8)
    show exSs true (run P (n + 2)) [.asg 11 _] (El s c sg (.int k) (.ref 0) a b o due hd td (.lst (V.lists (q.flatMap fun r => rws r k))) (.lst (V.nats l))) G = _
    rw [ss_cons', qS_2, qE_7, v_at (v := .lst (V.lists (q.flatMap fun r => rws r k))) rfl trivial, R.bind_ok, ec, R.bind_ok, addLL G _ _ (by rw [lists_len, lists_len, flat_tot, rws_len]; omega)]
    rw [List.flatMap_append, List.flatMap_cons, List.flatMap_nil, List.append_nil]
    unfold V.lists
    rw [List.map_append]; rfl
  obtain ⟨w, e⟩ := forL_M (t := some (0, .list (V.lists rs))) (x := 12) (body := fun ρ h => exSs true (run P (n + 2)) [.asg 11 (.bin .add (.var 11) (.call false "_law_words" [.var 12, .var 3]))] ρ h) rs (fun r => V.lst (V.nats r)) (fun q v => El s c sg (.int k) (.ref 0) a b o due hd td (.lst (V.lists (q.flatMap fun r => rws r k))) v) (fun _ => G) (fun _ => decide_eq_true x.r) hb .undef
  refine ⟨w, fun ss r hk => ?_⟩
  rw [ss_cons', s_for1', if_neg (by decide), hit, R.st_ok]
  show (RS.then (forL _ (bind1 12) _ (rs.map fun r => V.lst (V.nats r)) (El s c sg (.int k) (.ref 0) a b o due hd td (.lst (V.lists (([] : List (List Nat)).flatMap fun r => rws r k))) .undef) G) _).out = r
  rw [e, RS.then_next]; exact hk
end
end L05
end Mine

namespace Mine
namespace L05
section
variable {P : Tab} {n : Nat} {h : H}

theorem app_loop {F : Fn} {rs : List (List Nat)} {G : H} (x : HC rs G) (D : Drawn rs) (h5 : rs.length ≤ 5) (s : List Int) (c : Int) (sg k a b o due td ws rg : V) :
    ∃ G' w, (∀ i, i = 0 ∨ rs.length < i → G'[i]? = G[i]?) ∧ ∀ (ss : List PS) (r : R V), (exSs true F ss (El s c sg k (.ref 0) a b o due (.lst (refs 1 rs.length)) td ws w) G').out = r →
    (exSs true F (.for1 12 (.seq (.var 9)) [.expr (.append (.var 12) (.int 0))] :: ss) (El s c sg k (.ref 0) a b o due (.lst (refs 1 rs.length)) td ws rg) G).out = r := by
  have L := s_forI (F := F) (h := G) (x := 12) (it := .seq (.var 9)) (body := [.expr (.append (.var 12) (.int 0))]) (ρ := El s c sg k (.ref 0) a b o due (.lst (refs 1 rs.length)) td ws rg) (l := List.range rs.length) (c := fun i : Nat => V.ref (1 + i)) (fun q ρ g => ∃ w, ρ = El s c sg k (.ref 0) a b o due (.lst (refs 1 rs.length)) td ws w ∧ (∀ i, i = 0 ∨ rs.length < i → g[i]? = G[i]?) ∧ ∀ i, i < rs.length → ∃ vs, g[1 + i]? = some (.list vs) ∧ vs.length ≤ 5 + q.length) rfl
    ⟨_, rfl, fun _ _ => rfl, fun i hi => ⟨_, x.c i hi, by rw [nats_length]; exact (D.len _ (getD_mem hi)).2⟩⟩ (by
      intro q i q' ρ g hq hi
      obtain ⟨w, rfl, h1, h2⟩ := hi
      have hql := congrArg List.length hq
      rw [List.length_range, List.length_append] at hql
      have hi : i < rs.length := by
        have : i ∈ List.range rs.length := by rw [hq]; exact List.mem_append_right _ (List.mem_cons_self ..)
        exact List.mem_range.1 this
      obtain ⟨vs, e1, e2⟩ := h2 i hi
      have ea := app_ev (F := F) (ρ := El s c sg k (.ref 0) a b o due (.lst (refs 1 rs.length)) td ws (.ref (1 + i))) (e := .var 12) (v_at (v := .ref (1 + i)) rfl trivial) e1 (Nat.lt_of_le_of_lt (Nat.le_trans e2 (Nat.add_le_add_left (Nat.le_trans (Nat.le_add_right _ _) (Nat.le_trans (Nat.le_of_eq hql.symm) h5)) 5)) (by decide))
      refine ⟨_, app0 g (1 + i), ?_, .ref (1 + i), rfl, fun j hj => ?_, fun j hj => ?_⟩
      · show exSs true F [.expr _] (El s c sg k (.ref 0) a b o due (.lst (refs 1 rs.length)) td ws (.ref (1 + i))) g = _
        rw [ss_cons', qS_1, ea]; rfl
      · rw [app0_ne g (hj.elim (fun e => by rw [e]; exact Nat.ne_of_lt (Nat.add_pos_left Nat.one_pos _)) fun e => Nat.ne_of_gt (Nat.lt_of_le_of_lt (by rw [Nat.add_comm]; exact hi) e))]; exact h1 j hj
      · rw [List.length_append, List.length_singleton]
        by_cases e : j = i
        · subst e
          exact ⟨_, app0_self e1, by rw [List.length_append, List.length_singleton]; exact Nat.succ_le_succ e2⟩
        · obtain ⟨us, e3, e4⟩ := h2 j hj
          exact ⟨us, by rw [app0_ne g fun q => e (Nat.add_left_cancel q)]; exact e3, Nat.le_succ_of_le e4⟩)
  obtain ⟨ρ', g', e, w, rfl, h1, _⟩ := L
  refine ⟨g', w, h1, fun ss r hk => ?_⟩
  rw [show ∀ (s : PS) (ss : List PS), s :: ss = [s] ++ ss from fun _ _ => rfl, exSs_app, e]
  exact hk

theorem due_add {F : Fn} {ρ : List V} {G : H} {l : List Nat} (e8 : ρ[8]? = some (.lst (V.nats l))) (hl : l.length ≤ 1000) : evE true F ρ (.bin .add (.var 8) (.list [.int 0])) G = .ok (.lst (V.nats (l ++ [0]))) G :=
  b_addL (v_at e8 trivial) (y := [0]) rfl (Nat.le_trans (Nat.succ_le_succ hl) (by decide))

set_option maxHeartbeats 4000000 in
theorem law_good (u : UL_law P) (s : List Int) {rs : List (List Nat)} {sg k : Nat} {a b : V} (D : Drawn rs) (h0 : 0 < rs.length) (h5 : rs.length ≤ 5) (hk : 1 ≤ k) (k4 : k ≤ 4) (c1 : ¬ (cellAt s 1).fmod 8 = 1) (c2 : ¬ (cellAt s 1).fmod 8 = 2) :
    ∃ g, (exSs true (run P (n + 8)) (L_law.body.drop 5) (El s (cellAt s 0) (.int sg) (.int k) (.ref 0) a b .undef .undef .undef .undef .undef .undef) [.list (V.lists rs)]).out = .ok (.bool true) g := by
  have k8 : k ≤ 8 := Nat.le_trans k4 (by decide)
  have cel : ∀ (ρ : List V) (g : H), ρ[0]? = some (V.ints s) → evE true (run P (n + 8)) ρ (.call false "_law_cell_at" [.var 0, .int 1]) g = .ok (.int (cellAt s 1)) g := fun ρ g e0 => call_2 (v_at e0 trivial) rfl (cell_p (n := n + 7) u.l_cell_at s 1)
  generalize cellAt s 0 = c
  have t25 := drawn_tot D h5
  have d256 := drawn_256 D
  obtain ⟨l0, ls, hrs⟩ : ∃ l0 ls, rs = l0 :: ls := by
    cases rs with
    | nil => exact absurd h0 (Nat.lt_irrefl _)
    | cons l ls => exact ⟨l, ls, rfl⟩
  have hsum : tot (l0 :: ls) ≤ 256 := by rw [← hrs]; exact Nat.le_trans t25 (by decide)
  have dig : ∀ l ∈ l0 :: ls, ∀ d ∈ l, d < 9 := by rw [← hrs]; exact D.dig
  have S : DS l0 ls := ⟨(D.len l0 (by rw [hrs]; exact List.mem_cons_self ..)).1, fun l hl => (D.len l (by rw [hrs]; exact List.mem_cons_of_mem _ hl)).1, hsum⟩
  have hdue := due_run (n := n + 5) (h := [.list (V.lists rs)]) u.l_due hk k8 S
  rw [← hrs] at hdue
  -- what is told, wherever the rings stand
  have told : ∀ (G : H) (vs : List V), Rg G vs rs → match jall (k - 1) ls.length l0 ls with
      | some l => ∃ x e, run P (n + 8) true "_law_asked" [.int k, .lst vs] G = .ok (.ref x) (G ++ e) ∧ (G ++ e)[x]? = some (.list (V.nats l)) ∧ G.length ≤ x
      | none => ∃ e, run P (n + 8) true "_law_asked" [.int k, .lst vs] G = .ok (.tup [.int 6]) (G ++ e) := fun G vs rg => by
    rw [hrs] at rg
    have := joined_ok (n := n + 3) (h := G) (rv := .lst vs) u.l_asked.joined_all hk k8 rfl rg dig hsum
    cases hj : jall (k - 1) ls.length l0 ls with
    | none =>
      rw [hj] at this
      obtain ⟨e, this⟩ := this
      exact ⟨e, asked_err (n := n + 3) (z := .int k) (rv := .lst vs) u.l_asked trivial trivial (by decide) this⟩
    | some l =>
      rw [hj] at this
      obtain ⟨x, e, e1, e2, e3⟩ := this
      exact ⟨x, e, asked_ok (n := n + 3) (z := .int k) (rv := .lst vs) u.l_asked trivial trivial e1, e2, e3⟩
  have words := fun l (hj : jall (k - 1) ls.length l0 ls = some l) => jall_words hk ls.length l0 ls l rfl hj
  have x0 : ([Cell.list (V.lists rs)] : H)[0]? = some (.list (V.lists rs)) := rfl
  have X1 : HC rs ([.list (V.lists rs)] ++ cells rs) := ⟨rfl, fun i hi => cells_at [.list (V.lists rs)] rs i hi⟩
  have rg1 : Rg ([.list (V.lists rs)] ++ cells rs) (refs 1 rs.length) rs := rg_refs rs 1 X1.c d256
  have T := told _ _ rg1
  have len1 : ([Cell.list (V.lists rs)] ++ cells rs).length = 1 + rs.length := by rw [List.length_append, cells, List.length_map]; rfl
  have hcomp : evE true (run P (n + 8)) (El s c (.int sg) (.int k) (.ref 0) a b (.int ((cellAt s 1).fdiv 8)) (dueV (jall (k - 1) ls.length l0 ls)) .undef .undef .undef .undef) (.comp (.own (.bf .list (.var 14))) 14 (.seq (.var 4)) .none) [.list (V.lists rs)] = .ok (.lst (refs 1 rs.length)) ([.list (V.lists rs)] ++ cells rs) := by
    have hit : evIt true (run P (n + 8)) (El s c (.int sg) (.int k) (.ref 0) a b (.int ((cellAt s 1).fdiv 8)) (dueV (jall (k - 1) ls.length l0 ls)) .undef .undef .undef .undef) (.seq (.var 4)) [.list (V.lists rs)] = .ok (rs.map (fun r => V.lst (V.nats r)), some (0, .list (V.lists rs))) [.list (V.lists rs)] := rfl
    exact ev_compOwn hit (decide_eq_true x0) (fun r => V.nats r) (fun r g _ => own_ev (lst_ev (v := .lst (V.nats r)) rfl rfl)) (Nat.le_trans h5 (by decide))
  generalize ([Cell.list (V.lists rs)] ++ cells rs : H) = H1 at X1 rg1 T len1 hcomp
  have c81 : ∀ m : Int, evE true (run P (n + 8)) (El s c (.int sg) (.int k) (.ref 0) a b (.int ((cellAt s 1).fdiv 8)) .undef .undef .undef .undef .undef) (.cmp .eq (.bin .mod (.call false "_law_cell_at" [.var 0, .int 1]) (.int 8)) (.int m)) [.list (V.lists rs)] = .ok (.bool (decide ((cellAt s 1).fmod 8 = m))) [.list (V.lists rs)] := fun m => c_eqI (b_mod (y := 8) (cel _ _ rfl) rfl (by decide)) rfl
  -- the way in
  have begin_ : ∀ {res : R V} {td : V} {e : H}, run P (n + 8) true "_law_asked" [.int k, .lst (refs 1 rs.length)] H1 = .ok td (H1 ++ e) → (exSs true (run P (n + 8)) (L_law.body.drop 11) (El s c (.int sg) (.int k) (.ref 0) a b (.int ((cellAt s 1).fdiv 8)) (dueV (jall (k - 1) ls.length l0 ls)) (.lst (refs 1 rs.length)) td .undef .undef) (H1 ++ e)).out = res → (exSs true (run P (n + 8)) (L_law.body.drop 5) (El s c (.int sg) (.int k) (.ref 0) a b .undef .undef .undef .undef .undef .undef) [.list (V.lists rs)]).out = res := fun {res td e} ea hres => by
    refine o_asg (b_fdiv (y := 8) (cel _ _ rfl) rfl (by decide)) (ρ' := El s c (.int sg) (.int k) (.ref 0) a b (.int ((cellAt s 1).fdiv 8)) .undef .undef .undef .undef .undef) rfl ?_
    refine o_ifF ((c81 1).trans (by rw [decide_eq_false c1])) (o_ifF ((c81 2).trans (by rw [decide_eq_false c2])) ?_)
    refine o_asg (call_2 (f := "_law_due") (v_at (v := .int k) rfl trivial) (copy_ev x0 h5 rfl (show 14 < 16 by decide)) hdue) (ρ' := El s c (.int sg) (.int k) (.ref 0) a b (.int ((cellAt s 1).fdiv 8)) (dueV (jall (k - 1) ls.length l0 ls)) .undef .undef .undef .undef) rfl ?_
    refine o_asg hcomp (ρ' := El s c (.int sg) (.int k) (.ref 0) a b (.int ((cellAt s 1).fdiv 8)) (dueV (jall (k - 1) ls.length l0 ls)) (.lst (refs 1 rs.length)) .undef .undef .undef) rfl ?_
    refine o_asg ?_ (ρ' := El s c (.int sg) (.int k) (.ref 0) a b (.int ((cellAt s 1).fdiv 8)) (dueV (jall (k - 1) ls.length l0 ls)) (.lst (refs 1 rs.length)) td .undef .undef) rfl hres
    have args : evEs true (run P (n + 8)) (El s c (.int sg) (.int k) (.ref 0) a b (.int ((cellAt s 1).fdiv 8)) (dueV (jall (k - 1) ls.length l0 ls)) (.lst (refs 1 rs.length)) .undef .undef .undef) [.var 3, .var 9] H1 = .ok [.int k, .lst (refs 1 rs.length)] H1 := es_cons rfl (es_cons rfl rfl)
    rw [qE_27, args, R.bind_ok]; exact ea
  generalize (cellAt s 1).fdiv 8 = o at begin_
  cases hj : jall (k - 1) ls.length l0 ls with
  | none =>
    rw [hj] at T begin_
    obtain ⟨e, ea⟩ := T
    refine ⟨_, begin_ ea (o_ifF (or3 (e_ne (t := true) (v := .tup [.int 6]) (w := .tup [.int 6]) rfl rfl (eqT _ 6)) (hand_ne (X1.app e) rfl rfl) (bools_nil (v := .tup [.int 6]) (vs := [.int 6]) (t := Option.none) rfl trivial rfl rfl (show 15 < 16 by decide) (all_cons ⟨6, rfl⟩ all_nil))) (o_ifT (h' := H1 ++ e) rfl (o_ret rfl)))⟩
  | some l =>
    rw [hj] at T begin_
    obtain ⟨x, e, ea, ex, lx⟩ := T
    have wl := words l hj
    have wl' : (rws l k).Perm (rs.flatMap fun r => rws r k) := by rw [hrs, List.flatMap_cons]; exact wl
    have ll : l.length = tot rs := by have := wl'.length_eq; rw [rws_len, flat_tot] at this; exact this
    have tpos : 0 < tot rs := by rw [hrs, tot, List.map_cons, List.sum_cons]; exact Nat.lt_of_lt_of_le S.f0 (Nat.le_add_right _ _)
    have X2 := X1.app e
    have il : IsL (H1 ++ e) (.ref x) l := IsL.ref ex
    have again : ∀ (G : H), G[0]? = some (.list (V.lists rs)) → ∀ {ρ : List V}, ρ[3]? = some (.int k) → ρ[4]? = some (.ref 0) → 14 < ρ.length → evE true (run P (n + 8)) ρ (.call false "_law_asked" [.var 3, .comp (.bf .list (.var 14)) 14 (.seq (.var 4)) .none]) G = .ok (.lst (V.nats l)) G := fun G hG ρ e3 e4 hr => by
      have T := told G (V.lists rs) (rg_lists rs d256)
      rw [hj] at T
      obtain ⟨y, e', t1, t2, t3⟩ := T
      refine call_2 (v_at e3 trivial) (copy_ev hG h5 e4 hr) ?_
      rw [t1]
      exact pcall_new _ _ (frzAt_nats t3 t2)
    have B := fun res : R V => begin_ (res := res) ea
    clear told hdue hcomp c81 begin_ ea
    generalize hG2 : H1 ++ e = G2 at *
    have lx' : rs.length < x := by rw [len1, Nat.add_comm] at lx; exact lx
    obtain ⟨w, hw⟩ := words_loop (n := n + 6) (k := k) u.l_words X2 D h5 k8 s c (.int sg) a b (.int o) (.lst (V.nats l)) (.lst (refs 1 rs.length)) (.ref x)
    have X3 : HC rs (app0 G2 x) := ⟨by rw [app0_ne _ (Nat.ne_of_lt (Nat.zero_lt_of_lt lx'))]; exact X2.r, fun i hi => by rw [app0_ne _ (Nat.ne_of_lt (Nat.lt_of_le_of_lt (by rw [Nat.add_comm]; exact hi) lx'))]; exact X2.c i hi⟩
    have ex3 : (app0 G2 x)[x]? = some (.list (V.nats (l ++ [0]))) := by rw [← nats0]; exact app0_self ex
    obtain ⟨G4, w', h4, ha⟩ := app_loop (F := run P (n + 8)) X3 D h5 s c (.int sg) (.int k) a b (.int o) (.lst (V.nats l)) (.ref x) (.lst (V.lists (rs.flatMap fun r => rws r k))) w
    refine ⟨G4, B _ ?_⟩
    clear B
    refine o_ifF (or3 (e_ne (t := true) (v := .ref x) (w := .lst (V.nats l)) rfl rfl (by rw [pyEq_L il (IsL.lst _ l), decide_eq_true rfl])) (hand_ne X2 rfl rfl) (bools_nil (v := .ref x) rfl trivial (iter_ref ex) (decide_eq_true ex) (show 15 < 16 by decide) fun v hv => by obtain ⟨d, _, rfl⟩ := nats_val hv; exact ⟨_, rfl⟩)) ?_
    refine o_ifF (h' := G2) rfl ?_
    refine o_asg (v := .lst []) (h' := G2) rfl (ρ' := El s c (.int sg) (.int k) (.ref 0) a b (.int o) (.lst (V.nats l)) (.lst (refs 1 rs.length)) (.ref x) (.lst []) .undef) rfl ?_
    refine hw _ _ ?_
    -- in order
    have srt : evE true (run P (n + 8)) (El s c (.int sg) (.int k) (.ref 0) a b (.int o) (.lst (V.nats l)) (.lst (refs 1 rs.length)) (.ref x) (.lst (V.lists (rs.flatMap fun r => rws r k))) w) (.cmp .ne (.bf .sorted (.call false "_law_words" [.var 10, .var 3])) (.bf .sorted (.var 11))) G2 = .ok (.bool false) G2 := by
      obtain ⟨Sv, s1, s2, s3⟩ := sort_perm G2 wl' (by rw [rws_len, ll]; exact tpos) (by rw [rws_len, ll]; exact Nat.lt_of_le_of_lt t25 (by decide))
      obtain ⟨L, rfl⟩ := all_lists s3
      have ec := call_2 (F := run P (n + 8)) (ρ := El s c (.int sg) (.int k) (.ref 0) a b (.int o) (.lst (V.nats l)) (.lst (refs 1 rs.length)) (.ref x) (.lst (V.lists (rs.flatMap fun r => rws r k))) w) (f := "_law_words") (v_at (i := 10) (v := .ref x) rfl trivial) (v_at (i := 3) (v := .int k) rfl trivial) (words_run (n := n + 6) u.l_words il (by rw [ll]; exact tpos) (by rw [ll]; exact Nat.le_trans t25 (by decide)) k8)
      refine e_ne (t := true) (v := .lst (V.lists L)) (w := .lst (V.lists L)) ?_ ?_ (by rw [pyEq_LL (frz_plain 0 G2 _ (lists_plain _)) (frz_plain 0 G2 _ (lists_plain _)), decide_eq_true rfl])
      · rw [b_bf (f := .sorted) rfl, ec, R.bind_ok]
        show R.opt ((sortVs G2 (V.lists (rws l k))).map V.lst) G2 = _
        rw [s1]; rfl
      · rw [b_bf (f := .sorted) rfl, v_at (v := .lst (V.lists (rs.flatMap fun r => rws r k))) rfl trivial, R.bind_ok]
        show R.opt ((sortVs G2 (V.lists (rs.flatMap fun r => rws r k))).map V.lst) G2 = _
        rw [s2]; rfl
    refine o_ifF srt ?_
    have llen : l.length ≤ 1000 := by rw [ll]; exact Nat.le_trans t25 (by decide)
    refine o_expr (app_ev (v_at (v := .ref x) rfl trivial) ex (by rw [nats_length]; exact Nat.lt_of_le_of_lt llen (by decide))) ?_
    generalize app0 G2 x = G3 at X3 ex3 h4 ha
    refine o_ifF (hand_ne X3 rfl rfl) ?_
    refine ha _ _ ?_
    have g0 : G4[0]? = some (.list (V.lists rs)) := (h4 0 (.inl rfl)).trans X3.r
    have gx : G4[x]? = some (.list (V.nats (l ++ [0]))) := (h4 x (.inr lx')).trans ex3
    refine o_ret (h' := G4) (v := .bool true) ?_
    have ag := again G4 g0 (ρ := El s c (.int sg) (.int k) (.ref 0) a b (.int o) (.lst (V.nats l)) (.lst (refs 1 rs.length)) (.ref x) (.lst (V.lists (rs.flatMap fun r => rws r k))) w') rfl rfl (show 14 < 16 by decide)
    have first := e_eq (t := true) ag (v_at (i := 8) (v := .lst (V.nats l)) rfl trivial) (by rw [pyEq_L (IsL.lst _ l) (IsL.lst _ l), decide_eq_true rfl])
    rw [qE_10, qA_3, first, R.bind_ok]
    show evE true (run P (n + 8)) _ (.cmp .eq _ _) G4 = _
    exact e_eq (v_at (v := .ref x) rfl trivial) (due_add (l := l) rfl llen) (by rw [pyEq_L (IsL.ref gx) (IsL.lst _ _), decide_eq_true rfl])

theorem law_eq (u : UL_law P) (n : Nat) (s : List Int) : ∃ h', run P (n + 9) true "law" [V.ints s] [] = .ok (.bool true) h' := by
  obtain ⟨rs, sg, k, a, b, D, h0, h5, hk, k4, go⟩ := law_start (n := n) u s
  by_cases c1 : (cellAt s 1).fmod 8 = 1
  · exact ⟨_, go _ (law_odd (n := n) u s D h0 h5 hk k4 (.inl c1))⟩
  · by_cases c2 : (cellAt s 1).fmod 8 = 2
    · exact ⟨_, go _ (law_odd (n := n) u s D h0 h5 hk k4 (.inr c2))⟩
    · obtain ⟨g, e⟩ := law_good (n := n) u s D h0 h5 hk k4 c1 c2
      exact ⟨g, go _ e⟩
end
end L05
end Mine

set_option maxRecDepth 100000
set_option maxHeartbeats 8000000
namespace Mine
open PySem PySem.W PyProof.Rows
noncomputable def view : Program := keepAt ((List.range 33).filter fun i => !([0, 9, 15, 18, 23].contains i)) PySem.Challenge.rw_uf010021_05.row.prog
theorem b0 : PySem.Challenge.rw_uf010021_05.wellSaid = true := by kernel_rfl
theorem b1 : LeftO PySem.Challenge.rw_uf010021_05.row.prog view [] (fun s => xlAt view [] s && recOk (RowW.records PySem.Challenge.rw_uf010021_05.row.toRowW) s) (fun s => hookB L05.nums s.heap) (fun _ => true) 4976 := fun w => by kernel_rfl
theorem b2 : (defOf view PySem.Challenge.rw_uf010021_05.row.name).isSome = true := by kernel_rfl
theorem b3 : PySem.Challenge.rw_uf010021_05.row.prog.theDef PySem.Challenge.rw_uf010021_05.row.name = (defOf view PySem.Challenge.rw_uf010021_05.row.name).map fun x => (x.1.params, x.1.body, x.1.scope) := by kernel_rfl
theorem b4 : ((defOf view PySem.Challenge.rw_uf010021_05.row.name).map fun x => kwWritten? x.1.params.kwonlyargs x.1.params.kw_defaults) = (defOf view PySem.Challenge.rw_uf010021_05.row.name).map fun x => some x.2 := by kernel_rfl
theorem b5 : (chainsOk view && opensWell PySem.Challenge.rw_uf010021_05.row.prog && (frees PySem.Challenge.rw_uf010021_05.row.toRowW && PySem.Challenge.rw_uf010021_05.row.within.isEmpty)) = true := by kernel_rfl
theorem b6 : PySem.Challenge.rw_uf010021_05.row.prog.bare := ⟨rfl, rfl, rfl, rfl, rfl, by decide +kernel⟩
theorem b7 : PySem.Challenge.rw_uf010021_05.row.toRowW.promised := by w_witness2
theorem b8 : importsNone view = true := by kernel_rfl
theorem b9 : specChk view = true := by kernel_rfl
theorem b10 : defChk view L05.fns L05.nums L05.tl = true := by kernel_rfl
theorem b11 : fnsChk view L05.fns = true := by kernel_rfl
end Mine
open PySem PySem.W PyProof.Rows
theorem PySem.Challenge.cw_uf010021_05_holds : PySem.Challenge.rw_uf010021_05.Holds := by
  refine Mine.law_head Mine.b0 (row_said Mine.b0) Mine.b1 Mine.b2 Mine.b3 Mine.b4 rfl Mine.b5 Mine.b6 Mine.b7 ?_
  intro d kwd hdef w s₀ s₁ mg mb G Y fa o pm cd doc dV kV ho hd hcd hD hmg hg args vals as hpre hlay hrd hwl hlo
  obtain ⟨K, KX, k3, k5, k8⟩ := Y
  refine Ground.open G ?_
  intro T B D TE TW
  have hmg' : mg (Str.ofString "law") = some (.ref fa) := by rw [defOf_name hdef] at hmg; exact hmg
  clear ho hd hcd hD G hmg hdef
  wrow_args hpre hlay hrd hwl hlo
  rename_i hL _ _ _ hI _ hc _
  obtain ⟨H', hrun⟩ := Mine.L05.law_eq Mine.L05.u_L_law 0 _
  refine Mine.law_wp T KX Mine.b8 rfl k3 Mine.b9 k5 Mine.b10 Mine.b11 k8 (by simp [Mine.L05.fns]) hmg' hL hI hc (by omega) hrun fun s' hs hk => ?_
  obtain ⟨h', tk, rfl⟩ := hs
  exact ⟨.inl ⟨.bool true, .bool true, [], rfl, fun _ => rfl, .bool true, by kernel_rfl, unshared_nil⟩, .of_keep hk, rfl, .of_eq hg⟩
