import PyProof.Rows.All
import Wide.All
import OpenK.AllK
import Wide.FinOn
import PySem.Value
import PyProof.Cells
import PyProof.CompFree
import PyProof.StationsW
import PyProof.RulesTry
import PyProof.TupleIter
import PyProof.TupleKey
import PyProof.DictKinds
import OpenK.KCall
import PyProof.NoPylong
import PyProof.Rows.IntRules
import PyProof.Rows.RuleB_sub
import PyProof.Rows.RuleB_mul
import PyProof.Rows.RuleB_mod
import PyProof.Rows.RuleB_floordiv
import PyProof.Rows.RuleB_pow
import PyProof.Rows.TupAdd
import PyProof.Rows.ListMul
import PyProof.ListMulAny
import PyProof.FitsBits
import PyProof.EqLayable
import PyProof.P3In
import PyProof.IsRules
import PyProof.PureInt
import PyProof.Rows.RuleC_int
import PyProof.DictRoadsH
import PyProof.Rows.SeqSlice
import PyProof.SliceMore
import PyProof.ListIndexNeg
import PyProof.LetGo
import PyProof.Rows.TupSub
import PyProof.WalksMore
import PyProof.RangeFor
import PyProof.ConsumeWalk
import PyProof.TupleOfSeq
import PyProof.TupleCall
import PyProof.ListCopy
import PyProof.CallStr
import PyProof.Conv_int_bool
import PyProof.ListRange
import KE.KRevIter
import KE.KIsAll
import PyProof.Rows.StrJoin2
import PyProof.SeqWrite
import KE.KSortAsk
import PyProof.MeetsSeq3
import PyProof.FactsAll.list_2
import PyProof.Rows.SortWalk
import PyProof.ExcArgsOwn
import KE.KTryMore
import PyProof.MakeMany
import PyProof.CallType
import PyProof.CallRoads
import PyProof.FactsAll.str_0
import PyProof.FactsAll.str_5
import PyProof.FactsAll.list_0
import PyProof.FactsAll.list_3
import PyProof.FactsAll.list_4
import PyProof.FactsAll.dict_3
import PyProof.ForRange
import PyProof.Rows.Range3
import PyProof.CompMap
import PyProof.ExcAttrAll.ValueError
import PyProof.CompUse
import PyProof.ForAny
import PyProof.ExcBaseAll.ValueError
import PyProof.NsDelKeeps
import PyProof.RulesAs
import OpenK.KWalk
import PyProof.Rows.Top
import PyProof.Rows.TupIn
import Wide.BridgeG
import Wide.Loose
import Open.Head
import PySem.Challenge.RW_uf010021_06
set_option tactic.hygienic false
set_option Elab.async false
set_option bootstrap.genMatcherCode false
set_option genSizeOf false
set_option linter.unusedSimpArgs false
set_option linter.unusedVariables false

namespace Mine
theorem hold {G : Prop} (h : ∀ X : Prop, (G → X) → X) : G := h G id
inductive V where
  | undef
  | none
  | bool (b : Bool)
  | int (i : Int)
  | str (s : String)
  | tup (vs : List V)
  | lst (vs : List V)
  | ref (i : Nat)
  | exc (c : String)
  | dct
deriving Inhabited
inductive Cell where
  | list (vs : List V)
  | dict (es : List (V × V))
deriving Inhabited
abbrev H := List Cell
noncomputable instance : DecidableEq V := fun z_ z_ => Classical.propDecidable _
noncomputable instance : DecidableEq Cell := fun z_ z_ => Classical.propDecidable _
inductive R (α : Type) where
  | ok (a : α) (h : H)
  | err (c : String) (h : H)
  | bad
noncomputable def R.bind {α β : Type} (r : R α) (f : α → H → R β) : R β :=
  match r with
  | .ok a h => f a h
  | .err c h => .err c h
  | .bad => .bad
@[simp] theorem R.bind_ok {α β : Type} (a : α) (h : H) (f : α → H → R β) : (R.ok a h).bind f = f a h := rfl
noncomputable def R.opt {α : Type} (o : Option α) (h : H) : R α :=
  match o with
  | some a => .ok a h
  | none => .bad
@[simp] theorem R.opt_some {α : Type} (a : α) (h : H) : R.opt (some a) h = .ok a h := rfl
mutual
noncomputable def V.mapRef (g : Nat → Option V) : V → Option V
  | .tup vs => (V.mapRefs g vs).map .tup
  | .lst vs => (V.mapRefs g vs).map .lst
  | .ref i => g i
  | .undef => some .undef
  | .none => some .none
  | .bool b => some (.bool b)
  | .int i => some (.int i)
  | .str s => some (.str s)
  | .exc c => some (.exc c)
  | .dct => some .dct
noncomputable def V.mapRefs (g : Nat → Option V) : List V → Option (List V)
  | [] => some []
  | v :: vs => (V.mapRef g v).bind fun v' => (V.mapRefs g vs).map (v' :: ·)
end
noncomputable def frzAt : Nat → Nat → H → Nat → Option V
  | 0, n, _, i => if i < n then some (.ref i) else Option.none
  | k + 1, n, h, i =>
    if i < n then some (.ref i)
    else match h[i]? with
      | some (.list vs) => (V.mapRefs (frzAt k n h) vs).map .lst
      | _ => Option.none
noncomputable def frz (n : Nat) (h : H) (v : V) : Option V := V.mapRef (frzAt 4 n h) v
mutual
noncomputable def V.plain : V → Bool
  | .tup vs => V.plains vs
  | .lst vs => V.plains vs
  | .ref _ => false
  | _ => true
noncomputable def V.plains : List V → Bool
  | [] => true
  | v :: vs => V.plain v && V.plains vs
end
mutual
theorem mapRef_plain (g : Nat → Option V) : ∀ v : V, v.plain = true → V.mapRef g v = some v
  | .tup vs, h => by simp only [V.plain] at h; simp [V.mapRef, mapRefs_plain g vs h]
  | .lst vs, h => by simp only [V.plain] at h; simp [V.mapRef, mapRefs_plain g vs h]
  | .ref _, h => by simp [V.plain] at h
  | .undef, _ => rfl
  | .none, _ => rfl
  | .bool _, _ => rfl
  | .int _, _ => rfl
  | .str _, _ => rfl
  | .exc _, _ => rfl
  | .dct, _ => rfl
theorem mapRefs_plain (g : Nat → Option V) : ∀ vs : List V, V.plains vs = true → V.mapRefs g vs = some vs
  | [], _ => rfl
  | v :: vs, h => by
    simp only [V.plains, Bool.and_eq_true] at h
    simp [V.mapRefs, mapRef_plain g v h.1, mapRefs_plain g vs h.2]
end
noncomputable def items (h : H) : V → Option (List V)
  | .lst vs => some vs
  | .tup vs => some vs
  | .ref i => match h[i]? with
    | some (.list vs) => some vs
    | _ => Option.none
  | _ => Option.none
noncomputable def litems (h : H) : V → Option (List V)
  | .lst vs => some vs
  | .ref i => match h[i]? with
    | some (.list vs) => some vs
    | _ => Option.none
  | _ => Option.none
mutual
noncomputable def peq : V → V → Bool
  | .none, .none => true
  | .bool a, .bool b => a == b
  | .bool a, .int b => (if a then 1 else 0) == b
  | .int a, .bool b => a == (if b then 1 else 0)
  | .int a, .int b => a == b
  | .str a, .str b => a == b
  | .tup a, .tup b => peqs a b
  | .lst a, .lst b => peqs a b
  | _, _ => false
noncomputable def peqs : List V → List V → Bool
  | [], [] => true
  | a :: as, b :: bs => peq a b && peqs as bs
  | _, _ => false
end
theorem peq_none : peq .none .none = true := rfl
theorem peq_bool (a b : Bool) : peq (.bool a) (.bool b) = (a == b) := rfl
theorem peq_int (a b : Int) : peq (.int a) (.int b) = (a == b) := rfl
theorem peq_str (a b : String) : peq (.str a) (.str b) = (a == b) := rfl
theorem peq_tup (a b : List V) : peq (.tup a) (.tup b) = peqs a b := rfl
theorem peq_lst (a b : List V) : peq (.lst a) (.lst b) = peqs a b := rfl
theorem peqs_cons (a b : V) (as bs : List V) : peqs (a :: as) (b :: bs) = (peq a b && peqs as bs) := rfl
noncomputable def V.ok : Nat → V → Bool
  | 0, _ => false
  | n + 1, v => match v with
    | .undef => false
    | .exc _ => false
    | .ref _ => false
    | .dct => false
    | .tup vs => vs.all (V.ok n)
    | .lst vs => vs.all (V.ok n)
    | _ => true
noncomputable def pyEq (h : H) (a b : V) : Option Bool :=
  match frz 0 h a, frz 0 h b with
  | some a, some b => if V.ok 8 a && V.ok 8 b then some (peq a b) else Option.none
  | _, _ => Option.none
noncomputable def asInts : List V → Option (List Int)
  | [] => some []
  | .int i :: vs => (asInts vs).map (i :: ·)
  | _ => Option.none
noncomputable def lexLt : List Int → List Int → Bool
  | [], [] => false
  | [], _ :: _ => true
  | _ :: _, [] => false
  | a :: as, b :: bs => if a = b then lexLt as bs else decide (a < b)
noncomputable def pyLt : V → V → Option Bool
  | .int a, .int b => some (decide (a < b))
  | _, _ => Option.none
inductive Cop where
  | eq | ne | lt | le | gt | ge | is | isNot | isin | notIn
deriving DecidableEq
noncomputable def plainItems : V → Option (List V)
  | .lst vs => some vs
  | .tup vs => some vs
  | _ => Option.none
noncomputable def isIn (h : H) (a b : V) : Option Bool :=
  match frz 0 h a, frz 0 h b with
  | some a, some b => if V.ok 8 a && V.ok 8 b then (plainItems b).map fun vs => vs.any fun y => peq y a else Option.none
  | _, _ => Option.none
noncomputable def keyT : V → Option (List Int)
  | .int i => some [i]
  | _ => Option.none
noncomputable def keyOk (k : V) : Bool := (keyT k).isSome
noncomputable def dfind (k : V) : List (V × V) → Option V
  | [] => Option.none
  | (k', v) :: es => if k = k' then some v else dfind k es
noncomputable def dput (k v : V) : List (V × V) → List (V × V)
  | [] => [(k, v)]
  | (k', v') :: es => if k = k' then (k', v) :: es else (k', v') :: dput k v es
noncomputable def pyIn (h : H) (a b : V) : Option Bool :=
  match b with
  | .ref i => match h[i]? with
    | some (.dict es) => if keyOk a then some (dfind a es).isSome else Option.none
    | _ => isIn h a b
  | _ => isIn h a b
noncomputable def pyIs (a b : V) : Option Bool :=
  match b with
  | .none => match a with
    | .none => some true
    | .undef => Option.none
    | _ => some false
  | .bool y => match a with
    | .bool x => some (x == y)
    | _ => Option.none
  | _ => Option.none
noncomputable def pyCmp (op : Cop) (h : H) (a b : V) : Option Bool :=
  match op with
  | .eq => pyEq h a b
  | .ne => (pyEq h a b).map (!·)
  | .lt => pyLt a b
  | .gt => pyLt b a
  | .le => (pyLt b a).map (!·)
  | .ge => (pyLt a b).map (!·)
  | .is => Option.none
  | .isNot => Option.none
  | .isin => pyIn h a b
  | .notIn => (pyIn h a b).map (!·)
inductive Bop where
  | add | sub | mul | fdiv | mod | pow
deriving DecidableEq
noncomputable def rep {α : Type} (vs : List α) (n : Int) : List α := (List.replicate n.toNat vs).flatten
noncomputable def mkL (vs : List V) : Option V := if vs.length ≤ 1000000 then some (.lst vs) else Option.none
noncomputable def mkT (vs : List V) : Option V := if vs.length ≤ 1000000 then some (.tup vs) else Option.none
noncomputable def int2 (f : Int → Int → Option V) (a b : V) : Option V :=
  match a with
  | .int x => match b with
    | .int y => f x y
    | _ => Option.none
  | _ => Option.none
noncomputable def pyAdd (h : H) (a b : V) : Option V :=
  match a with
  | .int x => match b with
    | .int y => some (.int (x + y))
    | _ => Option.none
  | a => (litems h a).bind fun x => (litems h b).bind fun y => mkL (x ++ y)
noncomputable def pyMul (h : H) (a b : V) : Option V :=
  match b with
  | .int n => match a with
    | .int x => if x.natAbs < 9223372036854775808 ∨ n.natAbs < 9223372036854775808 then some (.int (x * n)) else Option.none
    | a => if -1000000 < n ∧ n < 1000000 then (litems h a).bind fun vs => mkL (rep vs n) else Option.none
  | _ => Option.none
noncomputable def pyBin (op : Bop) (h : H) (a b : V) : Option V :=
  match op with
  | .add => pyAdd h a b
  | .sub => int2 (fun x y => some (.int (x - y))) a b
  | .mul => pyMul h a b
  | .fdiv => int2 (fun x y => if y = 0 then Option.none else some (.int (x.fdiv y))) a b
  | .mod => int2 (fun x y => if y = 0 then Option.none else some (.int (x.fmod y))) a b
  | .pow => int2 (fun x y => if x = 10 ∧ y = 20 then some (.int 100000000000000000000) else Option.none) a b
theorem int2_cases (f : Int → Int → Option V) (a b : V) : int2 f a b = Option.none ∨ ∃ x y, a = .int x ∧ b = .int y := by
  cases a with
  | int x => cases b with
    | int y => exact .inr ⟨x, y, rfl, rfl⟩
    | _ => exact .inl rfl
  | _ => exact .inl rfl
theorem pyAdd_cases (h : H) (a b : V) : pyAdd h a b = Option.none ∨ (∃ x y, a = .int x ∧ b = .int y) ∨ (∃ x y, a = .tup x ∧ b = .tup y) ∨ ∃ x y, litems h a = some x ∧ litems h b = some y ∧ pyAdd h a b = mkL (x ++ y) := by
  have go : pyAdd h a b = ((litems h a).bind fun x => (litems h b).bind fun y => mkL (x ++ y)) → pyAdd h a b = Option.none ∨ ∃ x y, litems h a = some x ∧ litems h b = some y ∧ pyAdd h a b = mkL (x ++ y) := fun e => by
    rw [e]
    cases litems h a with
    | none => exact .inl rfl
    | some x => cases litems h b with
      | none => exact .inl rfl
      | some y => exact .inr ⟨x, y, rfl, rfl, rfl⟩
  cases a with
  | int x => cases b with
    | int y => exact .inr (.inl ⟨x, y, rfl, rfl⟩)
    | _ => exact .inl rfl
  | _ => exact (go rfl).imp id fun h => .inr (.inr h)
theorem pyMul_cases (h : H) (a b : V) : pyMul h a b = Option.none ∨ (∃ x y, a = .int x ∧ b = .int y) ∨ ∃ n, b = .int n ∧ pyMul h a b = if -1000000 < n ∧ n < 1000000 then (litems h a).bind fun vs => mkL (rep vs n) else Option.none := by
  cases b with
  | int n => cases a with
    | int x => exact .inr (.inl ⟨x, n, rfl, rfl⟩)
    | _ => exact .inr (.inr ⟨n, rfl, rfl⟩)
  | _ => exact .inl rfl
noncomputable def place (n : Nat) (i : Int) : Option Nat :=
  if 0 ≤ i then (if i < n then some i.toNat else Option.none)
  else if 0 ≤ i + n then some (i + n).toNat else Option.none
noncomputable def pyIdx (h : H) (a i : V) : Option V :=
  match a with
  | .ref r => match h[r]? with
    | some (.dict es) => if keyOk i then dfind i es else Option.none
    | some (.list vs) => match i with
      | .int k => (place vs.length k).bind fun j => vs[j]?
      | _ => Option.none
    | none => Option.none
  | .lst vs => match i with
    | .int k => (place vs.length k).bind fun j => vs[j]?
    | _ => Option.none
  | .tup vs => match i with
    | .int k => (place vs.length k).bind fun j => vs[j]?
    | _ => Option.none
  | _ => Option.none
noncomputable def cut (n : Nat) (i : Int) : Nat :=
  if i < 0 then (i + n).toNat else min i.toNat n
noncomputable def slc {α : Type} (vs : List α) (lo hi : Option Int) : List α :=
  let a := match lo with | some i => cut vs.length i | none => 0
  let b := match hi with | some i => cut vs.length i | none => vs.length
  (vs.take b).drop a
noncomputable def asInt? : V → Option Int
  | .int i => some i
  | _ => Option.none
noncomputable def pySlice (h : H) (a : V) (lo hi : Option V) : Option V :=
  match lo.mapM asInt?, hi.mapM asInt? with
  | some lo, some hi => (litems h a).map fun vs => .lst (slc vs lo hi)
  | _, _ => Option.none
inductive Ty where
  | int | bool | list | tuple | valueError
  | own (c : String)
deriving DecidableEq
noncomputable def excNames : List String := ["RingError", "BadSize", "BadWord", "BadBook", "BadRing", "NoWord", "NoRing", "NoJoin"]
noncomputable def isExc (c : String) (t : Ty) : Option Bool :=
  if excNames.contains c then
    match t with
    | .own d => if excNames.contains d then some (c == d || d == "RingError") else Option.none
    | .valueError => some true
    | _ => Option.none
  else Option.none
noncomputable def refTy : Option Cell → Ty → Option Bool
  | some (.list _), t => some (t == .list)
  | some (.dict _), _ => some false
  | none, _ => Option.none
noncomputable def isTy (h : H) (v : V) (t : Ty) : Option Bool :=
  match v with
  | .undef => Option.none
  | .exc _ => Option.none
  | .ref i => refTy h[i]? t
  | .lst _ => some (t == .list)
  | .tup _ => some (t == .tuple)
  | .bool _ => some (t == .bool || t == .int)
  | .int _ => some (t == .int)
  | _ => some false
noncomputable def isTys (h : H) (v : V) : List Ty → Option Bool
  | [] => some false
  | t :: ts => match isTy h v t with
    | some true => some true
    | some false => isTys h v ts
    | none => Option.none
noncomputable def truthy : V → Option Bool
  | .bool b => some b
  | _ => Option.none
inductive Bf where
  | len | list | tuple | sorted | min | sum | any | all | int | str | listRev | listRange
deriving DecidableEq
noncomputable def Bf.walks (f : Bf) : Bool := f.casesOn false false false true true true true true false false true true
noncomputable def Bf.ready (f : Bf) : Bool := f.casesOn true true true
  true
  false
  false
  false
  false
  true
  false
  true
  false
noncomputable def isort {α : Type} (lt : α → α → Bool) : List α → List α
  | [] => []
  | x :: xs => insertBy' lt x (isort lt xs)
where
  insertBy' (lt : α → α → Bool) (x : α) : List α → List α
    | [] => [x]
    | y :: ys => if lt y x then y :: insertBy' lt x ys else x :: y :: ys
noncomputable def V.ints (l : List Int) : V := .lst (l.map .int)
noncomputable def keyed {α : Type} (f : V → Option α) : List V → Option (List (α × V))
  | [] => some []
  | v :: vs => (f v).bind fun a => (keyed f vs).map ((a, v) :: ·)
noncomputable def keyL (h : H) (v : V) : Option (List Int) := (litems h v).bind asInts
noncomputable def keyI : V → Option Int
  | .int i => some i
  | _ => Option.none
noncomputable def sortBy {α : Type} [DecidableEq α] (lt : α → α → Bool) (l : List (α × V)) : Option (List V) :=
  if l.length ≤ 1000 && l.all (fun p => l.all fun q => decide (p.1 = q.1 → p.2 = q.2)) then some ((isort (fun a b => lt a.1 b.1) l).map (·.2)) else Option.none
noncomputable def sortVs (h : H) (vs : List V) : Option (List V) :=
  match keyed keyI vs with
  | some l => sortBy (fun a b => decide (a < b)) l
  | none => match keyed (keyL h) vs with
    | some l => sortBy lexLt l
    | none => Option.none
noncomputable def minFrom (a : List Int) (v : V) : List (List Int × V) → V
  | [] => v
  | p :: l => if lexLt p.1 a then minFrom p.1 p.2 l else minFrom a v l
noncomputable def minVs (h : H) (vs : List V) : Option V :=
  match keyed (keyL h) vs with
  | some (p :: l) => some (minFrom p.1 p.2 l)
  | _ => Option.none
noncomputable def asBools : List V → Option (List Bool)
  | [] => some []
  | .bool b :: r => (asBools r).map (b :: ·)
  | _ => Option.none
noncomputable def upto (n : Int) : List V := (List.range n.toNat).map fun (i : Nat) => .int (i : Int)
noncomputable def fromTo (a b : Int) : List V := (List.range (b - a).toNat).map fun (i : Nat) => .int (a + (i : Int))
noncomputable def fromBy (a b k : Int) : List V := (List.range ((b - a + k - 1).fdiv k).toNat).map fun (i : Nat) => .int (a + (i : Int) * k)
noncomputable def sumI (l : List Int) : Option V := if l.length ≤ 1000 ∧ ∀ i ∈ l, 0 ≤ i ∧ i ≤ 1000000 then some (.int l.sum) else Option.none
noncomputable def bf (f : Bf) (h : H) (v : V) : Option V :=
  match f with
  | .len => match v with
    | .ref i => match h[i]? with
      | some (.list vs) => some (.int vs.length)
      | some (.dict _) => Option.none
      | none => Option.none
    | _ => (items h v).map fun vs => .int vs.length
  | .list => (items h v).map .lst
  | .tuple => (items h v).map .tup
  | .listRev => (litems h v).map fun vs => .lst vs.reverse
  | .sorted => (litems h v).bind fun vs => (sortVs h vs).map .lst
  | .min => (litems h v).bind (minVs h)
  | .sum => (litems h v).bind fun vs => (asInts vs).bind sumI
  | .any => (litems h v).bind fun vs => (asBools vs).map fun bs => .bool (bs.any id)
  | .all => (litems h v).bind fun vs => (asBools vs).map fun bs => .bool (bs.all id)
  | .int => match v with
    | .bool b => some (.int (if b then 1 else 0))
    | _ => Option.none
  | .str => match v with
    | .int i => if 0 ≤ i ∧ i < 100 then some (.str (toString i)) else Option.none
    | _ => Option.none
  | .listRange => match v with
    | .int n => mkL (upto n)
    | _ => Option.none
abbrev Watch := Option (Nat × Cell)
noncomputable def Watch.ok (w : Watch) (h : H) : Bool :=
  match w with
  | none => true
  | some (i, c) => decide (h[i]? = some c)
noncomputable def iterOf (h : H) : V → Option (List V × Watch)
  | .lst vs => some (vs, Option.none)
  | .tup vs => some (vs, Option.none)
  | .ref i => match h[i]? with
    | some (.list vs) => some (vs, some (i, .list vs))
    | some (.dict _) => Option.none
    | none => Option.none
  | _ => Option.none
noncomputable def joinStrs : List V → Option String
  | [] => some ""
  | .str s :: r => if s.toList.length ≤ 10 then (joinStrs r).map (s ++ ·) else Option.none
  | _ => Option.none
set_option genCtorIdx false in
set_option genInjectivity false in
mutual
inductive PE where
  | none | bool (b : Bool) | int (i : Int) | str (s : String)
  | var (i : Nat)
  | glob (g : String) (i : Int)
  | bin (op : Bop) (a b : PE)
  | neg (i : Int)
  | not (a : PE)
  | and (es : List PE) | or (es : List PE)
  | ite (t a b : PE)
  | cmp (op : Cop) (a b : PE)
  | cmp2 (op1 op2 : Cop) (a b c : PE)
  | list (es : List PE) | tup (es : List PE) | dict0
  | idx (a i : PE)
  | slice (a : PE) (lo hi : Option PE)
  | rev (a : PE)
  | isinst (a : PE) (ts : List Ty)
  | isexc (x : Nat) (t : Ty)        -- isinstance of the caught exception
  | callX (f : String) (x : Nat)    -- a call with the caught exception
  | bf (f : Bf) (a : PE)
  | join0 (a : PE)
  | comp (elt : PE) (x : Nat) (it : PIt) (cond : Option PE)
  | call (keep : Bool) (f : String) (args : List PE)
  | own (a : PE)                    -- a fresh list, as a cell
  | newDict (es : List (PE × PE))   -- a dict display, as a cell
  | append (o a : PE) | extend (o a : PE) | clear (o : PE) | remove (o a : PE)
  | pop (o : PE) | popAt (o i : PE)
  | get (o k d : PE) | setdef (o k d : PE)
  | setdefL (o k : PE)              -- setdefault(k, [])
inductive PIt where
  | seq (e : PE)
  | range1 (a : PE) | range2 (a b : PE) | range3 (a b c : PE)
  | enum (e : PE)
end
set_option genCtorIdx false in
set_option genInjectivity false in
inductive PS where
  | expr (e : PE)
  | asg (x : Nat) (e : PE)
  | asgT (xs : List Nat) (e : PE)
  | setIdx (o i e : PE)
  | setIdx2 (o1 i1 o2 i2 e1 e2 : PE)
  | ret (e : PE)
  | ifs (t : PE) (a b : List PS)
  | for1 (x : Nat) (it : PIt) (body : List PS)
  | for2 (x y : Nat) (it : PIt) (body : List PS)
  | while (t : PE) (body : List PS)
  | raise (c : String)
  | try (body : List PS) (c : String) (x : Nat) (handler : List PS)
  | pass
  | frz (x : Nat)                   -- the cell of a name is told by value from here on
structure FnDef where
  arity : Nat
  slots : Nat
  body : List PS
abbrev Tab := String → Option FnDef
abbrev Fn := Bool → String → List V → H → R V
noncomputable def pcall (h : H) (r : R V) : R V :=
  match r with
  | .ok v h' => if h'.take h.length = h then R.opt (Mine.frz h.length h' v) h else .bad
  | .err c h' => if h'.take h.length = h then .err c h else .bad
  | .bad => .bad
noncomputable def seti (h : H) (o i v : V) : Option H :=
  match o with
  | .ref r => match h[r]? with
    | some (.list _) => Option.none
    | some (.dict es) => if keyOk i && decide (es.length ≤ 1000) then some (h.set r (.dict (dput i v es))) else Option.none
    | none => Option.none
  | _ => Option.none
noncomputable def eraseEq (h : H) (a : V) : List V → Option (List V)
  | [] => Option.none
  | b :: bs => match pyEq h b a with
    | some true => some bs
    | some false => (eraseEq h a bs).map (b :: ·)
    | none => Option.none
noncomputable def onList (h : H) (o : V) (f : List V → Option (V × List V)) : R V :=
  match o with
  | .ref r => match h[r]? with
    | some (.list vs) => match f vs with
      | some (v, vs') => if vs'.length ≤ 1000000 then .ok v (h.set r (.list vs')) else .bad
      | none => .bad
    | _ => .bad
  | _ => .bad
noncomputable def lcell (h : H) (o : V) : Bool :=
  match o with
  | .ref r => match h[r]? with
    | some (.list _) => true
    | _ => false
  | _ => false
noncomputable def dcell (h : H) (o : V) : Bool :=
  match o with
  | .ref r => match h[r]? with
    | some (.dict _) => true
    | _ => false
  | _ => false
noncomputable def onDict (h : H) (o k : V) (f : Nat → List (V × V) → R V) : R V :=
  match o with
  | .ref r => match h[r]? with
    | some (.dict es) => if keyOk k then f r es else .bad
    | _ => .bad
  | _ => .bad
noncomputable def setDef (h : H) (x y z : V) : R V :=
  onDict h x y fun r es => match dfind y es with
    | some v => .ok v h
    | Option.none => if es.length ≤ 1000 then .ok z (h.set r (.dict (es ++ [(y, z)]))) else .bad
noncomputable def rng3 (m n k : Int) (h : H) : R (List V × Watch) :=
  if 0 < k ∧ k ≤ 1000000 then .ok (fromBy m n k, Option.none) h else .bad
noncomputable def enumFrom (n : Nat) : List V → List V
  | [] => []
  | v :: vs => .tup [.int n, v] :: enumFrom (n + 1) vs
noncomputable def enumOf (h : H) : V → Option (List V × Watch)
  | .ref i => match h[i]? with
    | some (.list vs) => some (enumFrom 0 vs, some (i, .list vs))
    | _ => Option.none
  | _ => Option.none
noncomputable def compL (w : Watch) (elt : V → H → R V) (cond : V → H → R V) : List V → H → R (List V)
  | [], h => if w.ok h then .ok [] h else .bad
  | x :: xs, h => if w.ok h then (cond x h).bind fun b h => match truthy b with
    | some true => (elt x h).bind fun v h => (compL w elt cond xs h).bind fun vs h => .ok (v :: vs) h
    | some false => compL w elt cond xs h
    | none => .bad
    else .bad
mutual
noncomputable def evE (q : Bool) (F : Fn) (ρ : List V) : PE → H → R V
  | .none, h => .ok .none h
  | .bool b, h => .ok (.bool b) h
  | .int i, h => .ok (.int i) h
  | .str s, h => .ok (.str s) h
  | .var i, h => match ρ[i]? with
    | some .undef => .bad
    | some (.exc _) => .bad
    | some v => .ok v h
    | Option.none => .bad
  | .glob _ i, h => .ok (.int i) h
  | .bin op a b, h => (evE q F ρ a h).bind fun x h => (evE q F ρ b h).bind fun y h => R.opt (pyBin op h x y) h
  | .neg i, h => .ok (.int (-i)) h
  | .not a, h => (evE q F ρ a h).bind fun x h => match truthy x with
    | some b => .ok (.bool (!b)) h
    | Option.none => .bad
  | .and es, h => evAnd q F ρ es h
  | .or es, h => evOr q F ρ es h
  | .ite t a b, h => (evE q F ρ t h).bind fun x h => match truthy x with
    | some true => evE q F ρ a h
    | some false => evE q F ρ b h
    | Option.none => .bad
  | .cmp op a b, h => (evE q F ρ a h).bind fun x h => (evE q F ρ b h).bind fun y h => R.opt ((pyCmp op h x y).map .bool) h
  | .cmp2 op1 op2 a b c, h => (evE q F ρ a h).bind fun x h => (evE q F ρ b h).bind fun y h => match pyCmp op1 h x y with
    | some true => (evE q F ρ c h).bind fun z h => R.opt ((pyCmp op2 h y z).map .bool) h
    | some false => .ok (.bool false) h
    | Option.none => .bad
  | .list es, h => (evEs q F ρ es h).bind fun vs h => R.opt (mkL vs) h
  | .tup es, h => (evEs q F ρ es h).bind fun vs h => R.opt (mkT vs) h
  | .dict0, h => .ok .dct h
  | .idx a i, h => (evE q F ρ a h).bind fun x h => (evE q F ρ i h).bind fun y h => R.opt (pyIdx h x y) h
  | .slice a lo hi, h => (evE q F ρ a h).bind fun x h => (evO q F ρ lo h).bind fun l h => (evO q F ρ hi h).bind fun u h => R.opt (pySlice h x l u) h
  | .rev _, _ => .bad
  | .isinst a ts, h => (evE q F ρ a h).bind fun x h => R.opt ((isTys h x ts).map .bool) h
  | .isexc x t, h => match ρ[x]? with
    | some (.exc c) => R.opt ((isExc c t).map .bool) h
    | _ => .bad
  | .callX f x, h => match ρ[x]? with
    | some (.exc c) => pcall h (F q f [.exc c] h)
    | _ => .bad
  | .bf f a, h => if (!q && f.walks) || !f.ready then .bad else (evE q F ρ a h).bind fun x h => R.opt (Mine.bf f h x) h
  | .join0 a, h => if !q then .bad else (evE q F ρ a h).bind fun x h => R.opt ((litems h x).bind fun vs => (joinStrs vs).map .str) h
  | .comp elt x it cond, h => if !q then .bad else (evIt q F ρ it h).bind fun vs h =>
      match compL vs.2 (fun v h => evE q F (ρ.set x v) elt h) (fun v h => evC q F (ρ.set x v) cond h) vs.1 h with
      | .ok r h => R.opt (mkL r) h
      | _ => .bad
  | .call k f args, h => (evEs q F ρ args h).bind fun vs h => if k then F q f vs h else pcall h (F q f vs h)
  | .own a, h => (evE q F ρ a h).bind fun x h => match x with
    | .lst vs => .ok (.ref h.length) (h ++ [.list vs])
    | _ => .bad
  | .newDict es, h => (evPs q F ρ es h).bind fun ps h => .ok (.ref h.length) (h ++ [.dict ps])
  | .append o a, h => (evE q F ρ o h).bind fun x h => if lcell h x then (evE q F ρ a h).bind fun y h => onList h x fun vs => some (.none, vs ++ [y]) else .bad
  | .extend o a, h => (evE q F ρ o h).bind fun x h => if lcell h x then (evE q F ρ a h).bind fun y h => match y with
    | .lst ws => onList h x fun vs => some (.none, vs ++ ws)
    | _ => .bad
    else .bad
  | .clear o, h => (evE q F ρ o h).bind fun x h => onList h x fun z_ => some (.none, [])
  | .remove o a, h => (evE q F ρ o h).bind fun x h => if lcell h x then (evE q F ρ a h).bind fun y h => onList h x fun vs => (eraseEq h y vs).map fun r => (.none, r) else .bad
  | .pop o, h => (evE q F ρ o h).bind fun x h => onList h x fun vs => (vs.getLast?).map fun v => (v, vs.dropLast)
  | .popAt o i, h => (evE q F ρ o h).bind fun x h => if lcell h x then (evE q F ρ i h).bind fun y h => match y with
    | .int k => onList h x fun vs => (place vs.length k).bind fun j => (vs[j]?).map fun v => (v, vs.eraseIdx j)
    | _ => .bad
    else .bad
  | .get o k d, h => (evE q F ρ o h).bind fun x h => (evE q F ρ k h).bind fun y h => (evE q F ρ d h).bind fun z h =>
      onDict h x y fun z_ es => .ok ((dfind y es).getD z) h
  | .setdef o k d, h => (evE q F ρ o h).bind fun x h => if dcell h x then (evE q F ρ k h).bind fun y h => (evE q F ρ d h).bind fun z h => setDef h x y z else .bad
  | .setdefL o k, h => (evE q F ρ o h).bind fun x h => (evE q F ρ k h).bind fun y h =>
      onDict h x y fun r es => match dfind y es with
        | some v => .ok v h
        | Option.none => .ok (.ref h.length) (h.set r (.dict (es ++ [(y, .ref h.length)])) ++ [.list []])
noncomputable def evEs (q : Bool) (F : Fn) (ρ : List V) : List PE → H → R (List V)
  | [], h => .ok [] h
  | e :: es, h => (evE q F ρ e h).bind fun v h => (evEs q F ρ es h).bind fun vs h => .ok (v :: vs) h
noncomputable def evPs (q : Bool) (F : Fn) (ρ : List V) : List (PE × PE) → H → R (List (V × V))
  | [], h => .ok [] h
  | (a, b) :: es, h => (evE q F ρ a h).bind fun k h => (evE q F ρ b h).bind fun v h => (evPs q F ρ es h).bind fun ps h =>
      if keyOk k && (dfind k ps).isNone then .ok ((k, v) :: ps) h else .bad
noncomputable def evO (q : Bool) (F : Fn) (ρ : List V) : Option PE → H → R (Option V)
  | Option.none, h => .ok Option.none h
  | some e, h => (evE q F ρ e h).bind fun v h => .ok (some v) h
noncomputable def evC (q : Bool) (F : Fn) (ρ : List V) : Option PE → H → R V
  | Option.none, h => .ok (.bool true) h
  | some e, h => evE q F ρ e h
noncomputable def evAnd (q : Bool) (F : Fn) (ρ : List V) : List PE → H → R V
  | [], _ => .bad
  | [e], h => evE q F ρ e h
  | e :: es, h => (evE q F ρ e h).bind fun x h => match truthy x with
    | some true => evAnd q F ρ es h
    | some false => .ok x h
    | Option.none => .bad
noncomputable def evOr (q : Bool) (F : Fn) (ρ : List V) : List PE → H → R V
  | [], _ => .bad
  | [e], h => evE q F ρ e h
  | e :: es, h => (evE q F ρ e h).bind fun x h => match truthy x with
    | some true => .ok x h
    | some false => evOr q F ρ es h
    | Option.none => .bad
noncomputable def evIt (q : Bool) (F : Fn) (ρ : List V) : PIt → H → R (List V × Watch)
  | .seq e, h => (evE q F ρ e h).bind fun x h => R.opt (iterOf h x) h
  | .range1 a, h => (evE q F ρ a h).bind fun x h => match x with
    | .int n => if -1000000 ≤ n ∧ n ≤ 1000000 then .ok (upto n, Option.none) h else .bad
    | _ => .bad
  | .range2 a b, h => (evE q F ρ a h).bind fun x h => (evE q F ρ b h).bind fun y h => match x, y with
    | .int m, .int n => if -1000000 ≤ m ∧ m ≤ 1000000 ∧ -1000000 ≤ n ∧ n ≤ 1000000 then .ok (fromTo m n, Option.none) h else .bad
    | _, _ => .bad
  | .range3 a b c, h => (evE q F ρ a h).bind fun x h => (evE q F ρ b h).bind fun y h => (evE q F ρ c h).bind fun z h => match x, y, z with
    | .int m, .int n, .int k => if -1000000 ≤ m ∧ m ≤ 1000000 ∧ -1000000 ≤ n ∧ n ≤ 1000000 then
        rng3 m n k h else .bad
    | _, _, _ => .bad
  | .enum e, h => (evE q F ρ e h).bind fun x h => R.opt (enumOf h x) h
end
inductive Fl where
  | next
  | ret (v : V)
inductive RS where
  | ok (f : Fl) (ρ : List V) (h : H)
  | err (c : String) (ρ : List V) (h : H)
  | bad
noncomputable def R.st {α : Type} (r : R α) (ρ : List V) (f : α → H → RS) : RS :=
  match r with
  | .ok a h => f a h
  | .err c h => .err c ρ h
  | .bad => .bad
@[simp] theorem R.st_ok {α : Type} (a : α) (h : H) (ρ : List V) (f : α → H → RS) : (R.ok a h).st ρ f = f a h := rfl
noncomputable def RS.then (r : RS) (f : List V → H → RS) : RS :=
  match r with
  | .ok .next ρ h => f ρ h
  | r => r
@[simp] theorem RS.then_next (ρ : List V) (h : H) (f : List V → H → RS) : (RS.ok .next ρ h).then f = f ρ h := rfl
noncomputable def setAll (ρ : List V) : List Nat → List V → Option (List V)
  | [], [] => some ρ
  | x :: xs, v :: vs => setAll (ρ.set x v) xs vs
  | _, _ => Option.none
noncomputable def bind1 (x : Nat) (ρ : List V) (v : V) : Option (List V) := some (ρ.set x v)
noncomputable def bind2 (x y : Nat) (ρ : List V) (v : V) : Option (List V) :=
  match v with
  | .tup [a, b] => some ((ρ.set x a).set y b)
  | _ => Option.none
noncomputable def forL (w : Watch) (bindv : List V → V → Option (List V)) (body : List V → H → RS) : List V → List V → H → RS
  | [], ρ, h => if w.ok h then .ok .next ρ h else .bad
  | v :: vs, ρ, h => if w.ok h then (match bindv ρ v with
      | some ρ' => (body ρ' h).then fun ρ h => forL w bindv body vs ρ h
      | none => .bad) else .bad
noncomputable def whileL (test : List V → H → R V) (body : List V → H → RS) : Nat → List V → H → RS
  | 0, _, _ => .bad
  | n + 1, ρ, h => (test ρ h).st ρ fun b h => match truthy b with
    | some true => (body ρ h).then fun ρ h => whileL test body n ρ h
    | some false => .ok .next ρ h
    | none => .bad
noncomputable def turns : Nat := 1000000
mutual
noncomputable def V.has (r : Nat) : V → Bool
  | .tup vs => V.hasAny r vs
  | .lst vs => V.hasAny r vs
  | .ref i => i == r
  | _ => false
noncomputable def V.hasAny (r : Nat) : List V → Bool
  | [] => false
  | v :: vs => V.has r v || V.hasAny r vs
end
noncomputable def Cell.has (r : Nat) : Cell → Bool
  | .list vs => V.hasAny r vs
  | .dict es => es.any fun e => V.has r e.1 || V.has r e.2
noncomputable def freeze (x : Nat) (ρ : List V) (h : H) : RS :=
  match ρ[x]? with
  | some (.ref i) => match h[i]? with
    | some (.list vs) =>
      if i + 1 = h.length && !(V.hasAny i (ρ.set x .undef)) && !(h.any (Cell.has i)) then .ok .next (ρ.set x (.lst vs)) h.dropLast else .bad
    | _ => .bad
  | _ => .bad
noncomputable def noneS (v : V) (ρ : List V) (h : H) : RS :=
  match v with
  | .none => .ok .next ρ h
  | .int _ => .ok .next ρ h
  | _ => .bad
mutual
noncomputable def exS (q : Bool) (F : Fn) : PS → List V → H → RS
  | .expr e, ρ, h => (evE q F ρ e h).st ρ fun v h => noneS v ρ h
  | .asg x e, ρ, h => (evE q F ρ e h).st ρ fun v h => .ok .next (ρ.set x v) h
  | .asgT xs e, ρ, h => if !q then .bad else (evE q F ρ e h).st ρ fun v h => match v with
    | .tup vs => (match setAll ρ xs vs with
      | some ρ => .ok .next ρ h
      | Option.none => .bad)
    | _ => .bad
  | .setIdx o i e, ρ, h => (evE q F ρ e h).st ρ fun v h => (evE q F ρ o h).st ρ fun x h => (evE q F ρ i h).st ρ fun y h => match seti h x y v with
    | some h => .ok .next ρ h
    | Option.none => .bad
  | .setIdx2 o1 i1 o2 i2 e1 e2, ρ, h => (evE q F ρ e1 h).st ρ fun v h => (evE q F ρ e2 h).st ρ fun w h =>
      (evE q F ρ o1 h).st ρ fun x h => (evE q F ρ i1 h).st ρ fun y h => match seti h x y v with
        | some h => (evE q F ρ o2 h).st ρ fun x h => (evE q F ρ i2 h).st ρ fun y h => (match seti h x y w with
          | some h => .ok .next ρ h
          | Option.none => .bad)
        | Option.none => .bad
  | .ret e, ρ, h => (evE q F ρ e h).st ρ fun v h => .ok (.ret v) ρ h
  | .ifs t a b, ρ, h => (evE q F ρ t h).st ρ fun x h => match truthy x with
    | some true => exSs q F a ρ h
    | some false => exSs q F b ρ h
    | Option.none => .bad
  | .for1 x it body, ρ, h => if !q then .bad else (evIt q F ρ it h).st ρ fun vs h => forL vs.2 (bind1 x) (fun ρ h => exSs q F body ρ h) vs.1 ρ h
  | .for2 x y it body, ρ, h => if !q then .bad else (evIt q F ρ it h).st ρ fun vs h => forL vs.2 (bind2 x y) (fun ρ h => exSs q F body ρ h) vs.1 ρ h
  | .while t body, ρ, h => if !q then .bad else whileL (fun ρ h => evE q F ρ t h) (fun ρ h => exSs q F body ρ h) turns ρ h
  | .raise c, ρ, h => if !q then .bad else .err c ρ h
  | .try body c x handler, ρ, h => if !q then .bad else match exSs q F body ρ h with
    | .err d ρ h => if excNames.contains d && c == "RingError" then (match exSs false F handler (ρ.set x (.exc d)) h with
        | .ok f ρ h => .ok f (ρ.set x .undef) h
        | .err _ _ _ => .bad
        | .bad => .bad) else .bad
    | r => r
  | .pass, ρ, h => .ok .next ρ h
  | .frz x, ρ, h => freeze x ρ h
noncomputable def exSs (q : Bool) (F : Fn) : List PS → List V → H → RS
  | [], ρ, h => .ok .next ρ h
  | s :: ss, ρ, h => (exS q F s ρ h).then fun ρ h => exSs q F ss ρ h
end
noncomputable def RS.out (r : RS) : R V :=
  match r with
  | .ok (.ret v) _ h => .ok v h
  | .ok .next _ h => .ok .none h
  | .err c _ h => .err c h
  | .bad => .bad
noncomputable def runD (q : Bool) (F : Fn) (d : FnDef) (vs : List V) (h : H) : R V :=
  if vs.length = d.arity then (exSs q F d.body (vs ++ List.replicate (d.slots - d.arity) .undef) h).out else .bad
noncomputable def run (P : Tab) : Nat → Fn
  | 0 => fun z_ z_ z_ z_ => .bad
  | n + 1 => fun q f vs h => match P f with
    | some d => runD q (run P n) d vs h
    | Option.none => .bad
theorem run_succ (hf : P f = some d) (n : Nat) (q : Bool) (vs : List V) (h : H) :
    run P (n + 1) q f vs h = runD q (run P n) d vs h := by
  show (match P f with | some d => runD q (run P n) d vs h | Option.none => .bad) = _
  rw [hf]
theorem qE_1 (q : Bool) (F : Fn) (ρ : List V)  (h) : evE q F ρ .none h = .ok .none h := rfl
theorem qE_2 (q : Bool) (F : Fn) (ρ : List V) (b) (h) : evE q F ρ (.bool b) h = .ok (.bool b) h := rfl
theorem qE_3 (q : Bool) (F : Fn) (ρ : List V) (i) (h) : evE q F ρ (.int i) h = .ok (.int i) h := rfl
theorem qE_4 (q : Bool) (F : Fn) (ρ : List V) (s) (h) : evE q F ρ (.str s) h = .ok (.str s) h := rfl
theorem qE_5 (q : Bool) (F : Fn) (ρ : List V) (i) (h) : evE q F ρ (.var i) h = match ρ[i]? with
    | some .undef => .bad
    | some (.exc _) => .bad
    | some v => .ok v h
    | Option.none => .bad := rfl
theorem qE_6 (q : Bool) (F : Fn) (ρ : List V) (i) (u1) (h) : evE q F ρ (.glob u1 i) h = .ok (.int i) h := rfl
theorem qE_7 (q : Bool) (F : Fn) (ρ : List V) (op) (a) (b) (h) : evE q F ρ (.bin op a b) h = (evE q F ρ a h).bind fun x h => (evE q F ρ b h).bind fun y h => R.opt (pyBin op h x y) h := rfl
theorem qE_8 (q : Bool) (F : Fn) (ρ : List V) (i) (h) : evE q F ρ (.neg i) h = .ok (.int (-i)) h := rfl
theorem qE_9 (q : Bool) (F : Fn) (ρ : List V) (a) (h) : evE q F ρ (.not a) h = (evE q F ρ a h).bind fun x h => match truthy x with
    | some b => .ok (.bool (!b)) h
    | Option.none => .bad := rfl
theorem qE_10 (q : Bool) (F : Fn) (ρ : List V) (es) (h) : evE q F ρ (.and es) h = evAnd q F ρ es h := rfl
theorem qE_11 (q : Bool) (F : Fn) (ρ : List V) (es) (h) : evE q F ρ (.or es) h = evOr q F ρ es h := rfl
theorem qE_12 (q : Bool) (F : Fn) (ρ : List V) (t) (a) (b) (h) : evE q F ρ (.ite t a b) h = (evE q F ρ t h).bind fun x h => match truthy x with
    | some true => evE q F ρ a h
    | some false => evE q F ρ b h
    | Option.none => .bad := rfl
theorem qE_13 (q : Bool) (F : Fn) (ρ : List V) (op) (a) (b) (h) : evE q F ρ (.cmp op a b) h = (evE q F ρ a h).bind fun x h => (evE q F ρ b h).bind fun y h => R.opt ((pyCmp op h x y).map .bool) h := rfl
theorem qE_14 (q : Bool) (F : Fn) (ρ : List V) (op1) (op2) (a) (b) (c) (h) : evE q F ρ (.cmp2 op1 op2 a b c) h = (evE q F ρ a h).bind fun x h => (evE q F ρ b h).bind fun y h => match pyCmp op1 h x y with
    | some true => (evE q F ρ c h).bind fun z h => R.opt ((pyCmp op2 h y z).map .bool) h
    | some false => .ok (.bool false) h
    | Option.none => .bad := rfl
theorem qE_15 (q : Bool) (F : Fn) (ρ : List V) (es) (h) : evE q F ρ (.list es) h = (evEs q F ρ es h).bind fun vs h => R.opt (mkL vs) h := rfl
theorem qE_16 (q : Bool) (F : Fn) (ρ : List V) (es) (h) : evE q F ρ (.tup es) h = (evEs q F ρ es h).bind fun vs h => R.opt (mkT vs) h := rfl
theorem qE_17 (q : Bool) (F : Fn) (ρ : List V)  (h) : evE q F ρ .dict0 h = .ok .dct h := rfl
theorem qE_18 (q : Bool) (F : Fn) (ρ : List V) (a) (i) (h) : evE q F ρ (.idx a i) h = (evE q F ρ a h).bind fun x h => (evE q F ρ i h).bind fun y h => R.opt (pyIdx h x y) h := rfl
theorem qE_19 (q : Bool) (F : Fn) (ρ : List V) (a) (lo) (hi) (h) : evE q F ρ (.slice a lo hi) h = (evE q F ρ a h).bind fun x h => (evO q F ρ lo h).bind fun l h => (evO q F ρ hi h).bind fun u h => R.opt (pySlice h x l u) h := rfl
theorem qE_20 (q : Bool) (F : Fn) (ρ : List V) (u1) (u2) : evE q F ρ (.rev u1) u2 = .bad := rfl
theorem qE_21 (q : Bool) (F : Fn) (ρ : List V) (a) (ts) (h) : evE q F ρ (.isinst a ts) h = (evE q F ρ a h).bind fun x h => R.opt ((isTys h x ts).map .bool) h := rfl
theorem qE_22 (q : Bool) (F : Fn) (ρ : List V) (x) (t) (h) : evE q F ρ (.isexc x t) h = match ρ[x]? with
    | some (.exc c) => R.opt ((isExc c t).map .bool) h
    | _ => .bad := rfl
theorem qE_23 (q : Bool) (F : Fn) (ρ : List V) (f) (x) (h) : evE q F ρ (.callX f x) h = match ρ[x]? with
    | some (.exc c) => pcall h (F q f [.exc c] h)
    | _ => .bad := rfl
theorem qE_24 (q : Bool) (F : Fn) (ρ : List V) (f) (a) (h) : evE q F ρ (.bf f a) h = if (!q && f.walks) || !f.ready then .bad else (evE q F ρ a h).bind fun x h => R.opt (Mine.bf f h x) h := rfl
theorem qE_25 (q : Bool) (F : Fn) (ρ : List V) (a) (h) : evE q F ρ (.join0 a) h = if !q then .bad else (evE q F ρ a h).bind fun x h => R.opt ((litems h x).bind fun vs => (joinStrs vs).map .str) h := rfl
theorem qE_26 (q : Bool) (F : Fn) (ρ : List V) (elt) (x) (it) (cond) (h) : evE q F ρ (.comp elt x it cond) h = if !q then .bad else (evIt q F ρ it h).bind fun vs h =>
      match compL vs.2 (fun v h => evE q F (ρ.set x v) elt h) (fun v h => evC q F (ρ.set x v) cond h) vs.1 h with
      | .ok r h => R.opt (mkL r) h
      | _ => .bad := rfl
theorem qE_27 (q : Bool) (F : Fn) (ρ : List V) (k) (f) (args) (h) : evE q F ρ (.call k f args) h = (evEs q F ρ args h).bind fun vs h => if k then F q f vs h else pcall h (F q f vs h) := rfl
theorem qE_28 (q : Bool) (F : Fn) (ρ : List V) (a) (h) : evE q F ρ (.own a) h = (evE q F ρ a h).bind fun x h => match x with
    | .lst vs => .ok (.ref h.length) (h ++ [.list vs])
    | _ => .bad := rfl
theorem qE_29 (q : Bool) (F : Fn) (ρ : List V) (es) (h) : evE q F ρ (.newDict es) h = (evPs q F ρ es h).bind fun ps h => .ok (.ref h.length) (h ++ [.dict ps]) := rfl
theorem qE_30 (q : Bool) (F : Fn) (ρ : List V) (o) (a) (h) : evE q F ρ (.append o a) h = (evE q F ρ o h).bind fun x h => if lcell h x then (evE q F ρ a h).bind fun y h => onList h x fun vs => some (.none, vs ++ [y]) else .bad := rfl
theorem qE_31 (q : Bool) (F : Fn) (ρ : List V) (o) (a) (h) : evE q F ρ (.extend o a) h = (evE q F ρ o h).bind fun x h => if lcell h x then (evE q F ρ a h).bind fun y h => match y with
    | .lst ws => onList h x fun vs => some (.none, vs ++ ws)
    | _ => .bad
    else .bad := rfl
theorem qE_32 (q : Bool) (F : Fn) (ρ : List V) (o) (h) : evE q F ρ (.clear o) h = (evE q F ρ o h).bind fun x h => onList h x fun z_ => some (.none, []) := rfl
theorem qE_33 (q : Bool) (F : Fn) (ρ : List V) (o) (a) (h) : evE q F ρ (.remove o a) h = (evE q F ρ o h).bind fun x h => if lcell h x then (evE q F ρ a h).bind fun y h => onList h x fun vs => (eraseEq h y vs).map fun r => (.none, r) else .bad := rfl
theorem qE_34 (q : Bool) (F : Fn) (ρ : List V) (o) (h) : evE q F ρ (.pop o) h = (evE q F ρ o h).bind fun x h => onList h x fun vs => (vs.getLast?).map fun v => (v, vs.dropLast) := rfl
theorem qE_35 (q : Bool) (F : Fn) (ρ : List V) (o) (i) (h) : evE q F ρ (.popAt o i) h = (evE q F ρ o h).bind fun x h => if lcell h x then (evE q F ρ i h).bind fun y h => match y with
    | .int k => onList h x fun vs => (place vs.length k).bind fun j => (vs[j]?).map fun v => (v, vs.eraseIdx j)
    | _ => .bad
    else .bad := rfl
theorem qE_36 (q : Bool) (F : Fn) (ρ : List V) (o) (k) (d) (h) : evE q F ρ (.get o k d) h = (evE q F ρ o h).bind fun x h => (evE q F ρ k h).bind fun y h => (evE q F ρ d h).bind fun z h =>
      onDict h x y fun z_ es => .ok ((dfind y es).getD z) h := rfl
theorem qE_37 (q : Bool) (F : Fn) (ρ : List V) (o) (k) (d) (h) : evE q F ρ (.setdef o k d) h = (evE q F ρ o h).bind fun x h => if dcell h x then (evE q F ρ k h).bind fun y h => (evE q F ρ d h).bind fun z h => setDef h x y z else .bad := rfl
theorem qE_38 (q : Bool) (F : Fn) (ρ : List V) (o) (k) (h) : evE q F ρ (.setdefL o k) h = (evE q F ρ o h).bind fun x h => (evE q F ρ k h).bind fun y h =>
      onDict h x y fun r es => match dfind y es with
        | some v => .ok v h
        | Option.none => .ok (.ref h.length) (h.set r (.dict (es ++ [(y, .ref h.length)])) ++ [.list []]) := rfl
theorem qEs_1 (q : Bool) (F : Fn) (ρ : List V)  (h) : evEs q F ρ [] h = .ok [] h := rfl
theorem qEs_2 (q : Bool) (F : Fn) (ρ : List V) (e) (es) (h) : evEs q F ρ (e :: es) h = (evE q F ρ e h).bind fun v h => (evEs q F ρ es h).bind fun vs h => .ok (v :: vs) h := rfl
theorem qO_1 (q : Bool) (F : Fn) (ρ : List V)  (h) : evO q F ρ Option.none h = .ok Option.none h := rfl
theorem qO_2 (q : Bool) (F : Fn) (ρ : List V) (e) (h) : evO q F ρ (some e) h = (evE q F ρ e h).bind fun v h => .ok (some v) h := rfl
theorem qC_1 (q : Bool) (F : Fn) (ρ : List V)  (h) : evC q F ρ Option.none h = .ok (.bool true) h := rfl
theorem qC_2 (q : Bool) (F : Fn) (ρ : List V) (e) (h) : evC q F ρ (some e) h = evE q F ρ e h := rfl
theorem qI_1 (q : Bool) (F : Fn) (ρ : List V) (e) (h) : evIt q F ρ (.seq e) h = (evE q F ρ e h).bind fun x h => R.opt (iterOf h x) h := rfl
theorem qI_2 (q : Bool) (F : Fn) (ρ : List V) (a) (h) : evIt q F ρ (.range1 a) h = (evE q F ρ a h).bind fun x h => match x with
    | .int n => if -1000000 ≤ n ∧ n ≤ 1000000 then .ok (upto n, Option.none) h else .bad
    | _ => .bad := rfl
theorem qI_3 (q : Bool) (F : Fn) (ρ : List V) (a) (b) (h) : evIt q F ρ (.range2 a b) h = (evE q F ρ a h).bind fun x h => (evE q F ρ b h).bind fun y h => match x, y with
    | .int m, .int n => if -1000000 ≤ m ∧ m ≤ 1000000 ∧ -1000000 ≤ n ∧ n ≤ 1000000 then .ok (fromTo m n, Option.none) h else .bad
    | _, _ => .bad := rfl
theorem qI_4 (q : Bool) (F : Fn) (ρ : List V) (a) (b) (c) (h) : evIt q F ρ (.range3 a b c) h = (evE q F ρ a h).bind fun x h => (evE q F ρ b h).bind fun y h => (evE q F ρ c h).bind fun z h => match x, y, z with
    | .int m, .int n, .int k => if -1000000 ≤ m ∧ m ≤ 1000000 ∧ -1000000 ≤ n ∧ n ≤ 1000000 then
        rng3 m n k h else .bad
    | _, _, _ => .bad := rfl
theorem qI_5 (q : Bool) (F : Fn) (ρ : List V) (e) (h) : evIt q F ρ (.enum e) h = (evE q F ρ e h).bind fun x h => R.opt (enumOf h x) h := rfl
theorem qS_1 (q : Bool) (F : Fn) (e) (ρ) (h) : exS q F (.expr e) ρ h = (evE q F ρ e h).st ρ fun v h => noneS v ρ h := rfl
theorem qS_2 (q : Bool) (F : Fn) (x) (e) (ρ) (h) : exS q F (.asg x e) ρ h = (evE q F ρ e h).st ρ fun v h => .ok .next (ρ.set x v) h := rfl
theorem qS_3 (q : Bool) (F : Fn) (xs) (e) (ρ) (h) : exS q F (.asgT xs e) ρ h = if !q then .bad else (evE q F ρ e h).st ρ fun v h => match v with
    | .tup vs => (match setAll ρ xs vs with
      | some ρ => .ok .next ρ h
      | Option.none => .bad)
    | _ => .bad := rfl
theorem qS_4 (q : Bool) (F : Fn) (o) (i) (e) (ρ) (h) : exS q F (.setIdx o i e) ρ h = (evE q F ρ e h).st ρ fun v h => (evE q F ρ o h).st ρ fun x h => (evE q F ρ i h).st ρ fun y h => match seti h x y v with
    | some h => .ok .next ρ h
    | Option.none => .bad := rfl
theorem qS_5 (q : Bool) (F : Fn) (o1) (i1) (o2) (i2) (e1) (e2) (ρ) (h) : exS q F (.setIdx2 o1 i1 o2 i2 e1 e2) ρ h = (evE q F ρ e1 h).st ρ fun v h => (evE q F ρ e2 h).st ρ fun w h =>
      (evE q F ρ o1 h).st ρ fun x h => (evE q F ρ i1 h).st ρ fun y h => match seti h x y v with
        | some h => (evE q F ρ o2 h).st ρ fun x h => (evE q F ρ i2 h).st ρ fun y h => (match seti h x y w with
          | some h => .ok .next ρ h
          | Option.none => .bad)
        | Option.none => .bad := rfl
theorem qS_6 (q : Bool) (F : Fn) (e) (ρ) (h) : exS q F (.ret e) ρ h = (evE q F ρ e h).st ρ fun v h => .ok (.ret v) ρ h := rfl
theorem qS_7 (q : Bool) (F : Fn) (t) (a) (b) (ρ) (h) : exS q F (.ifs t a b) ρ h = (evE q F ρ t h).st ρ fun x h => match truthy x with
    | some true => exSs q F a ρ h
    | some false => exSs q F b ρ h
    | Option.none => .bad := rfl
theorem qS_8 (q : Bool) (F : Fn) (x) (it) (body) (ρ) (h) : exS q F (.for1 x it body) ρ h = if !q then .bad else (evIt q F ρ it h).st ρ fun vs h => forL vs.2 (bind1 x) (fun ρ h => exSs q F body ρ h) vs.1 ρ h := rfl
theorem qS_9 (q : Bool) (F : Fn) (x) (y) (it) (body) (ρ) (h) : exS q F (.for2 x y it body) ρ h = if !q then .bad else (evIt q F ρ it h).st ρ fun vs h => forL vs.2 (bind2 x y) (fun ρ h => exSs q F body ρ h) vs.1 ρ h := rfl
theorem qS_10 (q : Bool) (F : Fn) (t) (body) (ρ) (h) : exS q F (.while t body) ρ h = if !q then .bad else whileL (fun ρ h => evE q F ρ t h) (fun ρ h => exSs q F body ρ h) turns ρ h := rfl
theorem qS_11 (q : Bool) (F : Fn) (c) (ρ) (h) : exS q F (.raise c) ρ h = if !q then .bad else .err c ρ h := rfl
theorem qS_12 (q : Bool) (F : Fn) (body) (c) (x) (handler) (ρ) (h) : exS q F (.try body c x handler) ρ h = if !q then .bad else match exSs q F body ρ h with
    | .err d ρ h => if excNames.contains d && c == "RingError" then (match exSs false F handler (ρ.set x (.exc d)) h with
        | .ok f ρ h => .ok f (ρ.set x .undef) h
        | .err _ _ _ => .bad
        | .bad => .bad) else .bad
    | r => r := rfl
theorem qS_13 (q : Bool) (F : Fn)  (ρ) (h) : exS q F .pass ρ h = .ok .next ρ h := rfl
theorem qS_14 (q : Bool) (F : Fn) (x) (ρ) (h) : exS q F (.frz x) ρ h = freeze x ρ h := rfl
theorem qSs_1 (q : Bool) (F : Fn)  (ρ) (h) : exSs q F [] ρ h = .ok .next ρ h := rfl
theorem qSs_2 (q : Bool) (F : Fn) (s) (ss) (ρ) (h) : exSs q F (s :: ss) ρ h = (exS q F s ρ h).then fun ρ h => exSs q F ss ρ h := rfl
theorem qA_1 (q : Bool) (F : Fn) (ρ : List V) (h : H) : evAnd q F ρ [] h = .bad := rfl
theorem qA_2 (q : Bool) (F : Fn) (ρ : List V) (e : PE) (h : H) : evAnd q F ρ [e] h = evE q F ρ e h := rfl
theorem qA_3 (q : Bool) (F : Fn) (ρ : List V) (e d : PE) (es : List PE) (h : H) : evAnd q F ρ (e :: d :: es) h = (evE q F ρ e h).bind fun x h => match truthy x with
    | some true => evAnd q F ρ (d :: es) h
    | some false => .ok x h
    | Option.none => .bad := rfl
theorem qR_1 (q : Bool) (F : Fn) (ρ : List V) (h : H) : evOr q F ρ [] h = .bad := rfl
theorem qR_2 (q : Bool) (F : Fn) (ρ : List V) (e : PE) (h : H) : evOr q F ρ [e] h = evE q F ρ e h := rfl
theorem qR_3 (q : Bool) (F : Fn) (ρ : List V) (e d : PE) (es : List PE) (h : H) : evOr q F ρ (e :: d :: es) h = (evE q F ρ e h).bind fun x h => match truthy x with
    | some true => .ok x h
    | some false => evOr q F ρ (d :: es) h
    | Option.none => .bad := rfl
end Mine

namespace Mine
open PySem
structure Ck where
  ctx : List (Str × Nat)
  names : List (Str × NameKind)
  fns : List String
  nums : List (String × Int)
noncomputable def visible (k : Option NameKind) : Bool := k == some .local || k == some .cell || k == some .free
noncomputable def Ck.var (c : Ck) (x : Str) (i : Nat) : Bool := c.ctx.lookup x == some i && visible (c.names.lookup x) && !(x == ("__debug__" : Str)) && !(x == ("__classdict__" : Str))
noncomputable def Ck.glob (c : Ck) (x : Str) : Bool := c.names.lookup x == some .globalImplicit && !(x == ("__debug__" : Str))
noncomputable def bopM : Bop → Operator
  | .add => .Add | .sub => .Sub | .mul => .Mult | .fdiv => .FloorDiv | .mod => .Mod | .pow => .Pow
noncomputable def copM : Cop → CmpOp
  | .eq => .Eq | .ne => .NotEq | .lt => .Lt | .le => .LtE | .gt => .Gt | .ge => .GtE | .is => .Is | .isNot => .IsNot | .isin => .In | .notIn => .NotIn
noncomputable def bopIs (op : Bop) (o : Operator) : Bool := decide (bopM op = o)
noncomputable def copIs (op : Cop) (o : CmpOp) : Bool := decide (copM op = o)
noncomputable def tyName : Ty → Str
  | .int => "int" | .bool => "bool" | .list => "list" | .tuple => "tuple" | .valueError => "ValueError"
  | .own c => Str.ofString c
noncomputable def isStar (e : Expr) : Bool := @Expr.casesOn (fun z_ => Bool) e (fun z_ z_ z_ => false) (fun z_ z_ z_ => false) (fun z_ z_ z_ z_ => false) (fun z_ z_ z_ => false) (fun z_ z_ z_ z_ => false) (fun z_ z_ z_ z_ => false) (fun z_ z_ z_ => false) (fun z_ z_ z_ => false) (fun z_ z_ z_ z_ => false) (fun z_ z_ z_ z_ => false) (fun z_ z_ z_ z_ z_ => false) (fun z_ z_ z_ z_ => false) (fun z_ z_ => false) (fun z_ z_ => false) (fun z_ z_ => false) (fun z_ z_ z_ z_ => false) (fun z_ z_ z_ z_ => false) (fun z_ z_ z_ z_ => false) (fun z_ z_ => false) (fun z_ z_ z_ => false) (fun z_ z_ z_ => false) (fun z_ z_ z_ => false) (fun z_ z_ => true) (fun z_ z_ => false) (fun z_ z_ => false) (fun z_ z_ z_ => false) (fun z_ z_ z_ z_ => false)
noncomputable def freshOp (o : Bop) : Bool := false
  || decide (o = .add)
noncomputable def freshE (e : PE) : Bool := @PE.casesOn (fun z_ => Bool) e false (fun z_ => false) (fun z_ => false) (fun z_ => false) (fun z_ => false) (fun z_ z_ => false) (fun o z_ z_ => freshOp o) (fun z_ => false) (fun z_ => false) (fun z_ => false) (fun z_ => false) (fun z_ z_ z_ => false) (fun z_ z_ z_ => false) (fun z_ z_ z_ z_ z_ => false) (fun z_ => true) (fun z_ => false) false (fun z_ z_ => false) (fun z_ z_ z_ => true) (fun z_ => false) (fun z_ z_ => false) (fun z_ z_ => false) (fun z_ z_ => false) (fun f z_ => (decide (f = .list) || decide (f = .listRev))) (fun z_ => false) (fun z_ z_ z_ z_ => true) (fun z_ z_ z_ => false) (fun z_ => false) (fun z_ => false) (fun z_ z_ => false) (fun z_ z_ => false) (fun z_ => false) (fun z_ z_ => false) (fun z_ => false) (fun z_ z_ => false) (fun z_ z_ z_ => false) (fun z_ z_ z_ => false) (fun z_ z_ => false)
noncomputable def okBase (e : Expr) : Bool := @Expr.casesOn (fun z_ => Bool) e (fun z_ z_ z_ => true) (fun z_ z_ z_ => true) (fun z_ z_ z_ z_ => true) (fun z_ z_ z_ => true) (fun z_ z_ z_ z_ => true) (fun z_ z_ z_ z_ => true) (fun z_ z_ z_ => true) (fun z_ z_ z_ => true) (fun z_ z_ z_ z_ => true) (fun z_ z_ z_ z_ => true) (fun z_ z_ z_ z_ z_ => true) (fun z_ z_ z_ z_ => true) (fun z_ z_ => true) (fun z_ z_ => true) (fun z_ z_ => true) (fun z_ z_ z_ z_ => true) (fun z_ z_ z_ z_ => false) (fun z_ z_ z_ z_ => true) (fun z_ z_ => true) (fun z_ z_ z_ => true) (fun z_ z_ z_ => true) (fun z_ z_ z_ => true) (fun z_ z_ => true) (fun z_ z_ => true) (fun z_ z_ => true) (fun z_ z_ z_ => true) (fun z_ z_ z_ z_ => true)
noncomputable def isSet (e : Expr) : Bool := @Expr.casesOn (fun z_ => Bool) e (fun z_ z_ z_ => false) (fun z_ z_ z_ => false) (fun z_ z_ z_ z_ => false) (fun z_ z_ z_ => false) (fun z_ z_ z_ z_ => false) (fun z_ z_ z_ z_ => false) (fun z_ z_ z_ => false) (fun z_ z_ z_ => true) (fun z_ z_ z_ z_ => false) (fun z_ z_ z_ z_ => false) (fun z_ z_ z_ z_ z_ => false) (fun z_ z_ z_ z_ => false) (fun z_ z_ => false) (fun z_ z_ => false) (fun z_ z_ => false) (fun z_ z_ z_ z_ => false) (fun z_ z_ z_ z_ => false) (fun z_ z_ z_ z_ => false) (fun z_ z_ => false) (fun z_ z_ z_ => false) (fun z_ z_ z_ => false) (fun z_ z_ z_ => false) (fun z_ z_ => false) (fun z_ z_ => false) (fun z_ z_ => false) (fun z_ z_ z_ => false) (fun z_ z_ z_ z_ => false)
noncomputable def tyPl : Ty → Bool
  | .own _ | .valueError => false
  | _ => true
theorem no {α : Type} {P : Prop} {x : α} (h : (none : Option α) = some x) : P := nomatch h
theorem noB {P : Prop} (h : false = true) : P := nomatch h
theorem al (h : (a && b) = true) : a = true := (Bool.and_eq_true_iff.mp h).1
theorem ar (h : (a && b) = true) : b = true := (Bool.and_eq_true_iff.mp h).2
theorem nt (h : (!a) = true) : a = false := by cases a; rfl; cases h
theorem dite_any {c : Prop} [Decidable c] {g : c → Bool} {G : Prop} (h : (dite c g fun z_ => false) = true) (k : ∀ hc, g hc = true → G) : G :=
  if hc : c then k hc ((dif_pos hc).symm.trans h) else noB ((dif_neg hc).symm.trans h)
noncomputable def xConst (e : Expr) (v0 : Const) (p : Bool) : Bool := dite (e.ctorIdx = 19) (fun hc => (@Expr.Constant.elim (fun z_ => Bool) e hc fun v z_ z_ => decide (v = v0) && p)) fun z_ => false
theorem const_any {G : Expr → Prop} (h : xConst e v0 p = true) (k : ∀ n q, p = true → G (.Constant v0 n q)) : G e :=
  dite_any h fun hc h => @Expr.Constant.elim (fun e => ∀ hc : e.ctorIdx = 19, (@Expr.Constant.elim (fun z_ => Bool) e hc fun v z_ z_ => decide (v = v0) && p) = true → G e) e hc (fun v n q z_ h => (show G (.Constant v n q) from by cases of_decide_eq_true (al h); exact k n q (ar h))) hc h
noncomputable def xName (e : Expr) (p : Str → Bool) : Bool := dite (e.ctorIdx = 23) (fun hc => (@Expr.Name.elim (fun z_ => Bool) e hc fun x z_ => p x)) fun z_ => false
theorem name_any {p : Str → Bool} {G : Expr → Prop} (h : xName e p = true) (k : ∀ x q, p x = true → G (.Name x q)) : G e :=
  dite_any h fun hc h => @Expr.Name.elim (fun e => ∀ hc : e.ctorIdx = 23, (@Expr.Name.elim (fun z_ => Bool) e hc fun x z_ => p x) = true → G e) e hc (fun x q z_ h => k x q h) hc h
noncomputable def xNameIs (e : Expr) (x0 : Str) (p : Bool) : Bool := dite (e.ctorIdx = 23) (fun hc => (@Expr.Name.elim (fun z_ => Bool) e hc fun x z_ => decide (x = x0) && p)) fun z_ => false
theorem nameIs_any {G : Expr → Prop} (h : xNameIs e x0 p = true) (k : ∀ q, p = true → G (.Name x0 q)) : G e :=
  dite_any h fun hc h => @Expr.Name.elim (fun e => ∀ hc : e.ctorIdx = 23, (@Expr.Name.elim (fun z_ => Bool) e hc fun x z_ => decide (x = x0) && p) = true → G e) e hc (fun x q z_ h => (show G (.Name x q) from by cases of_decide_eq_true (al h); exact k q (ar h))) hc h
noncomputable def xBin (e : Expr) (o0 : Operator) (p : Expr → Expr → Bool) : Bool := dite (e.ctorIdx = 2) (fun hc => (@Expr.BinOp.elim (fun z_ => Bool) e hc fun l o r z_ => decide (o = o0) && p l r)) fun z_ => false
theorem bin_any {p : Expr → Expr → Bool} {G : Expr → Prop} (h : xBin e o0 p = true) (k : ∀ l r q, p l r = true → G (.BinOp l o0 r q)) : G e :=
  dite_any h fun hc h => @Expr.BinOp.elim (fun e => ∀ hc : e.ctorIdx = 2, (@Expr.BinOp.elim (fun z_ => Bool) e hc fun l o r z_ => decide (o = o0) && p l r) = true → G e) e hc (fun l o r q z_ h => (show G (.BinOp l o r q) from by cases of_decide_eq_true (al h); exact k l r q (ar h))) hc h
noncomputable def xUn (e : Expr) (o0 : UnaryOp) (p : Expr → Bool) : Bool := dite (e.ctorIdx = 3) (fun hc => (@Expr.UnaryOp.elim (fun z_ => Bool) e hc fun o y z_ => decide (o = o0) && p y)) fun z_ => false
theorem un_any {p : Expr → Bool} {G : Expr → Prop} (h : xUn e o0 p = true) (k : ∀ y q, p y = true → G (.UnaryOp o0 y q)) : G e :=
  dite_any h fun hc h => @Expr.UnaryOp.elim (fun e => ∀ hc : e.ctorIdx = 3, (@Expr.UnaryOp.elim (fun z_ => Bool) e hc fun o y z_ => decide (o = o0) && p y) = true → G e) e hc (fun o y q z_ h => (show G (.UnaryOp o y q) from by cases of_decide_eq_true (al h); exact k y q (ar h))) hc h
noncomputable def xBool (e : Expr) (o0 : BoolOp) (p : List Expr → Bool) : Bool := dite (e.ctorIdx = 0) (fun hc => (@Expr.BoolOp.elim (fun z_ => Bool) e hc fun o ys z_ => decide (o = o0) && p ys)) fun z_ => false
theorem bool_any {p : List Expr → Bool} {G : Expr → Prop} (h : xBool e o0 p = true) (k : ∀ ys q, p ys = true → G (.BoolOp o0 ys q)) : G e :=
  dite_any h fun hc h => @Expr.BoolOp.elim (fun e => ∀ hc : e.ctorIdx = 0, (@Expr.BoolOp.elim (fun z_ => Bool) e hc fun o ys z_ => decide (o = o0) && p ys) = true → G e) e hc (fun o ys q z_ h => (show G (.BoolOp o ys q) from by cases of_decide_eq_true (al h); exact k ys q (ar h))) hc h
noncomputable def xCmp (e : Expr) (p : Expr → List CmpOp → List Expr → Bool) : Bool := dite (e.ctorIdx = 15) (fun hc => (@Expr.Compare.elim (fun z_ => Bool) e hc fun l os rs z_ => p l os rs)) fun z_ => false
theorem cmp_any {p : Expr → List CmpOp → List Expr → Bool} {G : Expr → Prop} (h : xCmp e p = true) (k : ∀ l os rs q, p l os rs = true → G (.Compare l os rs q)) : G e :=
  dite_any h fun hc h => @Expr.Compare.elim (fun e => ∀ hc : e.ctorIdx = 15, (@Expr.Compare.elim (fun z_ => Bool) e hc fun l os rs z_ => p l os rs) = true → G e) e hc (fun l os rs q z_ h => k l os rs q h) hc h
noncomputable def xList (e : Expr) (p : List Expr → Bool) : Bool := dite (e.ctorIdx = 24) (fun hc => (@Expr.List.elim (fun z_ => Bool) e hc fun xs z_ => p xs)) fun z_ => false
theorem list_any {p : List Expr → Bool} {G : Expr → Prop} (h : xList e p = true) (k : ∀ xs q, p xs = true → G (.List xs q)) : G e :=
  dite_any h fun hc h => @Expr.List.elim (fun e => ∀ hc : e.ctorIdx = 24, (@Expr.List.elim (fun z_ => Bool) e hc fun xs z_ => p xs) = true → G e) e hc (fun xs q z_ h => k xs q h) hc h
noncomputable def xTup (e : Expr) (p : List Expr → Bool) : Bool := dite (e.ctorIdx = 25) (fun hc => (@Expr.Tuple.elim (fun z_ => Bool) e hc fun xs z_ z_ => p xs)) fun z_ => false
theorem tup_any {p : List Expr → Bool} {G : Expr → Prop} (h : xTup e p = true) (k : ∀ xs n q, p xs = true → G (.Tuple xs n q)) : G e :=
  dite_any h fun hc h => @Expr.Tuple.elim (fun e => ∀ hc : e.ctorIdx = 25, (@Expr.Tuple.elim (fun z_ => Bool) e hc fun xs z_ z_ => p xs) = true → G e) e hc (fun xs n q z_ h => k xs n q h) hc h
noncomputable def xDict (e : Expr) (p : List (Option Expr) → List Expr → Bool) : Bool := dite (e.ctorIdx = 6) (fun hc => (@Expr.Dict.elim (fun z_ => Bool) e hc fun ks vs z_ => p ks vs)) fun z_ => false
theorem dict_any {p : List (Option Expr) → List Expr → Bool} {G : Expr → Prop} (h : xDict e p = true) (k : ∀ ks vs q, p ks vs = true → G (.Dict ks vs q)) : G e :=
  dite_any h fun hc h => @Expr.Dict.elim (fun e => ∀ hc : e.ctorIdx = 6, (@Expr.Dict.elim (fun z_ => Bool) e hc fun ks vs z_ => p ks vs) = true → G e) e hc (fun ks vs q z_ h => k ks vs q h) hc h
noncomputable def xSub (e : Expr) (p : Expr → Expr → Bool) : Bool := dite (e.ctorIdx = 21) (fun hc => (@Expr.Subscript.elim (fun z_ => Bool) e hc fun v i z_ => p v i)) fun z_ => false
theorem sub_any {p : Expr → Expr → Bool} {G : Expr → Prop} (h : xSub e p = true) (k : ∀ v i q, p v i = true → G (.Subscript v i q)) : G e :=
  dite_any h fun hc h => @Expr.Subscript.elim (fun e => ∀ hc : e.ctorIdx = 21, (@Expr.Subscript.elim (fun z_ => Bool) e hc fun v i z_ => p v i) = true → G e) e hc (fun v i q z_ h => k v i q h) hc h
noncomputable def xSlice (e : Expr) (p : Option Expr → Option Expr → Option Expr → Bool) : Bool := dite (e.ctorIdx = 26) (fun hc => (@Expr.Slice.elim (fun z_ => Bool) e hc fun l u d z_ => p l u d)) fun z_ => false
theorem slice_any {p : Option Expr → Option Expr → Option Expr → Bool} {G : Expr → Prop} (h : xSlice e p = true) (k : ∀ l u d q, p l u d = true → G (.Slice l u d q)) : G e :=
  dite_any h fun hc h => @Expr.Slice.elim (fun e => ∀ hc : e.ctorIdx = 26, (@Expr.Slice.elim (fun z_ => Bool) e hc fun l u d z_ => p l u d) = true → G e) e hc (fun l u d q z_ h => k l u d q h) hc h
noncomputable def xCall (e : Expr) (p : Expr → List Expr → List Keyword → Pos → Bool) : Bool := dite (e.ctorIdx = 16) (fun hc => (@Expr.Call.elim (fun z_ => Bool) e hc fun f xs ks q => p f xs ks q)) fun z_ => false
theorem call_any {p : Expr → List Expr → List Keyword → Pos → Bool} {G : Expr → Prop} (h : xCall e p = true) (k : ∀ f xs ks q, p f xs ks q = true → G (.Call f xs ks q)) : G e :=
  dite_any h fun hc h => @Expr.Call.elim (fun e => ∀ hc : e.ctorIdx = 16, (@Expr.Call.elim (fun z_ => Bool) e hc fun f xs ks q => p f xs ks q) = true → G e) e hc (fun f xs ks q z_ h => k f xs ks q h) hc h
noncomputable def xAttr (e : Expr) (m0 : Str) (p : Expr → Pos → Bool) : Bool := dite (e.ctorIdx = 20) (fun hc => (@Expr.Attribute.elim (fun z_ => Bool) e hc fun v m q => decide (m = m0) && p v q)) fun z_ => false
theorem attr_any {p : Expr → Pos → Bool} {G : Expr → Prop} (h : xAttr e m0 p = true) (k : ∀ v q, p v q = true → G (.Attribute v m0 q)) : G e :=
  dite_any h fun hc h => @Expr.Attribute.elim (fun e => ∀ hc : e.ctorIdx = 20, (@Expr.Attribute.elim (fun z_ => Bool) e hc fun v m q => decide (m = m0) && p v q) = true → G e) e hc (fun v m q z_ h => (show G (.Attribute v m q) from by cases of_decide_eq_true (al h); exact k v q (ar h))) hc h
noncomputable def xLC (e : Expr) (p : Expr → List Comprehension → Scope → Bool) : Bool := dite (e.ctorIdx = 8) (fun hc => (@Expr.ListComp.elim (fun z_ => Bool) e hc fun y gs sc z_ => p y gs sc)) fun z_ => false
theorem lc_any {p : Expr → List Comprehension → Scope → Bool} {G : Expr → Prop} (h : xLC e p = true) (k : ∀ y gs sc q, p y gs sc = true → G (.ListComp y gs sc q)) : G e :=
  dite_any h fun hc h => @Expr.ListComp.elim (fun e => ∀ hc : e.ctorIdx = 8, (@Expr.ListComp.elim (fun z_ => Bool) e hc fun y gs sc z_ => p y gs sc) = true → G e) e hc (fun y gs sc q z_ h => k y gs sc q h) hc h
noncomputable def one {α : Type} (l : List α) (p : α → Bool) : Bool := @List.casesOn α (fun z_ => Bool) l false fun x t => @List.casesOn α (fun z_ => Bool) t (p x) fun z_ z_ => false
theorem one_any {α : Type} {l : List α} {p : α → Bool} {G : List α → Prop} (h : one l p = true) (k : ∀ x, p x = true → G [x]) : G l :=
  @List.casesOn α (fun l => one l p = true → G l) l noB (fun x t => @List.casesOn α (fun t => one (x :: t) p = true → G (x :: t)) t (k x) fun z_ z_ => noB) h
noncomputable def two {α : Type} (l : List α) (p : α → α → Bool) : Bool := @List.casesOn α (fun z_ => Bool) l false fun x t => one t (p x)
theorem two_any {α : Type} {l : List α} {p : α → α → Bool} {G : List α → Prop} (h : two l p = true) (k : ∀ x y, p x y = true → G [x, y]) : G l :=
  @List.casesOn α (fun l => two l p = true → G l) l noB (fun x t h => one_any (G := fun t => G (x :: t)) h (k x)) h
noncomputable def three {α : Type} (l : List α) (p : α → α → α → Bool) : Bool := @List.casesOn α (fun z_ => Bool) l false fun x t => two t (p x)
theorem three_any {α : Type} {l : List α} {p : α → α → α → Bool} {G : List α → Prop} (h : three l p = true) (k : ∀ x y z, p x y z = true → G [x, y, z]) : G l :=
  @List.casesOn α (fun l => three l p = true → G l) l noB (fun x t h => two_any (G := fun t => G (x :: t)) h (k x)) h
theorem emp_any {α : Type} {l : List α} {G : List α → Prop} (h : l.isEmpty = true) (k : G []) : G l := by
  cases l with
  | nil => exact k
  | cons _ _ => cases h
noncomputable def oneO {α : Type} (o : Option α) (p : α → Bool) : Bool := @Option.casesOn α (fun z_ => Bool) o false p
theorem oneO_any {α : Type} {o : Option α} {p : α → Bool} {G : Option α → Prop} (h : oneO o p = true) (k : ∀ x, p x = true → G (some x)) : G o :=
  @Option.casesOn α (fun o => oneO o p = true → G o) o noB k h
theorem none_any {α : Type} {o : Option α} {G : Option α → Prop} (h : o.isNone = true) (k : G none) : G o := by
  cases o with
  | none => exact k
  | some _ => cases h
noncomputable def xNamed (e : Expr) (f : Str) (p : List Expr → Bool) : Bool := xCall e fun g xs ks z_ => ks.isEmpty && (xNameIs g f true && p xs)
theorem named_any {e : Expr} {f : Str} {p : List Expr → Bool} {G : Expr → Prop} (h : xNamed e f p = true) (k : ∀ xs q q', p xs = true → G (.Call (.Name f q) xs [] q')) : G e :=
  call_any h fun g xs ks q' h => emp_any (G := fun ks => G (.Call g xs ks q')) (al h) (nameIs_any (G := fun g => G (.Call g xs [] q')) (al (ar h)) fun q z_ => k xs q q' (ar (ar h)))
noncomputable def xMeth (e : Expr) (m : Str) (p : Expr → List Expr → Bool) : Bool := xCall e fun g xs ks q' => ks.isEmpty && xAttr g m fun v q => q.endLine == q'.line && p v xs
theorem meth_any {e : Expr} {m : Str} {p : Expr → List Expr → Bool} {G : Expr → Prop} (h : xMeth e m p = true) (k : ∀ v xs q q', (q.endLine == q'.line) = true → p v xs = true → G (.Call (.Attribute v m q) xs [] q')) : G e :=
  call_any h fun g xs ks q' h => emp_any (G := fun ks => G (.Call g xs ks q')) (al h) (attr_any (G := fun g => G (.Call g xs [] q')) (ar h) fun v q h => k v xs q q' (al h) (ar h))
noncomputable def xGen (gs : List Comprehension) (p : Str → Expr → List Expr → Bool) : Bool := one gs fun g => decide (g.is_async = 0) && xName g.target fun x => p x g.iter g.ifs
theorem gen_any {gs : List Comprehension} {p : Str → Expr → List Expr → Bool} {G : List Comprehension → Prop} (h : xGen gs p = true) (k : ∀ x iter ifs q, p x iter ifs = true → G [⟨.Name x q, iter, ifs, 0⟩]) : G gs :=
  one_any h fun g h => by
    obtain ⟨t, iter, ifs, d⟩ := g
    cases of_decide_eq_true (al h)
    exact name_any (G := fun t => G [⟨t, iter, ifs, 0⟩]) (ar h) fun x q h => k x iter ifs q h
noncomputable def ckTy (c : Ck) (t : Ty) (e : Expr) : Bool := xNameIs e (tyName t) true && c.glob (tyName t)
theorem ckTy_inv (h : ckTy c t e = true) : ∃ p, e = .Name (tyName t) p ∧ c.glob (tyName t) = true :=
  nameIs_any (G := fun e => ∃ p, e = .Name (tyName t) p ∧ c.glob (tyName t) = true) (al h) fun q z_ => ⟨q, rfl, ar h⟩
noncomputable def ckTys (c : Ck) : List Ty → List Expr → Bool
  | [], [] => true
  | t :: ts, e :: es => ckTy c t e && ckTys c ts es
  | _, _ => false
noncomputable def relab (outer : List (Str × NameKind)) (names : List (Str × NameKind)) : List (Str × NameKind) :=
  names.map fun (n, k) => if (k == .free && outer.lookup n == some .cell) then (n, .cell) else (n, k)
noncomputable def scopeOk (c : Ck) (x : Str) (scope : Scope) : Bool :=
  scope.kind == .function && scope.names.all (fun p => (p.2 != .local || ((p.1 == x || p.1 == (".0" : Str)) && scope.names.lookup p.1 == some .local)) && (p.2 != .free || c.names.lookup p.1 == some .cell || c.names.lookup p.1 == some .free) && p.2 != .cell) &&
  scope.names.lookup x == some .local && !(x == (".0" : Str)) && c.ctx.lookup (".0" : Str) == none
noncomputable def Ck.inner (c : Ck) (x : Str) (i : Nat) (scope : Scope) : Ck := ⟨(x, i) :: c.ctx, relab c.names scope.names, c.fns, c.nums⟩
noncomputable def bfName : Bf → Str
  | .len => "len" | .list => "list" | .tuple => "tuple" | .sorted => "sorted" | .min => "min" | .sum => "sum" | .any => "any" | .all => "all" | .int => "int" | .str => "str"
  | .listRev => "list" | .listRange => "list"
mutual
noncomputable def ckE (c : Ck) : PE → Expr → Bool
  | .none, ex => xConst ex .none true
  | .bool b, ex => xConst ex (.bool b) true
  | .int i, ex => xConst ex (.int i) true
  | .str s, ex => xConst ex (.str (Str.ofString s)) true
  | .var i, ex => xName ex fun x => c.var x i
  | .glob g i, ex => xNameIs ex (Str.ofString g) true && (c.glob (Str.ofString g) && c.nums.contains (g, i))
  | .bin op a b, ex => xBin ex (bopM op) fun l r => ckE c a l && ckE c b r
  | .neg i, ex => xUn ex .USub fun y => xConst y (.int i) true
  | .not a, ex => xUn ex .Not fun y => ckE c a y
  | .and es, ex => xBool ex .And fun ys => ckEs c es ys
  | .or es, ex => xBool ex .Or fun ys => ckEs c es ys
  | .ite .., _ => false
  | .cmp op a b, ex => xCmp ex fun l os rs => one os fun o => one rs fun r => copIs op o && (ckE c a l && (ckE c b r && !isSet r))
  | .cmp2 o1 o2 a b d, ex => xCmp ex fun l os rs => two os fun u1 u2 => two rs fun r1 r2 => copIs o1 u1 && (copIs o2 u2 && (ckE c a l && (ckE c b r1 && (ckE c d r2 && !isSet r2))))
  | .list es, ex => xList ex fun xs => ckEs c es xs
  | .tup es, ex => xTup ex fun xs => ckEs c es xs
  | .dict0, ex => xDict ex fun ks vs => ks.isEmpty && vs.isEmpty
  | .idx a i, ex => xSub ex fun v s => ckE c a v && ckE c i s
  | .slice a lo hi, ex => xSub ex fun v s => xSlice s fun l u d => d.isNone && (ckE c a v && (ckO c lo l && ckO c hi u))
  | .rev .., _ => false
  | .isinst a ts, ex => xNamed ex "isinstance" fun xs => two xs fun y t => c.glob "isinstance" && (ckE c a y && (ts.all tyPl && ((xTup t fun es => ckTys c ts es && (decide (ts ≠ []) && decide (ts.length ≤ 1000))) || one ts fun u => ckTy c u t)))
  | .isexc i t, ex => xNamed ex "isinstance" fun xs => two xs fun y t' => c.glob "isinstance" && ((xName y fun x => c.var x i) && ckTy c t t')
  | .callX f i, ex => xNamed ex (Str.ofString f) fun xs => one xs fun v => c.glob (Str.ofString f) && (c.fns.contains f && xName v fun x => c.var x i)
  | .bf f a, ex => xNamed ex (bfName f) fun xs => one xs fun x => c.glob (bfName f) && (match f with
        | .listRev => false
        | .listRange => false
        | _ => ckE c a x)
  | .join0 .., _ => false
  | .comp elt i it cond, ex => xLC ex fun y gs sc => xGen gs fun x iter ifs => ckIt c it iter && (!isSet iter && (scopeOk c x sc && (c.ctx.all (fun p => p.2 != i) && (ckE (c.inner x i sc) elt y && ckC (c.inner x i sc) cond ifs))))
  | .call _ f args, ex => xNamed ex (Str.ofString f) fun xs => c.glob (Str.ofString f) && (c.fns.contains f && (ckEs c args xs && !args.isEmpty))
  | .own a, ex => freshE a && ckE c a ex
  | .newDict es, ex => xDict ex fun ks vs => ks.isEmpty && (vs.isEmpty && es.isEmpty)
  | .append o a, ex => xMeth ex "append" fun v xs => one xs fun x => okBase v && (ckE c o v && (ckE c a x && !isStar x))
  | .extend .., _ => false
  | .clear o, ex => xMeth ex "clear" fun v xs => okBase v && (ckE c o v && xs.isEmpty)
  | .remove .., _ => false
  | .pop .., _ => false
  | .popAt .., _ => false
  | .get .., _ => false
  | .setdef .., _ => false
  | .setdefL .., _ => false
noncomputable def ckEs (c : Ck) : List PE → List Expr → Bool
  | [], xs => xs.isEmpty
  | e :: es, xs => (match xs with | x :: xs => !isStar x && (ckE c e x && ckEs c es xs) | [] => false)
noncomputable def ckO (c : Ck) : Option PE → Option Expr → Bool
  | none, x => x.isNone
  | some e, x => oneO x fun x => ckE c e x
noncomputable def ckC (c : Ck) : Option PE → List Expr → Bool
  | none, xs => xs.isEmpty
  | some e, xs => one xs fun x => ckE c e x
noncomputable def ckIt (c : Ck) : PIt → Expr → Bool
  | .seq e, x => ckE c e x
  | .range1 a, x => xNamed x "range" fun xs => one xs fun y => c.glob "range" && ckE c a y
  | .range2 .., _ => false
  | .range3 a b d, x => xNamed x "range" fun xs => three xs fun y z w => c.glob "range" && (ckE c a y && (ckE c b z && ckE c d w))
  | .enum .., _ => false
end
structure Amb where
  prog : Program
  w : World
  B : Heap
  mg : Str → Option Value
  mb : Str → Option Value
  P : Tab
  K : List (Addr × Obj) := []
  res : List Addr := []
abbrev Amb.M (am : Amb) : Model := model am.prog am.w
noncomputable def ExcAt (am : Amb) (h : Heap) (c : String) (a : Addr) : Prop :=
  ∃ C o vs, am.mg (Str.ofString c) = some (.ref C) ∧ h.get? a = some o ∧ (o.cls = .ref C ∧ o.dict = none) ∧ o.data = .fields vs ∧ vs[2]? = some .none ∧ am.B.get? a = none
mutual
noncomputable def VR (am : Amb) (π : List Addr) (h : Heap) : V → Value → Prop
  | .undef, _ => False
  | .none, x => x = .none
  | .bool b, x => x = .bool b
  | .int i, x => ∃ t, x = .int i t
  | .str s, x => ∃ t, x = .str (Str.ofString s) t
  | .tup vs, x => ∃ a xs, x = .ref a ∧ (a ∉ π ∧ a ∉ am.res) ∧ h.IsTuple a (List.toArray xs) ∧ vs.length ≤ 1000000 ∧ VRs am π h vs xs
  | .lst vs, x => ∃ a xs, x = .ref a ∧ (a ∉ π ∧ a ∉ am.res) ∧ h.IsList a (List.toArray xs) ∧ vs.length ≤ 1000000 ∧ VRs am π h vs xs
  | .ref i, x => ∃ a, x = .ref a ∧ π[i]? = some a
  | .exc _, _ => False
  | .dct, x => ∃ a o es ep, x = .ref a ∧ (a ∉ π ∧ a ∉ am.res) ∧ h.get? a = some o ∧ o.cls = .type "dict" ∧ o.data = .dict es ep
noncomputable def VRs (am : Amb) (π : List Addr) (h : Heap) : List V → List Value → Prop
  | [], xs => xs = []
  | v :: vs, xs => ∃ x xs', xs = x :: xs' ∧ VR am π h v x ∧ VRs am π h vs xs'
end
theorem VRs.len : ∀ {vs : List V} {xs : List Value}, VRs am π h vs xs → xs.length = vs.length
  | [], xs, e => by simp only [VRs] at e; simp [e]
  | v :: vs, xs, e => by
    simp only [VRs] at e
    obtain ⟨x, xs', rfl, _, r⟩ := e
    simp [VRs.len r]
theorem VRs.get : ∀ {vs : List V} {xs : List Value}, VRs am π h vs xs → ∀ (i : Nat) (v : V), vs[i]? = some v → ∃ x, xs[i]? = some x ∧ VR am π h v x
  | [], _, _, i, v, hv => by simp at hv
  | v :: vs, xs, e, i, w, hw => by
    simp only [VRs] at e
    obtain ⟨x, xs', rfl, hx, r⟩ := e
    cases i with
    | zero => simp only [List.getElem?_cons_zero, Option.some.injEq] at hw ⊢; subst hw; exact ⟨x, rfl, hx⟩
    | succ i => simp only [List.getElem?_cons_succ] at hw ⊢; exact VRs.get r i w hw
theorem VRs.append : ∀ {vs ws : List V} {xs ys : List Value}, VRs am π h vs xs → VRs am π h ws ys → VRs am π h (vs ++ ws) (xs ++ ys)
  | [], ws, xs, ys, e, r => by simp only [VRs] at e; subst e; exact r
  | v :: vs, ws, xs, ys, e, r => by
    simp only [VRs] at e
    obtain ⟨x, xs', rfl, hx, e⟩ := e
    simp only [List.cons_append, VRs]
    exact ⟨x, xs' ++ ys, rfl, hx, VRs.append e r⟩
theorem VRs.single (e : VR am π h v x) : VRs am π h [v] [x] := by
  simp only [VRs]; exact ⟨x, [], rfl, e, rfl⟩
theorem VRs.take : ∀ {vs : List V} {xs : List Value} (n : Nat), VRs am π h vs xs → VRs am π h (vs.take n) (xs.take n)
  | [], xs, n, e => by simp only [VRs] at e; subst e; simp [VRs]
  | v :: vs, xs, n, e => by
    simp only [VRs] at e
    obtain ⟨x, xs', rfl, hx, e⟩ := e
    cases n with
    | zero => simp [VRs]
    | succ n => simp only [List.take_succ_cons, VRs]; exact ⟨x, xs'.take n, rfl, hx, VRs.take n e⟩
theorem VRs.drop : ∀ {vs : List V} {xs : List Value} (n : Nat), VRs am π h vs xs → VRs am π h (vs.drop n) (xs.drop n)
  | [], xs, n, e => by simp only [VRs] at e; subst e; simp [VRs]
  | v :: vs, xs, n, e => by
    have e0 := e
    simp only [VRs] at e
    obtain ⟨x, xs', rfl, hx, e⟩ := e
    cases n with
    | zero => exact e0
    | succ n => simp only [List.drop_succ_cons]; exact VRs.drop n e
theorem VRs.reverse : ∀ {vs : List V} {xs : List Value}, VRs am π h vs xs → VRs am π h vs.reverse xs.reverse
  | [], xs, e => by simp only [VRs] at e; subst e; simp [VRs]
  | v :: vs, xs, e => by
    simp only [VRs] at e
    obtain ⟨x, xs', rfl, hx, e⟩ := e
    rw [List.reverse_cons, List.reverse_cons]
    exact VRs.append (VRs.reverse e) (VRs.single hx)
theorem VRs.flatten (e : VRs am π h vs xs) : ∀ n : Nat, VRs am π h (List.replicate n vs).flatten (List.replicate n xs).flatten
  | 0 => by simp [VRs]
  | n + 1 => by rw [List.replicate_succ, List.replicate_succ, List.flatten_cons, List.flatten_cons]; exact VRs.append e (VRs.flatten e n)
theorem VRs.set : ∀ {vs : List V} {xs : List Value} (i : Nat) {v : V} {x : Value}, VRs am π h vs xs → VR am π h v x → VRs am π h (vs.set i v) (xs.set i x)
  | [], xs, i, v, x, e, _ => by simp only [VRs] at e; subst e; simp [VRs]
  | w :: vs, xs, i, v, x, e, hv => by
    simp only [VRs] at e
    obtain ⟨y, xs', rfl, hy, e⟩ := e
    cases i with
    | zero => simp only [List.set_cons_zero, VRs]; exact ⟨x, xs', rfl, hv, e⟩
    | succ i => simp only [List.set_cons_succ, VRs]; exact ⟨y, xs'.set i x, rfl, hy, VRs.set i e hv⟩
theorem VRs.eraseIdx : ∀ {vs : List V} {xs : List Value} (i : Nat), VRs am π h vs xs → VRs am π h (vs.eraseIdx i) (xs.eraseIdx i)
  | [], xs, i, e => by simp only [VRs] at e; subst e; simp [VRs]
  | w :: vs, xs, i, e => by
    simp only [VRs] at e
    obtain ⟨y, xs', rfl, hy, e⟩ := e
    cases i with
    | zero => simpa using e
    | succ i => simp only [List.eraseIdx_cons_succ, VRs]; exact ⟨y, xs'.eraseIdx i, rfl, hy, VRs.eraseIdx i e⟩
structure Ext (π Fs : List Addr) (h h' : Heap) : Prop where
  keep : ∀ a o, h.get? a = some o → a ∉ π → a ∉ Fs → h'.get? a = some o
  slots : ∀ a o, h.get? a = some o → a ∉ π → ∃ sl, h'.get? a = some { o with slots := sl }
  alive : ∀ a o, h.get? a = some o → ∃ o', h'.get? a = some o'
theorem Ext.refl (π Fs : List Addr) (h : Heap) : Ext π Fs h h :=
  ⟨fun z_ z_ e z_ z_ => e, fun z_ o e z_ => ⟨o.slots, e⟩, fun z_ o e => ⟨o, e⟩⟩
theorem Ext.of_keeps (k : ∀ b o, h.get? b = some o → h'.get? b = some o) : Ext π Fs h h' :=
  ⟨fun a o e z_ z_ => k a o e, fun a o e z_ => ⟨o.slots, k a o e⟩, fun a o e => ⟨o, k a o e⟩⟩
theorem Ext.push (π Fs : List Addr) (h : Heap) (o : Obj) : Ext π Fs h (h.push o) :=
  Ext.of_keeps fun z_ z_ e => Heap.get?_push_of_some _ e
theorem Ext.list (x : Ext π Fs h h') (hl : h.IsList a xs) (ha : a ∉ π) : h'.IsList a xs := by
  obtain ⟨o, ho, hc, n, hd⟩ := hl
  obtain ⟨sl, hs⟩ := x.slots a o ho ha
  exact ⟨_, hs, hc, n, hd⟩
theorem Ext.tuple (x : Ext π Fs h h') (hl : h.IsTuple a xs) (ha : a ∉ π) : h'.IsTuple a xs := by
  obtain ⟨o, ho, hc, n, hd⟩ := hl
  obtain ⟨sl, hs⟩ := x.slots a o ho ha
  exact ⟨_, hs, hc, n, hd⟩
structure Step (Fs : List Addr) (π : List Addr) (s : Shared) (π' : List Addr) (s' : Shared) : Prop where
  same : ∃ h' tk, s' = { s with heap := h', toks := tk }
  ext : Ext π Fs s.heap s'.heap
  grow : ∃ δ, π' = π ++ δ ∧ ∀ a ∈ δ, s.heap.get? a = none
theorem Step.refl (Fs π : List Addr) (s : Shared) : Step Fs π s π s := ⟨⟨s.heap, s.toks, rfl⟩, .refl .., [], by simp, by simp⟩
theorem Step.notin (x : Step Fs π s π' s') (ho : s.heap.get? a = some o) (ha : a ∉ π) : a ∉ π' := by
  obtain ⟨δ, rfl, hδ⟩ := x.grow
  intro hm
  rcases List.mem_append.mp hm with h1 | h1
  · exact ha h1
  · have := hδ a h1; rw [ho] at this; cases this
theorem Step.trans (x : Step Fs π₀ s₀ π₁ s₁) (y : Step Fs π₁ s₁ π₂ s₂) : Step Fs π₀ s₀ π₂ s₂ := by
  refine ⟨?_, ⟨fun a o e h1 h2 => ?_, fun a o e h1 => ?_, fun a o e => ?_⟩, ?_⟩
  · obtain ⟨h', tk, rfl⟩ := x.same
    obtain ⟨h'', tk', rfl⟩ := y.same
    exact ⟨h'', tk', rfl⟩
  · exact y.ext.keep a o (x.ext.keep a o e h1 h2) (x.notin e h1) h2
  · obtain ⟨sl, h3⟩ := x.ext.slots a o e h1
    obtain ⟨sl', h4⟩ := y.ext.slots a _ h3 (x.notin e h1)
    exact ⟨sl', h4⟩
  · obtain ⟨o', h3⟩ := x.ext.alive a o e
    exact y.ext.alive a o' h3
  · obtain ⟨δ, rfl, hδ⟩ := x.grow
    obtain ⟨δ', rfl, hδ'⟩ := y.grow
    refine ⟨δ ++ δ', by simp, fun a ha => ?_⟩
    rcases List.mem_append.mp ha with h1 | h1
    · exact hδ a h1
    · cases hq : s₀.heap.get? a with
      | none => rfl
      | some o =>
        obtain ⟨o', h3⟩ := x.ext.alive a o hq
        have := hδ' a h1; rw [h3] at this; cases this
theorem Step.keeps (k : ∀ b o, s.heap.get? b = some o → h'.get? b = some o) : Step Fs π s π { s with heap := h', toks := tk } :=
  ⟨⟨h', tk, rfl⟩, .of_keeps k, [], by simp, by simp⟩
theorem Step.tok (tk : Nat) : Step Fs π s π { s with toks := tk } := Step.keeps fun z_ z_ e => e
noncomputable def Via (am am' : Amb) (π π' : List Addr) (h h' : Heap) : Prop :=
  (∀ a o, h.get? a = some o → (∀ us, o.data ≠ .fields us) → a ∉ π → a ∉ am.res → (∃ sl, h'.get? a = some { o with slots := sl }) ∧ a ∉ π' ∧ a ∉ am'.res) ∧ ∀ (i : Nat) (a : Addr), π[i]? = some a → π'[i]? = some a
mutual
theorem VR.via (k : Via am am' π π' h h') : ∀ {v : V} {y : Value}, VR am π h v y → VR am' π' h' v y
  | .undef, _, e => e
  | .none, _, e => e
  | .bool _, _, e => e
  | .int _, _, e => e
  | .str _, _, e => e
  | .exc _, _, e => e
  | .ref i, y, ⟨a, h1, h2⟩ => ⟨a, h1, k.2 i a h2⟩
  | .tup vs, y, ⟨a, xs, h1, ha, ⟨o, ho, hc, n, hd⟩, hz, e⟩ =>
    have q := k.1 a o ho (fun us z => by rw [hd] at z; cases z) ha.1 ha.2
    have ⟨sl, hs⟩ := q.1
    ⟨a, xs, h1, q.2, ⟨_, hs, hc, n, hd⟩, hz, VRs.via k e⟩
  | .lst vs, y, ⟨a, xs, h1, ha, ⟨o, ho, hc, n, hd⟩, hz, e⟩ =>
    have q := k.1 a o ho (fun us z => by rw [hd] at z; cases z) ha.1 ha.2
    have ⟨sl, hs⟩ := q.1
    ⟨a, xs, h1, q.2, ⟨_, hs, hc, n, hd⟩, hz, VRs.via k e⟩
  | .dct, y, ⟨a, o, es, ep, h1, ha, ho, hc, hd⟩ =>
    have q := k.1 a o ho (fun us z => by rw [hd] at z; cases z) ha.1 ha.2
    have ⟨sl, hs⟩ := q.1
    ⟨a, _, es, ep, h1, q.2, hs, hc, hd⟩
theorem VRs.via (k : Via am am' π π' h h') : ∀ {vs : List V} {ys : List Value}, VRs am π h vs ys → VRs am' π' h' vs ys
  | [], _, e => e
  | v :: vs, ys, ⟨y, ys', h1, h2, h3⟩ => ⟨y, ys', h1, VR.via k h2, VRs.via k h3⟩
end
theorem Step.via (x : Step Fs π s π' s') : Via am am π π' s.heap s'.heap :=
  ⟨fun a o ho z_ h1 h2 => ⟨x.ext.slots a o ho h1, x.notin ho h1, h2⟩, fun i a ha => by
    obtain ⟨δ, rfl, _⟩ := x.grow
    rw [List.getElem?_append_left (List.getElem?_eq_some_iff.mp ha).1]; exact ha⟩
theorem VR.step (x : Step Fs π s π' s') (e : VR am π s.heap v y) : VR am π' s'.heap v y := e.via x.via
theorem VRs.step (x : Step Fs π s π' s') (e : VRs am π s.heap vs ys) : VRs am π' s'.heap vs ys := e.via x.via
noncomputable def PL (h : Heap) (a : Addr) (xs : List Value) : Prop := ∃ o n, h.get? a = some o ∧ o.cls = .type "list" ∧ o.dict = none ∧ o.data = .seq (List.toArray xs) n
theorem PL.is (x : PL h a xs) : h.IsList a (List.toArray xs) := let ⟨o, n, ho, hc, _, hd⟩ := x; ⟨o, ho, hc, n, hd⟩
noncomputable def Cell.vals : Cell → List V
  | .list vs => vs
  | .dict es => es.flatMap fun e => [e.1, e.2]
noncomputable def hashV (k : V) : Int := match keyT k with
  | some is => hashInt (is.headD 0)
  | none => 0
noncomputable def ents : List (V × V) → List Value → List DictEntry
  | (k, _) :: es, x :: y :: xs => ⟨hashV k, x, y⟩ :: ents es xs
  | _, _ => []
noncomputable def dgood (es : List (V × V)) : Prop := (es.map (·.1)).Nodup ∧ ∀ e ∈ es, (keyT e.1).isSome = true
noncomputable def CK : Cell → Addr → Obj → List Value → Prop
  | .list _, _, o, xs => ∃ n, o.cls = .type "list" ∧ o.dict = none ∧ o.data = .seq (List.toArray xs) n
  | .dict es, a, o, xs => a ≠ sysModules ∧ ∃ arr ep, o.cls = .type "dict" ∧ o.dict = none ∧ o.data = .dict arr ep ∧ arr.toList = ents es xs ∧ dgood es
theorem CK.slots (sl : Array (Option Value)) (x : CK c a o xs) : CK c a { o with slots := sl } xs := by
  cases c <;> exact x
theorem CK.nf (x : CK c a o xs) : ∀ us, o.data ≠ .fields us := fun us q => by
  cases c with
  | list vs => obtain ⟨n, _, _, hd⟩ := x; rw [hd] at q; cases q
  | dict es => obtain ⟨_, arr, ep, _, _, hd, _⟩ := x; rw [hd] at q; cases q
noncomputable def CellAt (am : Amb) (π : List Addr) (h : Heap) (c : Cell) (a : Addr) : Prop := ∃ o xs, h.get? a = some o ∧ CK c a o xs ∧ c.vals.length ≤ 1000000 ∧ VRs am π h c.vals xs
theorem CellAt.list (x : CellAt am π h (.list vs) a) : ∃ xs, PL h a xs ∧ vs.length ≤ 1000000 ∧ VRs am π h vs xs := by
  obtain ⟨o, xs, ho, ⟨n, r⟩, h2, h3⟩ := x
  exact ⟨xs, ⟨o, n, ho, r⟩, h2, h3⟩
theorem CellAt.ofList (x : PL h a xs) (h2 : vs.length ≤ 1000000) (h3 : VRs am π h vs xs) : CellAt am π h (.list vs) a := by
  obtain ⟨o, n, ho, r⟩ := x
  exact ⟨o, xs, ho, ⟨n, r⟩, h2, h3⟩
theorem CellAt.obj (x : CellAt am π h c a) : ∃ o, h.get? a = some o ∧ ∀ us, o.data ≠ .fields us := by
  obtain ⟨o, xs, ho, hk, _⟩ := x
  exact ⟨o, ho, hk.nf⟩
theorem CellAt.via (k : Via am am' π π' h h') (ka : ∀ o, h.get? a = some o → (∀ us, o.data ≠ .fields us) → ∃ sl, h'.get? a = some { o with slots := sl }) (x : CellAt am π h c a) : CellAt am' π' h' c a := by
  obtain ⟨o, xs, ho, hk, h2, h3⟩ := x
  obtain ⟨sl, hs⟩ := ka o ho hk.nf
  exact ⟨_, xs, hs, hk.slots sl, h2, h3.via k⟩
structure HR (am : Amb) (stack : List Env) (π : List Addr) (H : H) (h : Heap) : Prop where
  base : am.B.StaysIn h
  frames : h.FunFrames am.B stack
  len : π.length = H.length
  nodup : π.Nodup
  res : ∀ a ∈ am.res, ∃ o, h.get? a = some o ∧ ∀ us, o.data ≠ .fields us
  off : ∀ a ∈ π, am.B.get? a = none ∧ a ∉ stack.filterMap (·.frame)
  cell : ∀ (i : Nat) (c : Cell) (a : Addr), H[i]? = some c → π[i]? = some a → CellAt am π h c a
end Mine

namespace Mine
open PySem PySem.W
abbrev Fs (stack : List Env) : List Addr := stack.filterMap (·.frame)
noncomputable def XAt (base h : Heap) (e : Addr) (C : Value) (fl : Option Value) : Prop :=
  base.StaysIn h ∧ base.get? e = none ∧ ∃ oe vs, h.get? e = some oe ∧ (oe.cls = C ∧ oe.dict = none) ∧ oe.data = .fields vs ∧ vs[2]? = some .none ∧
    (match fl with
      | none => vs[1]? = some .none
      | some f => ∃ T oT ts, vs[1]? = some (.ref T) ∧ base.get? T = none ∧ T ≠ e ∧ h.get? T = some oT ∧ oT.data = .fields ts ∧ ts[3]? = some f)
theorem none_of_stays {base B : Heap} (k : base.StaysIn B) {b : Addr} (e : B.get? b = none) : base.get? b = none := by
  cases q : base.get? b with
  | none => rfl
  | some o => have := k b o q; rw [e] at this; cases this
theorem XAt.mono {base B h : Heap} {e : Addr} {C : Value} {fl : Option Value} (k : base.StaysIn B) (x : XAt B h e C fl) : XAt base h e C fl := by
  refine hold fun z_ k_ => ?_
  obtain ⟨h1, h2, oe, vs, h3, h4, h5, h6, h7⟩ := x
  refine k_ ?_
  refine ⟨fun b o q => h1 b o (k b o q), none_of_stays k h2, oe, vs, h3, h4, h5, h6, ?_⟩
  cases fl with
  | none => exact h7
  | some f =>
    refine hold fun z_ k_ => ?_
    obtain ⟨T, oT, ts, t1, t2, t3⟩ := h7
    refine k_ ?_
    exact ⟨T, oT, ts, t1, none_of_stays k t2, t3⟩
structure Touch (base : Heap) (h h' : Heap) : Prop where
  stays : base.StaysIn h'
  slots : h.UpToSlots h'
theorem Touch.trans (x : Touch base h₁ h₂) (y : Touch base h₂ h₃) : Touch base h₁ h₃ := ⟨y.stays, x.slots.trans y.slots⟩
theorem dict_mapFields (o : Obj) (f) : (o.mapFields f).dict = o.dict := by
  obtain ⟨c, d, dt, sl⟩ := o; cases dt <;> rfl
theorem funFrames_slots {h h' base : Heap} (k : h.UpToSlots h') {l : List Env} (x : h.FunFrames base l) : h'.FunFrames base l :=
  x.of_keeps fun b o ho hn => let ⟨_, e⟩ := k b o ho hn; ⟨_, e, rfl⟩
section
variable {M : Model} {A : Around} {E : Value → Shared → Prop} {s : Shared}
theorem x_entry {Q : Unit → Shared → Prop}
    (hfr : A.frames = some (env :: outer)) (hl : s.heap.FunFrames base (env :: outer)) (hf : env.frame = some L)
    (he : s.heap.get? e = some oe) (hkb : base.StaysIn s.heap) (hen : base.get? e = none) (hdi : oe.dict = none) (hd : oe.data = .fields vs) (hsz : 1 < vs.size) (h2 : vs[2]? = some .none)
    (h : ∀ h', XAt base h' e oe.cls (some (rawInt L)) → Touch base s.heap h' → Q () { s with heap := h' }) :
    wpAny M A (do let a ← frameOf env; let pl ← entryPlaceOf L hadNext; let b ← EntryCells.newEntry head a .none (rawInt L) .none pl; setField (.ref e) 1 b) Q E s := by
  have hene : e ∉ (env :: outer).filterMap (·.frame) := fun hm => by
    refine hold fun z_ k_ => ?_
    obtain ⟨_, o, ho, hnf⟩ := hl.mem hm
    refine k_ ?_
    rw [he] at ho; injection ho with ho; subst ho; exact hnf vs hd
  refine wpAny_bind (wpAny_frameOf_fun hfr hl hf fun h₁ hs₁ => ?_)
  refine wpAny_bind (wpAny_entryPlaceOf fun pl hpl => ?_)
  unfold EntryCells.newEntry newFields
  refine wpAny_bind (wpAny_newObj_type ?_ (hpl.sizeOk5 _ _ _ _ _))
  have he₁ : h₁.get? e = some oe := (hs₁.2.1 e hene).trans he
  have kb₁ : base.StaysIn h₁ := fun b o hbo => (hs₁.2.1 b fun hm => by rw [(hl.mem hm).1] at hbo; cases hbo).trans (hkb b o hbo)
  generalize hT : ({ cls := .type "traceback", dict := none, data := .fields ([head, .ref L, .none, rawInt L, .none] ++ (if pl.isEmpty then List.replicate 6 Value.none else pl)).toArray } : Obj) = T
  have hTd : T.data = .fields ([head, .ref L, .none, rawInt L, .none] ++ (if pl.isEmpty then List.replicate 6 Value.none else pl)).toArray := by rw [← hT]
  have he₂ := Heap.get?_push_of_some (h := h₁) T he₁
  refine wpAny_setField he₂ hd hsz (h _ ?_ ?_)
  all_goals
    have hTe : h₁.objs.size ≠ e := Nat.ne_of_gt (Heap.lt_size he₁)
    have hd₃ := Obj.data_mapFields hd (·.setIfInBounds 1 (Value.ref h₁.objs.size))
    have he₃ := Heap.get?_update_self (Obj.mapFields (·.setIfInBounds 1 (Value.ref h₁.objs.size))) he₂ (Obj.isFreed_of_fields hd₃)
    have hT₃ := (Heap.get?_update_other (h₁.push T) (Obj.mapFields (·.setIfInBounds 1 (Value.ref h₁.objs.size))) (Ne.symm hTe)).trans (Heap.get?_push_size h₁ (Obj.isFreed_of_fields hTd))
    have keep : ∀ b o, b ≠ e → h₁.get? b = some o → ((h₁.push T).update e (Obj.mapFields (·.setIfInBounds 1 (Value.ref h₁.objs.size)))).get? b = some o :=
      fun b o hbe hb => by
        rw [Heap.get?_update_other _ _ (Ne.symm hbe)]
        exact Heap.get?_push_of_some _ hb
    have noRecord : ∀ b o, s.heap.get? b = some o → (∀ vs, o.data ≠ .fields vs) → b ≠ e := fun b o hb hnf q => by
      rw [q, he] at hb; injection hb with hb; subst hb; exact hnf vs hd
    have kb₂ : base.StaysIn ((h₁.push T).update e (Obj.mapFields (·.setIfInBounds 1 (Value.ref h₁.objs.size)))) := fun b o hbo => keep b o (fun q => by rw [q, hen] at hbo; cases hbo) (kb₁ b o hbo)
  · refine ⟨kb₂, hen, _, _, he₃, ⟨Obj.cls_mapFields _ _, (dict_mapFields _ _).trans hdi⟩, hd₃, by rw [Array.getElem?_setIfInBounds_ne (by decide)]; exact h2, h₁.objs.size, _, _, by simp [hsz], kb₁.fresh, hTe, hT₃, hTd, ?_⟩
    first | (simp; done) | (rcases hpl with rfl | ⟨_, _, _, _, _, _, _, rfl⟩ <;> simp)
  · refine ⟨kb₂, fun b o hb hnf => ?_⟩
    obtain ⟨sl, hs⟩ := hs₁.2.2 b o hb
    exact ⟨sl, keep b _ (noRecord b o hb hnf) hs⟩
theorem x_note {Q : Unit → Shared → Prop}
    (hfr : A.frames = some (env :: outer)) (hl : s.heap.FunFrames base (env :: outer)) (hf : env.frame = some L) (x : XAt base s.heap e C fl)
    (h : ∀ h', XAt base h' e C (some (rawInt L)) → Touch base s.heap h' → Q () { s with heap := h' }) : wpAny M A (noteFrame (.ref e) env) Q E s := by
  refine hold fun z_ k_ => ?_
  obtain ⟨h1, h2, oe, vs, h3, h4, h5, h6, h7⟩ := id x
  refine k_ ?_
  have hz2 : 2 < vs.size := (Array.getElem?_eq_some_iff.mp h6).1
  obtain ⟨rfl, h4d⟩ := h4
  unfold noteFrame
  simp only [hf]
  cases fl with
  | none =>
    refine wpAny_bind (wpAny_field h3 h5 h7 ?_)
    rw [if_neg (by decide)]
    exact x_entry hfr hl hf h3 h1 h2 h4d h5 (by omega) h6 h
  | some f =>
    refine hold fun z_ k_ => ?_
    obtain ⟨T, oT, ts, t1, t2, t3, t4, t5, t6⟩ := h7
    refine k_ ?_
    refine wpAny_bind (wpAny_field h3 h5 t1 ?_)
    rw [if_pos (show (Value.ref T != Value.none) = true from by simp)]
    refine wpAny_bind (wpAny_field t4 t5 t6 ?_)
    by_cases hq : (f == rawInt L) = true
    · rw [if_pos hq]
      have : f = rawInt L := eq_of_beq hq
      subst this
      refine hold fun z_ k_ => ?_
      obtain ⟨hh, hg, hd, ht, ho⟩ := s
      refine k_ ?_
      exact wpAny_pure (h hh x ⟨h1, .refl _⟩)
    · rw [if_neg hq]
      refine wpAny_bind (wpAny_setField t4 t5 (Array.getElem?_eq_some_iff.mp t6).1 ?_)
      have other : ∀ b, b ≠ T → (s.heap.update T (Obj.mapFields (·.setIfInBounds 3 Value.none))).get? b = s.heap.get? b := fun b hb => Heap.get?_update_other _ _ (Ne.symm hb)
      have noRecord : ∀ b o, s.heap.get? b = some o → (∀ vs, o.data ≠ .fields vs) → b ≠ T := fun b o hb hnf q => by
        rw [q, t4] at hb; injection hb with hb; subst hb; exact hnf ts t5
      refine x_entry (s := { s with heap := s.heap.update T (Obj.mapFields (·.setIfInBounds 3 Value.none)) }) hfr (hl.of_keeps fun b o hb hnf => ⟨o, (other b (noRecord b o hb hnf)).trans hb, rfl⟩) hf ((other e (Ne.symm t3)).trans h3)
        (fun b o hbo => (other b fun q => by rw [q, t2] at hbo; cases hbo).trans (h1 b o hbo)) h2 h4d h5 (by omega) h6 fun h' y1 y2 => h h' y1 ⟨y2.stays, fun b o hb hnf => y2.slots b o ((other b (noRecord b o hb hnf)).trans hb) hnf⟩
theorem x_flight {Q : Unit → Shared → Prop}
    (x : XAt base s.heap e C (some f))
    (h : ∀ h', XAt base h' e C (some (fr.elim .none fun f => rawInt f)) → Touch base s.heap h' → Q () { s with heap := h' }) : wpAny M A (setFlight (.ref e) fr) Q E s := by
  refine hold fun z_ k_ => ?_
  obtain ⟨h1, h2, oe, vs, h3, h4, h5, h6, T, oT, ts, t1, t2, t3, t4, t5, t6⟩ := id x
  refine k_ ?_
  have hsz3 : 3 < ts.size := (Array.getElem?_eq_some_iff.mp t6).1
  have other : ∀ b, b ≠ T → (s.heap.update T (Obj.mapFields (·.setIfInBounds 3 (fr.elim Value.none fun f => rawInt f)))).get? b = s.heap.get? b :=
    fun b hb => Heap.get?_update_other _ _ (Ne.symm hb)
  have noRecord : ∀ b o, s.heap.get? b = some o → (∀ vs, o.data ≠ .fields vs) → b ≠ T := fun b o hb hnf q => by
    rw [q, t4] at hb; injection hb with hb; subst hb; exact hnf ts t5
  have kb : base.StaysIn (s.heap.update T (Obj.mapFields (·.setIfInBounds 3 (fr.elim Value.none fun f => rawInt f)))) := fun b o hbo => (other b fun q => by rw [q, t2] at hbo; cases hbo).trans (h1 b o hbo)
  unfold setFlight
  refine wpAny_bind (wpAny_field h3 h5 t1 ?_)
  rw [if_pos (show (Value.ref T != Value.none) = true from by simp)]
  refine wpAny_setField t4 t5 hsz3 (h _ ?_ ⟨kb, fun b o hb hnf => ⟨o.slots, (other b (noRecord b o hb hnf)).trans hb⟩⟩)
  exact ⟨kb, h2, oe, vs, (other e (Ne.symm t3)).trans h3, h4, h5, h6, T, _, _, t1, t2, t3, Heap.get?_update_self _ t4 (Obj.isFreed_of_fields (Obj.data_mapFields t5 _)), Obj.data_mapFields t5 _, by simp [hsz3]⟩
theorem x_leave {Q : Unit → Shared → Prop}
    (hfr : A.frames = some (env :: outer)) (hl : s.heap.FunFrames base (env :: outer)) (hf : env.frame = some L) (x : XAt base s.heap e C fl)
    (h : ∀ h', XAt base h' e C (some .none) → Touch base s.heap h' → Q () { s with heap := h' }) : wpAny M A (leaving env (.ref e)) Q E s := by
  unfold leaving
  refine wpAny_bind (x_note hfr hl hf x fun h₁ x₁ k₁ => ?_)
  exact x_flight (fr := none) x₁ fun h₂ x₂ k₂ => h h₂ x₂ (k₁.trans k₂)
end
inductive OkP (am : Amb) (stack : List Env) {α β : Type} (Rel : List Addr → Heap → β → α → Prop) (π : List Addr) (s : Shared) (r : R β) (a : α) (s' : Shared) : Prop
  | mk (b : β) (H' : H) (π' : List Addr) (h1 : r = .ok b H') (h2 : Step (Fs stack) π s π' s') (h3 : HR am stack π' H' s'.heap) (h4 : Rel π' s'.heap b a)
abbrev ground (stack : List Env) (π : List Addr) (h : Heap) : Heap := hideAll h (π ++ Fs stack)
inductive ErP (am : Amb) (stack : List Env) {β : Type} (π : List Addr) (s : Shared) (r : R β) (x : Value) (s' : Shared) : Prop
  | mk (c : String) (H' : H) (π' : List Addr) (e C : Addr) (fl : Option Value) (h1 : r = .err c H') (h2 : x = .ref e) (h3 : am.mg (Str.ofString c) = some (.ref C)) (h4 : Step (Fs stack) π s π' s') (h5 : HR am stack π' H' s'.heap) (h6 : XAt (ground stack π s.heap) s'.heap e (.ref C) fl)
noncomputable def JAt (am : Amb) (stack : List Env) (A : Around) {α β : Type} (m : Sem α) (r : R β) (Rel : List Addr → Heap → β → α → Prop) (π : List Addr) (s : Shared) : Prop :=
  r = .bad ∨ wpAny am.M A m (OkP am stack Rel π s r) (ErP am stack π s r) s
theorem ground_mono {stack : List Env} {π π' : List Addr} {s s' : Shared} (x : Step (Fs stack) π s π' s') : (ground stack π s.heap).StaysIn (ground stack π' s'.heap) := by
  intro b o e
  have h1 := of_hideAll _ e
  have hn : b ∉ π ++ Fs stack := fun hm => by rw [hideAll_none _ hm] at e; cases e
  rw [List.mem_append, not_or] at hn
  refine hideAll_get _ (x.ext.keep b o h1 hn.1 hn.2) ?_
  rw [List.mem_append, not_or]
  exact ⟨x.notin h1 hn.1, hn.2⟩
theorem OkP.step {am : Amb} {stack : List Env} {α β : Type} {Rel : List Addr → Heap → β → α → Prop} {π π₁ : List Addr} {s s₁ : Shared} {r : R β} {a : α} {s' : Shared}
    (x : Step (Fs stack) π s π₁ s₁) (y : OkP am stack Rel π₁ s₁ r a s') : OkP am stack Rel π s r a s' := by
  refine hold fun z_ k_ => ?_
  obtain ⟨b, H', π', h1, h2, h3, h4⟩ := y
  refine k_ ?_
  exact ⟨b, H', π', h1, x.trans h2, h3, h4⟩
theorem ErP.step {am : Amb} {stack : List Env} {β : Type} {π π₁ : List Addr} {s s₁ : Shared} {r : R β} {a : Value} {s' : Shared}
    (x : Step (Fs stack) π s π₁ s₁) (y : ErP am stack π₁ s₁ r a s') : ErP am stack π s r a s' := by
  refine hold fun z_ k_ => ?_
  obtain ⟨c, H', π', e, C, fl, h1, h2, h3, h4, h5, h6⟩ := y
  refine k_ ?_
  exact ⟨c, H', π', e, C, fl, h1, h2, h3, x.trans h4, h5, h6.mono (ground_mono x)⟩
section
variable {am : Amb} {stack : List Env} {A : Around} {α β γ δ : Type} {Rel : List Addr → Heap → β → α → Prop} {Rel' : List Addr → Heap → δ → γ → Prop} {π : List Addr} {s : Shared}
theorem JAt.bind {m : Sem α} {f : α → Sem γ} {r : R β} {g : β → H → R δ} (h1 : JAt am stack A m r Rel π s)
    (h2 : ∀ a b H' π' s', r = .ok b H' → Step (Fs stack) π s π' s' → HR am stack π' H' s'.heap → Rel π' s'.heap b a → JAt am stack A (f a) (g b H') Rel' π' s') :
    JAt am stack A (m >>= f) (r.bind g) Rel' π s := by
  rcases h1 with rfl | h1
  · exact .inl rfl
  · cases r with
    | bad => exact .inl rfl
    | err c H' =>
      refine .inr (wpAny_bind (wpAny_mono h1 (fun a s' h => ?_) fun e s' h => ?_))
      · obtain ⟨_, _, _, h, _⟩ := h; cases h
      · refine hold fun z_ k_ => ?_
        obtain ⟨c', H'', π', e', C, fl, h, r2, r3, r4, r5, r6⟩ := h
        refine k_ ?_
        cases h
        exact ⟨c, H', π', e', C, fl, rfl, r2, r3, r4, r5, r6⟩
    | ok b H' =>
      by_cases hb : g b H' = .bad
      · exact .inl hb
      · refine .inr (wpAny_bind (wpAny_mono h1 (fun a s' h => ?_) fun e s' h => ?_))
        · refine hold fun z_ k_ => ?_
          obtain ⟨b', H'', π', h, h3, h4, h5⟩ := h
          refine k_ ?_
          cases h
          rcases h2 a b H' π' s' rfl h3 h4 h5 with h6 | h6
          · exact absurd h6 hb
          · exact wpAny_mono h6 (fun z_ z_ y => OkP.step h3 y) fun z_ z_ y => ErP.step h3 y
        · obtain ⟨_, _, _, _, _, _, h, _⟩ := h; cases h
theorem JAt.mono {Rel₂ : List Addr → Heap → β → α → Prop} (h : JAt am stack A m r Rel π s) (k : ∀ π h b a, Rel π h b a → Rel₂ π h b a) : JAt am stack A m r Rel₂ π s := by
  rcases h with h | h
  · exact .inl h
  · exact .inr (wpAny_mono h (fun a s' ⟨b, H', π', h1, h2, h3, h4⟩ => ⟨b, H', π', h1, h2, h3, k _ _ _ _ h4⟩) fun z_ z_ y => y)
theorem JAt.pure (hr : HR am stack π Hc s.heap) (h : Rel π s.heap b a) : JAt am stack A (pure a : Sem α) (.ok b Hc) Rel π s :=
  .inr (wpAny_pure ⟨b, Hc, π, rfl, .refl .., hr, h⟩)
theorem JAt.bad : JAt am stack A m (.bad : R β) Rel π s := .inl rfl
theorem JAt.congr (e : m = m') (er : r = r') (h : JAt am stack A m' r' Rel π s) : JAt am stack A m r Rel π s := by subst e er; exact h
theorem JAt.holding (h : JAt am stack A m r Rel π s) : JAt am stack A (PySem.holding vs m) r Rel π s := by
  rcases h with h | h
  · exact .inl h
  · exact .inr (wpAny_holding h)
theorem JAt.standAt {f : Unit → Sem α} (h : JAt am stack A (f ()) r Rel π s) : JAt am stack A (PySem.standAt pos >>= f) r Rel π s := by
  rcases h with h | h
  · exact .inl h
  · exact .inr (wpAny_bind (wpAny_standAt h))
theorem JAt.rule (k : ∀ (Q : α → Shared → Prop) (E : Value → Shared → Prop), wpAny am.M A m' Q E s → wpAny am.M A m Q E s) (h : JAt am stack A m' r Rel π s) : JAt am stack A m r Rel π s := by
  rcases h with h | h
  · exact .inl h
  · exact .inr (k _ _ h)
end
theorem release_wp {Q : Unit → Shared → Prop} {E : Value → Shared → Prop} (h : Q () s) : wpAny M A (release vs keep) Q E s :=
  fun Γ p z_ => by
    unfold release
    rw [Sem.wp_release_go]
    exact h
theorem operate_wp {Q : Value → Shared → Prop} {E : Value → Shared → Prop} (h : wpAny M A m Q E s) : wpAny M A (operate vs m) Q E s := by
  unfold operate
  exact wpAny_bind (wpAny_holding (wpAny_mono h (fun r s' hr => wpAny_bind (release_wp (wpAny_pure hr))) fun z_ z_ y => y))
theorem JAt.operate {am : Amb} {stack : List Env} {A : Around} {β : Type} {Rel : List Addr → Heap → β → Value → Prop} {π : List Addr} {s : Shared} {vs : List Value} {m : Sem Value} {r : R β} (h : JAt am stack A m r Rel π s) : JAt am stack A (PySem.operate vs m) r Rel π s :=
  h.rule fun z_ z_ x => operate_wp x
structure Cx where
  env : Env
  stack : List Env
  ctx : List (Str × Nat)
noncomputable def Vis (env : Env) (x : Str) : Prop := env.kindOf x = some .local ∨ env.kindOf x = some .cell ∨ env.kindOf x = some .free
noncomputable def VarAt (h : Heap) (env : Env) (x : Str) (v : Value) : Prop :=
  (env.kindOf x = some .local ∧ ∃ m, h.Ns env.locals m ∧ m x = some v) ∨
  ((env.kindOf x = some .cell ∨ env.kindOf x = some .free) ∧ ∃ c, env.cells.lookup x = some c ∧ h.IsCell c (some v))
noncomputable def SR (am : Amb) (π : List Addr) (h : Heap) (v : V) (x : Value) : Prop :=
  VR am π h v x ∨ ∃ c a, v = .exc c ∧ x = .ref a ∧ a ∉ π ∧ ExcAt am h c a
structure ER (am : Amb) (cx : Cx) (ρ : List V) (π : List Addr) (h : Heap) : Prop where
  ns : ∃ m, h.Ns cx.env.locals m
  locOff : cx.env.locals ∉ π
  cellOff : ∀ x c, cx.env.cells.lookup x = some c → c ∉ π ∧ c ≠ cx.env.locals ∧ ∃ v, h.IsCell c v
  apart : ∀ x y c, cx.env.cells.lookup x = some c → cx.env.cells.lookup y = some c → x = y
  var : ∀ x i v, cx.ctx.lookup x = some i → ρ[i]? = some v → v ≠ .undef → Vis cx.env x → ∃ v', VarAt h cx.env x v' ∧ SR am π h v v'
theorem Ext.ns {π Fs : List Addr} {h h' : Heap} (x : Ext π Fs h h') {a : Addr} {m : Str → Option Value} (hn : h.Ns a m) (ha : a ∉ π) : h'.Ns a m := by
  refine hold fun z_ k_ => ?_
  obtain ⟨o, es, ep, ho, hd, r⟩ := hn
  refine k_ ?_
  obtain ⟨sl, hs⟩ := x.slots a o ho ha
  exact ⟨_, es, ep, hs, hd, r⟩
theorem Ext.cell {π Fs : List Addr} {h h' : Heap} (x : Ext π Fs h h') {a : Addr} {v : Option Value} (hn : h.IsCell a v) (ha : a ∉ π) : h'.IsCell a v := by
  obtain ⟨o, ho, hd⟩ := hn
  obtain ⟨sl, hs⟩ := x.slots a o ho ha
  exact ⟨_, hs, hd⟩
theorem Heap.Ns.exist {h : Heap} {a : Addr} {m : Str → Option Value} (hn : h.Ns a m) : ∃ o, h.get? a = some o := let ⟨o, _, _, ho, _⟩ := hn; ⟨o, ho⟩
theorem Heap.IsCell.exist {h : Heap} {a : Addr} {v : Option Value} (hn : h.IsCell a v) : ∃ o, h.get? a = some o := let ⟨o, ho, _⟩ := hn; ⟨o, ho⟩
theorem ExcAt.step {am : Amb} {Fs π π' : List Addr} {s s' : Shared} (x : Step Fs π s π' s') {c : String} {a : Addr} (e : ExcAt am s.heap c a) (ha : a ∉ π) : a ∉ π' ∧ ExcAt am s'.heap c a := by
  refine hold fun z_ k_ => ?_
  obtain ⟨C, o, vs, h1, h2, h3, h4, h5, h6⟩ := e
  refine k_ ?_
  obtain ⟨sl, h7⟩ := x.ext.slots a o h2 ha
  exact ⟨x.notin h2 ha, C, _, vs, h1, h7, h3, h4, h5, h6⟩
theorem SR.step {am : Amb} {Fs π π' : List Addr} {s s' : Shared} (x : Step Fs π s π' s') {v : V} {y : Value} (e : SR am π s.heap v y) : SR am π' s'.heap v y := by
  rcases e with e | ⟨c, a, h1, h2, h3, h4⟩
  · exact .inl (e.step x)
  · have := h4.step x h3
    exact .inr ⟨c, a, h1, h2, this.1, this.2⟩
theorem ER.step {am : Amb} {cx : Cx} {ρ : List V} {Fs π π' : List Addr} {s s' : Shared} (x : Step Fs π s π' s') (e : ER am cx ρ π s.heap) : ER am cx ρ π' s'.heap := by
  obtain ⟨m, hm⟩ := e.ns
  obtain ⟨o, ho⟩ := Heap.Ns.exist hm
  refine ⟨⟨m, x.ext.ns hm e.locOff⟩, x.notin ho e.locOff, fun y c hc => ?_, e.apart, fun y i v h1 h2 h3 h4 => ?_⟩
  · refine hold fun z_ k_ => ?_
    obtain ⟨h1, h2, v, h3⟩ := e.cellOff y c hc
    refine k_ ?_
    obtain ⟨o, ho⟩ := Heap.IsCell.exist h3
    exact ⟨x.notin ho h1, h2, v, x.ext.cell h3 h1⟩
  · obtain ⟨v', h5, h6⟩ := e.var y i v h1 h2 h3 h4
    refine ⟨v', ?_, h6.step x⟩
    rcases h5 with ⟨k, m', h7, h8⟩ | ⟨k, c, h7, h8⟩
    · exact .inl ⟨k, m', x.ext.ns h7 e.locOff, h8⟩
    · exact .inr ⟨k, c, h7, x.ext.cell h8 (e.cellOff y c h7).1⟩
noncomputable def Hd (q : Bool) (A : Around) (π Fs : List Addr) (h : Heap) : Prop :=
  if q then A.handled = none else ∃ he o vs, A.handled = some (.ref he) ∧ he ∉ π ∧ he ∉ Fs ∧ h.get? he = some o ∧ o.data = .fields vs ∧ vs[2]? = some .none
set_option tactic.hygienic true in
theorem Hd.step {q : Bool} {A : Around} {Fs π π' : List Addr} {s s' : Shared} (x : Step Fs π s π' s') (e : Hd q A π Fs s.heap) : Hd q A π' Fs s'.heap := by
  unfold Hd at e ⊢
  split
  · rename_i hq; rw [if_pos hq] at e; exact e
  · rename_i hq
    rw [if_neg hq] at e
    refine hold fun z_ k_ => ?_
    obtain ⟨he, o, vs, h1, h2, h3, h4, h5⟩ := e
    refine k_ ?_
    exact ⟨he, o, vs, h1, x.notin h4 h2, h3, x.ext.keep he o h4 h2 h3, h5⟩
structure AS (n : Nat) (stack : List Env) (A : Around) : Prop where
  frames : A.frames = some stack
  depth : A.depth + n < 800
  units : A.units + 10 * n < 9000
structure St (am : Amb) (q : Bool) (cx : Cx) (ρ : List V) (π : List Addr) (Hc : H) (A : Around) (s : Shared) : Prop where
  hr : HR am cx.stack π Hc s.heap
  er : ER am cx ρ π s.heap
  hd : Hd q A π (Fs cx.stack) s.heap
theorem St.step (x : St am q cx ρ π Hc A s) (y : Step (Fs cx.stack) π s π' s') (hr : HR am cx.stack π' H' s'.heap) : St am q cx ρ π' H' A s' :=
  ⟨hr, x.er.step y, x.hd.step y⟩
structure AmbOK (am : Amb) : Prop where
  g : am.B.Ns mainGlobals am.mg
  b : am.B.Ns builtinsNs am.mb
  nolimit : am.B.NoLimit
  noseer : am.B.NoSeer
  tree : am.prog.given.tree = none
structure TopEnv (e₀ : Env) : Prop where
  gen : e₀.scope.isGenerator = false
  co : e₀.scope.isCoroutine = false
  globals : e₀.globals = mainGlobals
  builtins : e₀.builtins = builtinsNs
noncomputable def StackOK (stack : List Env) : Prop := ∃ e₀ outer, stack = e₀ :: outer ∧ TopEnv e₀
structure CxOK (cx : Cx) : Prop where
  clos : ∀ x, cx.env.kindOf x = some .cell ∨ cx.env.kindOf x = some .free → ∃ c, cx.env.cells.lookup x = some c
  kind : cx.env.scope.kind = .function
  globals : cx.env.globals = mainGlobals
  builtins : cx.env.builtins = builtinsNs
  top : ∃ e₀ outer, cx.stack = e₀ :: outer ∧ e₀.frame = cx.env.frame ∧ TopEnv e₀
theorem CxOK.stackOK (x : CxOK cx) : StackOK cx.stack := let ⟨e₀, outer, h, _, t⟩ := x.top; ⟨e₀, outer, h, t⟩
end Mine

namespace Mine
open PySem PySem.W PyProof.Rows
theorem VR.keeps (k : ∀ b o, h.get? b = some o → h'.get? b = some o) (e : VR am π h v x) : VR am π h' v x :=
  VR.step (Fs := []) (s := { heap := h }) (s' := { heap := h' }) (Step.keeps (s := { heap := h }) (tk := 1) k) e
theorem VRs.keeps (k : ∀ b o, h.get? b = some o → h'.get? b = some o) (e : VRs am π h v x) : VRs am π h' v x :=
  VRs.step (Fs := []) (s := { heap := h }) (s' := { heap := h' }) (Step.keeps (s := { heap := h }) (tk := 1) k) e
theorem CellAt.keeps (k : ∀ b o, h.get? b = some o → h'.get? b = some o) (e : CellAt am π h c a) : CellAt am π h' c a := by
  obtain ⟨o, xs, ho, hk, h2, h3⟩ := e
  exact ⟨o, xs, k _ _ ho, hk, h2, h3.keeps k⟩
theorem HR.keeps {am : Amb} {stack : List Env} {π : List Addr} {Hc : H} {h h' : Heap} (x : HR am stack π Hc h) (k : ∀ b o, h.get? b = some o → h'.get? b = some o) : HR am stack π Hc h' :=
  ⟨fun b o e => k b o (x.base b o e), x.frames.of_keeps fun b o e z_ => ⟨o, k b o e, rfl⟩, x.len, x.nodup, fun a ha => let ⟨o, ho, hn⟩ := x.res a ha; ⟨o, k a o ho, hn⟩, x.off, fun i c a h1 h2 => (x.cell i c a h1 h2).keeps k⟩
section
variable {am : Amb} {stack : List Env} {A : Around} {α β : Type} {Rel : List Addr → Heap → β → α → Prop} {π : List Addr} {s : Shared} {Hc : H}
theorem OkP.keeps (hr : HR am stack π Hc s.heap) (k : ∀ b o, s.heap.get? b = some o → h'.get? b = some o) (h : Rel π h' b a) :
    OkP am stack Rel π s (.ok b Hc) a { s with heap := h', toks := tk } :=
  ⟨b, Hc, π, rfl, .keeps k, hr.keeps k, h⟩
theorem OkP.tok (hr : HR am stack π Hc s.heap) (h : Rel π s.heap b a) :
    OkP am stack Rel π s (.ok b Hc) a { s with toks := tk } := OkP.keeps (h' := s.heap) hr (fun z_ z_ e => e) h
theorem OkP.here (hr : HR am stack π Hc s.heap) (h : Rel π s.heap b a) :
    OkP am stack Rel π s (.ok b Hc) a s := OkP.tok (tk := s.toks) hr h
end
theorem fresh_res {am : Amb} {stack : List Env} {π : List Addr} {Hc : H} {h : Heap} (hr : HR am stack π Hc h) {l : Addr} (hl : h.get? l = none) : l ∉ am.res := fun hm => by
  obtain ⟨o, ho, _⟩ := hr.res l hm
  rw [hl] at ho; cases ho
theorem fresh_pi {am : Amb} {stack : List Env} {π : List Addr} {Hc : H} {h : Heap} (hr : HR am stack π Hc h) {l : Addr} (hl : h.get? l = none) : l ∉ π := by
  intro hm
  obtain ⟨i, hi⟩ := List.mem_iff_getElem?.mp hm
  have hlt : i < Hc.length := by rw [← hr.len]; exact (List.getElem?_eq_some_iff.mp hi).1
  obtain ⟨o, ho, _⟩ := (hr.cell i Hc[i] _ (List.getElem?_eq_getElem hlt) hi).obj
  rw [hl] at ho; cases ho
theorem fresh_fs {am : Amb} {stack : List Env} {π : List Addr} {Hc : H} {h : Heap} (hr : HR am stack π Hc h) {l : Addr} (hl : h.get? l = none) : l ∉ Fs stack := fun hm => by
  refine hold fun z_ k_ => ?_
  obtain ⟨_, o, ho, _⟩ := hr.frames.mem hm
  refine k_ ?_
  rw [hl] at ho; cases ho
theorem size_none (h : Heap) : h.get? h.objs.size = none := by
  cases q : h.get? h.objs.size with
  | none => rfl
  | some o => exact absurd (Heap.lt_size q) (Nat.lt_irrefl _)
noncomputable def Amb.hold (am : Amb) (l : Addr) : Amb := { am with res := l :: am.res }
theorem via_in : Via (am.hold l) am π (π ++ [l]) h h :=
  ⟨fun a o ho z_ h1 h2 => ⟨⟨o.slots, ho⟩, by
      simp only [Amb.hold, List.mem_cons, not_or] at h2
      simp [h1, h2.1], by
      simp only [Amb.hold, List.mem_cons, not_or] at h2
      exact h2.2⟩, fun i a ha => by rw [List.getElem?_append_left (List.getElem?_eq_some_iff.mp ha).1]; exact ha⟩
theorem via_off : Via (am.hold l) am π π h h :=
  ⟨fun a o ho z_ h1 h2 => ⟨⟨o.slots, ho⟩, h1, fun q => h2 (List.mem_cons_of_mem _ q)⟩, fun z_ z_ e => e⟩
theorem via_held (hl : h.get? l = none) : Via am (am.hold l) π π h h :=
  ⟨fun a o ho z_ h1 h2 => ⟨⟨o.slots, ho⟩, h1, fun q => by
    rcases List.mem_cons.mp q with rfl | q
    · rw [hl] at ho; cases ho
    · exact h2 q⟩, fun z_ z_ e => e⟩
theorem VR.reserve (e : VR (am.hold l) π h v x) : VR am (π ++ [l]) h v x ∧ VR am π h v x := ⟨e.via via_in, e.via via_off⟩
theorem VRs.reserve (e : VRs (am.hold l) π h vs xs) : VRs am (π ++ [l]) h vs xs ∧ VRs am π h vs xs := ⟨e.via via_in, e.via via_off⟩
theorem VR.held (hl : h.get? l = none) (e : VR am π h v x) : VR (am.hold l) π h v x := e.via (via_held hl)
theorem VRs.held (hl : h.get? l = none) (e : VRs am π h vs xs) : VRs (am.hold l) π h vs xs := e.via (via_held hl)
noncomputable def NewL (am : Amb) (π : List Addr) (s : Shared) (vs : List V) (x : Value) (s' : Shared) : Prop :=
  ∃ l xs h' tk, x = .ref l ∧ s' = { s with heap := h', toks := tk } ∧ (∀ b o, s.heap.get? b = some o → h'.get? b = some o) ∧ s.heap.get? l = none ∧ PL h' l xs ∧ VRs (am.hold l) π h' vs xs
theorem NewL.push (hv : VRs am π s.heap vs xs) (hc : o.cls = .type "list") (hdi : o.dict = none) (hd : o.data = .seq (List.toArray xs) n) :
    NewL am π s vs (.ref s.heap.objs.size) { s with heap := s.heap.push o, toks := tk } := by
  have k : ∀ b o', s.heap.get? b = some o' → (s.heap.push o).get? b = some o' := fun z_ z_ e => Heap.get?_push_of_some _ e
  exact ⟨_, xs, _, tk, rfl, rfl, k, size_none _, ⟨o, n, Heap.get?_push_size _ (Obj.isFreed_of_seq hd), hc, hdi, hd⟩, (hv.held (size_none _)).keeps k⟩
theorem NewL.lst {am : Amb} {stack : List Env} {π : List Addr} {s s' : Shared} {Hc : H} {vs : List V} {x : Value} (hr : HR am stack π Hc s.heap) (hl : vs.length ≤ 1000000) (n : NewL am π s vs x s') :
    OkP am stack (VR am) π s (.ok (.lst vs) Hc) x s' := by
  refine hold fun z_ k_ => ?_
  obtain ⟨l, xs, h', tk, rfl, rfl, k, h1, h2, h3⟩ := n
  refine k_ ?_
  refine OkP.keeps hr k ?_
  simp only [VR]
  exact ⟨_, xs, rfl, ⟨fresh_pi hr h1, fresh_res hr h1⟩, h2.is, hl, h3.reserve.2⟩
theorem NewL.cell {am : Amb} {stack : List Env} {π : List Addr} {s s' : Shared} {Hc : H} {vs : List V} {x : Value} (hr : HR am stack π Hc s.heap) (hl : vs.length ≤ 1000000) (n : NewL am π s vs x s') :
    OkP am stack (VR am) π s (.ok (.ref Hc.length) (Hc ++ [.list vs])) x s' := by
  refine hold fun z_ k_ => ?_
  obtain ⟨l, xs, h', tk, rfl, rfl, k, h1, h2, h3⟩ := n
  refine k_ ?_
  have hp := fresh_pi hr h1
  have st : Step (Fs stack) π s (π ++ [l]) { s with heap := h', toks := tk } := ⟨⟨h', tk, rfl⟩, .of_keeps k, [l], rfl, fun a ha => by rw [List.mem_singleton.mp ha]; exact h1⟩
  have hr' := hr.keeps k
  refine ⟨_, _, π ++ [l], rfl, st, ⟨hr'.base, hr'.frames, by simp [hr.len], ?_, hr'.res, ?_, ?_⟩, ?_⟩
  · rw [List.nodup_append]
    exact ⟨hr.nodup, by simp, fun a ha b hb => by rw [List.mem_singleton.mp hb]; exact fun q => hp (q ▸ ha)⟩
  · intro a ha
    rcases List.mem_append.mp ha with ha | ha
    · exact hr.off a ha
    · rw [List.mem_singleton.mp ha]; exact ⟨none_of_stays hr.base h1, fresh_fs hr h1⟩
  · intro i c a hi ha
    by_cases hlt : i < Hc.length
    · rw [List.getElem?_append_left hlt] at hi
      rw [List.getElem?_append_left (by rw [hr.len]; exact hlt)] at ha
      exact (hr.cell i c a hi ha).via st.via fun o e z_ => ⟨o.slots, k _ _ e⟩
    · have hi' : i = Hc.length := by
        have := (List.getElem?_eq_some_iff.mp hi).1
        simp only [List.length_append, List.length_singleton] at this
        omega
      subst hi'
      simp only [List.getElem?_concat_length, Option.some.injEq] at hi
      rw [← hr.len] at ha
      simp only [List.getElem?_concat_length, Option.some.injEq] at ha
      subst hi ha
      exact .ofList h2 hl h3.reserve.1
  · simp only [VR]
    exact ⟨l, rfl, by rw [← hr.len]; simp⟩
theorem OkP.lst {am : Amb} {stack : List Env} {π : List Addr} {s : Shared} {Hc : H} {vs : List V} {xs : List Value} {o : Obj} {n : Nat} {tk : Nat} (hr : HR am stack π Hc s.heap) (hv : VRs am π s.heap vs xs) (hl : vs.length ≤ 1000000)
    (hc : o.cls = .type "list") (hdi : o.dict = none) (hd : o.data = .seq (List.toArray xs) n) : OkP am stack (VR am) π s (.ok (.lst vs) Hc) (.ref s.heap.objs.size) { s with heap := s.heap.push o, toks := tk } :=
  (NewL.push hv hc hdi hd).lst hr hl
theorem OkP.tup {am : Amb} {stack : List Env} {π : List Addr} {s : Shared} {Hc : H} {vs : List V} {xs : List Value} {o : Obj} {n : Nat} {tk : Nat} (hr : HR am stack π Hc s.heap) (hv : VRs am π s.heap vs xs) (hl : vs.length ≤ 1000000)
    (hc : o.cls = .type "tuple") (hd : o.data = .seq (List.toArray xs) n) : OkP am stack (VR am) π s (.ok (.tup vs) Hc) (.ref s.heap.objs.size) { s with heap := s.heap.push o, toks := tk } := by
  have k : ∀ b o', s.heap.get? b = some o' → (s.heap.push o).get? b = some o' := fun z_ z_ e => Heap.get?_push_of_some _ e
  refine OkP.keeps hr k ?_
  simp only [VR]
  exact ⟨_, xs, rfl, ⟨fresh_pi hr (size_none _), fresh_res hr (size_none _)⟩, ⟨o, Heap.get?_push_size _ (Obj.isFreed_of_seq hd), hc, n, hd⟩, hl, hv.keeps k⟩
set_option tactic.hygienic true in
theorem litems_at {am : Amb} {stack : List Env} {π : List Addr} {Hc : H} {h : Heap} (hr : HR am stack π Hc h) {v : V} {x : Value} {vs : List V} (e : VR am π h v x) (hi : litems Hc v = some vs) :
    ∃ l xs, x = .ref l ∧ h.IsList l (List.toArray xs) ∧ vs.length ≤ 1000000 ∧ VRs am π h vs xs := by
  cases v with
  | lst ws =>
    simp only [litems, Option.some.injEq] at hi; subst hi
    simp only [VR] at e
    refine hold fun z_ k_ => ?_
    obtain ⟨a, xs, h1, _, h3, h4, h5⟩ := e
    refine k_ ?_
    exact ⟨a, xs, h1, h3, h4, h5⟩
  | ref i =>
    simp only [litems] at hi
    simp only [VR] at e
    obtain ⟨a, h1, h2⟩ := e
    split at hi
    · rename_i ws hw
      simp only [Option.some.injEq] at hi; subst hi
      refine hold fun z_ k_ => ?_
      obtain ⟨xs, h3, h4, h5⟩ := (hr.cell i _ a hw h2).list
      refine k_ ?_
      exact ⟨a, xs, h1, h3.is, h4, h5⟩
    · cases hi
  | _ => simp [litems] at hi
theorem mil_le_line : (1000000 : Nat) ≤ sizeLine := by decide
section
variable {am : Amb} {stack : List Env} {A : Around} {π : List Addr} {s : Shared} {Hc : H}
theorem seer (ok : AmbOK am) (st : StackOK stack) (hf : A.frames = some stack) (hr : HR am stack π Hc s.heap) : SeerAt am.M A s.heap := by
  refine hold fun z_ k_ => ?_
  obtain ⟨e₀, outer, rfl, t⟩ := st
  refine k_ ?_
  exact SeerAt.of (ok.noseer.keeps hr.base) ok.tree hf t.gen t.co t.builtins t.globals
theorem op_add_int (hr : HR am stack π Hc s.heap) : JAt am stack A (binaryOp .Add (.int x t) (.int y u)) (.ok (V.int (x + y)) Hc) (VR am) π s :=
  .inr (add_int (OkP.tok hr ⟨_, rfl⟩))
theorem op_sub_int (hr : HR am stack π Hc s.heap) : JAt am stack A (binaryOp .Sub (.int x t) (.int y u)) (.ok (V.int (x - y)) Hc) (VR am) π s :=
  .inr (sub_int' (OkP.tok hr ⟨_, rfl⟩))
set_option tactic.hygienic true in
theorem bits_small (h : x.natAbs < 9223372036854775808) : Builtin.Int.intBits x ≤ 64 := by
  unfold Builtin.Int.intBits
  split
  · omega
  · rename_i h0
    have h1 : x.natAbs ≠ 0 := by simpa using h0
    have := (Nat.log2_lt h1 (k := 63)).mpr (by simpa using h)
    omega
theorem op_mul_int (hr : HR am stack π Hc s.heap) (h : x.natAbs < 9223372036854775808 ∨ y.natAbs < 9223372036854775808) :
    JAt am stack A (binaryOp .Mult (.int x t) (.int y u)) (.ok (V.int (x * y)) Hc) (VR am) π s :=
  .inr (PyProof.Rows.mul_int (OkP.tok hr ⟨_, rfl⟩) (h.elim (fun h => .of_left (bits_small h)) fun h => .of_right (bits_small h)))
theorem op_mod_int (hr : HR am stack π Hc s.heap) (h : y ≠ 0) :
    JAt am stack A (binaryOp .Mod (.int x t) (.int y u)) (.ok (V.int (x.fmod y)) Hc) (VR am) π s :=
  .inr (mod_int' h (OkP.tok hr ⟨_, rfl⟩))
theorem op_fdiv_int (ok : AmbOK am) (st : StackOK stack) (as : AS n stack A) (hr : HR am stack π Hc s.heap) (h : y ≠ 0) :
    JAt am stack A (binaryOp .FloorDiv (.int x t) (.int y u)) (.ok (V.int (x.fdiv y)) Hc) (VR am) π s :=
  .inr (floordiv_int h (OkP.tok hr ⟨_, rfl⟩) (.inr (PylongRoom.of (ok.nolimit.keeps hr.base) (by have := as.depth; show A.depth + 100 < 1000; omega) (seer ok st as.frames hr))))
theorem wp_add_list {Q : Value → Shared → Prop} {E : Value → Shared → Prop} (hr : HR am stack π Hc s.heap) (ha : VR am π s.heap a x) (hb : VR am π s.heap b y) (la : litems Hc a = some vs) (lb : litems Hc b = some ws) (hle : (vs ++ ws).length ≤ 1000000)
    (h : ∀ y s', NewL am π s (vs ++ ws) y s' → Q y s') : wpAny am.M A (binaryOp .Add x y) Q E s := by
  refine hold fun z_ k_ => ?_
  obtain ⟨l, xs, rfl, hl, h1, h2⟩ := litems_at hr ha la
  refine k_ ?_
  refine hold fun z_ k_ => ?_
  obtain ⟨l', ys, rfl, hl', h3, h4⟩ := litems_at hr hb lb
  refine k_ ?_
  refine hold fun z_ k_ => ?_
  obtain ⟨⟨cls, dd, data, sl⟩, ho, hc, n, hd⟩ := hl
  refine k_ ?_
  refine hold fun z_ k_ => ?_
  obtain ⟨⟨cls2, dd2, data2, sl2⟩, ho2, hc2, n2, hd2⟩ := hl'
  refine k_ ?_
  simp only at hc hd hc2 hd2
  subst hc hd hc2 hd2
  have hsz : (List.toArray xs).size + (List.toArray ys).size ≤ sizeLine := by
    have := mil_le_line
    have e1 := h2.len
    have e2 := h4.len
    simp only [List.length_append] at hle
    simp only [List.size_toArray]
    omega
  refine concat_meets ⟨_, ho, rfl⟩ ⟨_, ho2, rfl⟩ noFill_list_add seq_list_add PySem.F.slot_list_add PySem.F.entry_list_add (PySem.F.args_list_add_2 _ _) (list_addW l l' _ _ n n2 dd dd2 sl sl2 hsz) ⟨ho, ho2, ?_⟩
  exact h _ _ (NewL.push (xs := xs ++ ys) (n := 0) (h2.append h4) rfl rfl (by simp))
set_option tactic.hygienic true in
theorem op_add_list (hr : HR am stack π Hc s.heap) (ha : VR am π s.heap a x) (hb : VR am π s.heap b y) (la : litems Hc a = some vs) (lb : litems Hc b = some ws) :
    JAt am stack A (binaryOp .Add x y) (R.opt (mkL (vs ++ ws)) Hc) (VR am) π s := by
  unfold mkL
  split
  · rename_i hle
    exact .inr (wp_add_list hr ha hb la lb hle fun y s' n => n.lst hr hle)
  · exact .inl rfl
theorem foldl_rep (xs : List Value) : ∀ (n : Nat) (acc : Array Value), (List.foldl (fun x1 x2 => x1 ++ x2) acc (List.replicate n (List.toArray xs))) = acc ++ List.toArray (List.replicate n xs).flatten
  | 0, acc => by simp
  | n + 1, acc => by
    rw [List.replicate_succ, List.foldl_cons, foldl_rep xs n, List.replicate_succ, List.flatten_cons]
    simp
theorem rep_len {α : Type} (vs : List α) (n : Int) : (rep vs n).length = n.toNat * vs.length := by simp [rep]
theorem wp_mul_list {Q : Value → Shared → Prop} {E : Value → Shared → Prop} (hr : HR am stack π Hc s.heap) (ha : VR am π s.heap a x) (la : litems Hc a = some vs) (hk : k < 1000000 ∧ -1000000 < k) (hle : (rep vs k).length ≤ 1000000)
    (h : ∀ y s', NewL am π s (rep vs k) y s' → Q y s') : wpAny am.M A (binaryOp .Mult x (.int k u)) Q E s := by
  refine hold fun z_ k_ => ?_
  obtain ⟨l, xs, rfl, hl, h1, h2⟩ := litems_at hr ha la
  refine k_ ?_
  refine hold fun z_ k_ => ?_
  obtain ⟨⟨cls, dd, data, sl⟩, ho, hc, n, hd⟩ := hl
  refine k_ ?_
  simp only at hc hd
  subst hc hd
  have e1 := h2.len
  rw [rep_len] at hle
  have hsz : (List.toArray xs).size * k.toNat ≤ 1000000 := by rw [List.size_toArray, e1, Nat.mul_comm]; exact hle
  refine wpAny_binaryOp_repeat_ref (T := "list") (U := "int") (by decide) ⟨_, ho, rfl⟩ (fun s' => typeIs_int s' k u) noFill_list_mul PySem.F.fills_int_mul PySem.F.slot_int_rmul repeat_list PySem.F.slot_int_index.lookup
    (call_meets PySem.F.slot_int_rmul (typeIs_int s k u) PySem.F.entry_int_rmul (PySem.F.args_int_rmul_2 _ _) (lm_int_rmul_list_any k u l _ n dd sl)
      ⟨ho, rfl, ⟨_, ho, rfl⟩, call_meets PySem.F.slot_list_mul ⟨_, ho, rfl⟩ PySem.F.entry_list_mul (PySem.F.args_list_mul_2 _ _)
        (lm_list_mul_any l _ n dd sl k u (by simp [Builtin.List.listFitsIndex]; omega) (by omega) (by simp [Builtin.List.listTooLong, sizeLine]; simp only [List.size_toArray] at hsz; omega)) ⟨ho, ?_⟩⟩)
  rw [foldl_rep]
  refine h _ _ (NewL.push (xs := (List.replicate k.toNat xs).flatten) (n := 0) (VRs.flatten h2 _) rfl rfl ?_)
  simp only [Array.empty_append, List.isEmpty_toArray]
  by_cases hx : xs = []
  · subst hx; simp
  · rw [if_neg (by simpa using hx)]
set_option tactic.hygienic true in
theorem op_mul_list (hr : HR am stack π Hc s.heap) (ha : VR am π s.heap a x) (la : litems Hc a = some vs) (hk : k < 1000000 ∧ -1000000 < k) :
    JAt am stack A (binaryOp .Mult x (.int k u)) (R.opt (mkL (rep vs k)) Hc) (VR am) π s := by
  unfold mkL
  split
  · rename_i hle
    exact .inr (wp_mul_list hr ha la hk hle fun y s' n => n.lst hr hle)
  · exact .inl rfl
end
end Mine

namespace Mine
open PySem PySem.W PyProof.Rows PySem.SeqAt
mutual
noncomputable def toD : V → PyData
  | .undef => .none
  | .none => .none
  | .bool b => .bool b
  | .int i => .int i
  | .str s => .str (Str.ofString s)
  | .tup vs => .tuple (toDs vs)
  | .lst vs => .list (toDs vs)
  | .ref _ => .none
  | .exc _ => .none
  | .dct => .none
noncomputable def toDs : List V → List PyData
  | [] => []
  | v :: vs => toD v :: toDs vs
end
theorem ofString_inj (h : Str.ofString a = Str.ofString b) : a = b := by
  unfold Str.ofString at h
  injection h with h
  have h := congrArg Array.toList h
  simp only at h
  rw [cpsOfBytes_string, cpsOfBytes_string] at h
  have h2 : a.toList = b.toList := List.map_inj_right (fun x y e => by
    have := Char.ext (UInt32.toNat_inj.mp e); exact this) |>.mp h
  exact String.toList_inj.mp h2
theorem ofString_beq (a b : String) : (Str.ofString a == Str.ofString b) = (a == b) := by
  by_cases h : a = b
  · subst h; simp
  · rw [beq_eq_false_iff_ne.mpr h]
    exact beq_eq_false_iff_ne.mpr fun e => h (ofString_inj e)
theorem strOk_of (s : String) : PyData.strOk (Str.ofString s) = true := by
  unfold PyData.strOk Str.ofString
  rw [← Array.all_toList]
  simp only [cpsOfBytes_string, List.all_map, List.all_eq_true]
  intro c _
  have h := c.valid
  simp only [UInt32.isValidChar, Nat.isValidChar] at h
  show decide (c.val.toNat < _) = true
  simp only [decide_eq_true_eq]
  omega
set_option tactic.hygienic true in
mutual
theorem eqv_toD : ∀ (n : Nat) (a b : V), V.ok n a = true → V.ok n b = true → PyData.eqv (toD a) (toD b) = peq a b
  | 0, a, b, h, _ => by simp [V.ok] at h
  | n + 1, .undef, b, h, _ => by simp [V.ok] at h
  | n + 1, .exc _, b, h, _ => by simp [V.ok] at h
  | n + 1, .ref _, b, h, _ => by simp [V.ok] at h
  | n + 1, .dct, b, h, _ => by simp [V.ok] at h
  | n + 1, .none, b, _, h => by cases b <;> first | rfl | simp [V.ok] at h
  | n + 1, .bool _, b, _, h => by cases b <;> first | rfl | simp [V.ok] at h
  | n + 1, .int _, b, _, h => by cases b <;> first | rfl | simp [V.ok] at h
  | n + 1, .str x, b, _, h => by
    cases b <;> first | rfl | (simp [V.ok] at h; done) | skip
    rename_i y
    simp only [toD, PyData.eqv, peq_none, peq_bool, peq_int, peq_str, peq_tup, peq_lst, ofString_beq]
  | n + 1, .tup vs, b, h, h' => by
    cases b <;> first | rfl | (simp [V.ok] at h'; done) | skip
    rename_i ws
    simp only [V.ok] at h h'
    simp only [toD, PyData.eqv, peq_none, peq_bool, peq_int, peq_str, peq_tup, peq_lst]
    exact eqvs_toD n vs ws h h'
  | n + 1, .lst vs, b, h, h' => by
    cases b <;> first | rfl | (simp [V.ok] at h'; done) | skip
    rename_i ws
    simp only [V.ok] at h h'
    simp only [toD, PyData.eqv, peq_none, peq_bool, peq_int, peq_str, peq_tup, peq_lst]
    exact eqvs_toD n vs ws h h'
theorem eqvs_toD : ∀ (n : Nat) (a b : List V), a.all (V.ok n) = true → b.all (V.ok n) = true → PyData.eqvAll (toDs a) (toDs b) = peqs a b
  | n, [], [], _, _ => rfl
  | n, [], _ :: _, _, _ => rfl
  | n, _ :: _, [], _, _ => rfl
  | n, a :: as, b :: bs, h, h' => by
    simp only [List.all_cons, Bool.and_eq_true] at h h'
    simp only [toDs, PyData.eqvAll, peqs_cons, eqv_toD n a b h.1 h'.1, eqvs_toD n as bs h.2 h'.2]
end
mutual
theorem canLay_toD : ∀ (n : Nat) (a : V), V.ok n a = true → (toD a).canLay0 = true ∧ (toD a).depth ≤ n
  | 0, a, h => by simp [V.ok] at h
  | n + 1, .undef, h => by simp [V.ok] at h
  | n + 1, .exc _, h => by simp [V.ok] at h
  | n + 1, .ref _, h => by simp [V.ok] at h
  | n + 1, .dct, h => by simp [V.ok] at h
  | n + 1, .none, _ => ⟨rfl, by simp [toD, PyData.depth]⟩
  | n + 1, .bool _, _ => ⟨rfl, by simp [toD, PyData.depth]⟩
  | n + 1, .int _, _ => ⟨rfl, by simp [toD, PyData.depth]⟩
  | n + 1, .str x, _ => ⟨by simp only [toD, PyData.canLay0]; exact strOk_of x, by simp [toD, PyData.depth]⟩
  | n + 1, .tup vs, h => by
    simp only [V.ok] at h
    have := canLays_toD n vs h
    simp only [toD, PyData.canLay0, PyData.depth]
    exact ⟨this.1, by omega⟩
  | n + 1, .lst vs, h => by
    simp only [V.ok] at h
    have := canLays_toD n vs h
    simp only [toD, PyData.canLay0, PyData.depth]
    exact ⟨this.1, by omega⟩
theorem canLays_toD : ∀ (n : Nat) (a : List V), a.all (V.ok n) = true → PyData.canLayAll0 (toDs a) = true ∧ PyData.depthAll (toDs a) ≤ n
  | n, [], _ => ⟨rfl, by simp [toDs, PyData.depthAll]⟩
  | n, a :: as, h => by
    simp only [List.all_cons, Bool.and_eq_true] at h
    have h1 := canLay_toD n a h.1
    have h2 := canLays_toD n as h.2
    simp only [toDs, PyData.canLayAll0, PyData.depthAll, Bool.and_eq_true]
    exact ⟨⟨h1.1, h2.1⟩, by omega⟩
end
theorem shaped_toD (h : V.ok 8 a = true) : shaped (toD a) = true := by
  have := canLay_toD 8 a h
  unfold shaped
  rw [this.1]
  simp only [Bool.true_and, decide_eq_true_eq]
  omega
noncomputable def Tells (am : Amb) (π : List Addr) (h : Heap) (g : Nat → Option V) : Prop :=
  ∀ (i : Nat) (a : Addr) (v' : V), π[i]? = some a → g i = some v' → ∀ n, V.ok n v' = true → ∃ as, Reads h (.ref a) (toD v') as
mutual
theorem reads_mapRef {g : Nat → Option V} (T : Tells am π h g) : ∀ (v : V) (x : Value) (v' : V) (n : Nat), VR am π h v x → V.mapRef g v = some v' → V.ok n v' = true → ∃ as, Reads h x (toD v') as
  | v, x, v', 0, _, _, h3 => by simp [V.ok] at h3
  | .undef, x, v', n + 1, h1, _, _ => by simp [VR] at h1
  | .exc _, x, v', n + 1, h1, _, _ => by simp [VR] at h1
  | .dct, x, v', n + 1, _, h2, h3 => by simp only [V.mapRef, Option.some.injEq] at h2; subst h2; simp [V.ok] at h3
  | .none, x, v', n + 1, h1, h2, _ => by
    simp only [V.mapRef, Option.some.injEq] at h2; subst h2; simp only [VR] at h1; subst h1; exact ⟨[], .none⟩
  | .bool _, x, v', n + 1, h1, h2, _ => by
    simp only [V.mapRef, Option.some.injEq] at h2; subst h2; simp only [VR] at h1; subst h1; exact ⟨[], .bool _⟩
  | .int _, x, v', n + 1, h1, h2, _ => by
    simp only [V.mapRef, Option.some.injEq] at h2; subst h2; simp only [VR] at h1; obtain ⟨t, rfl⟩ := h1; exact ⟨[], .int _ t⟩
  | .str _, x, v', n + 1, h1, h2, _ => by
    simp only [V.mapRef, Option.some.injEq] at h2; subst h2; simp only [VR] at h1; obtain ⟨t, rfl⟩ := h1; exact ⟨[], .str _ t⟩
  | .ref i, x, v', n + 1, h1, h2, h3 => by
    simp only [V.mapRef] at h2
    simp only [VR] at h1
    obtain ⟨a, rfl, ha⟩ := h1
    exact T i a v' ha h2 _ h3
  | .tup vs, x, v', n + 1, h1, h2, h3 => by
    simp only [V.mapRef, Option.map_eq_some_iff] at h2
    obtain ⟨vs', h2, rfl⟩ := h2
    simp only [VR] at h1
    refine hold fun z_ k_ => ?_
    obtain ⟨a, xs, rfl, _, ⟨o, ho, hc, m, hd⟩, _, h5⟩ := h1
    refine k_ ?_
    simp only [V.ok] at h3
    obtain ⟨as, h6⟩ := reads_mapRefs T vs xs vs' n h5 h2 h3
    exact ⟨as, .tuple ho hc hd (by simpa using h6)⟩
  | .lst vs, x, v', n + 1, h1, h2, h3 => by
    simp only [V.mapRef, Option.map_eq_some_iff] at h2
    obtain ⟨vs', h2, rfl⟩ := h2
    simp only [VR] at h1
    refine hold fun z_ k_ => ?_
    obtain ⟨a, xs, rfl, _, ⟨o, ho, hc, m, hd⟩, _, h5⟩ := h1
    refine k_ ?_
    simp only [V.ok] at h3
    obtain ⟨as, h6⟩ := reads_mapRefs T vs xs vs' n h5 h2 h3
    exact ⟨a :: as, .list ho hc hd (by simpa using h6)⟩
theorem reads_mapRefs {g : Nat → Option V} (T : Tells am π h g) : ∀ (vs : List V) (xs : List Value) (vs' : List V) (n : Nat), VRs am π h vs xs → V.mapRefs g vs = some vs' → vs'.all (V.ok n) = true → ∃ as, ReadsAll h xs (toDs vs') as
  | [], xs, vs', n, h1, h2, _ => by
    simp only [V.mapRefs, Option.some.injEq] at h2; subst h2
    simp only [VRs] at h1; subst h1
    exact ⟨[], .nil⟩
  | v :: vs, xs, vs', n, h1, h2, h3 => by
    simp only [V.mapRefs, Option.bind_eq_some_iff, Option.map_eq_some_iff] at h2
    refine hold fun z_ k_ => ?_
    obtain ⟨v', h2, ws, h4, rfl⟩ := h2
    refine k_ ?_
    simp only [VRs] at h1
    refine hold fun z_ k_ => ?_
    obtain ⟨x, xs', rfl, h5, h6⟩ := h1
    refine k_ ?_
    simp only [List.all_cons, Bool.and_eq_true] at h3
    obtain ⟨as, h7⟩ := reads_mapRef T v x v' n h5 h2 h3.1
    obtain ⟨bs, h8⟩ := reads_mapRefs T vs xs' ws n h6 h4 h3.2
    exact ⟨as ++ bs, .cons h7 h8⟩
end
set_option tactic.hygienic true in
theorem tells_frzAt {am : Amb} {stack : List Env} {π : List Addr} {Hc : H} {h : Heap} (hr : HR am stack π Hc h) : ∀ k : Nat, Tells am π h (frzAt k 0 Hc)
  | 0 => fun i a v' z_ hg => by simp [frzAt] at hg
  | k + 1 => fun i a v' hi hg n hn => by
    simp only [frzAt, Nat.not_lt_zero, if_false] at hg
    split at hg
    · rename_i vs hc
      simp only [Option.map_eq_some_iff] at hg
      obtain ⟨vs', h1, rfl⟩ := hg
      refine hold fun z_ k_ => ?_
      obtain ⟨xs, ⟨o, m, ho, hcl, _, hd⟩, _, h3⟩ := (hr.cell i _ a hc hi).list
      refine k_ ?_
      cases n with
      | zero => simp [V.ok] at hn
      | succ n =>
        simp only [V.ok] at hn
        obtain ⟨as, h6⟩ := reads_mapRefs (tells_frzAt hr k) vs xs vs' n h3 h1 hn
        exact ⟨a :: as, .list ho hcl hd (by simpa using h6)⟩
    · cases hg
section
variable {am : Amb} {stack : List Env} {A : Around} {π : List Addr} {s : Shared} {Hc : H}
theorem reads_frz (hr : HR am stack π Hc s.heap) (h1 : VR am π s.heap v x) (h2 : frz 0 Hc v = some v') (h3 : V.ok 8 v' = true) : ∃ as, Reads s.heap x (toD v') as :=
  reads_mapRef (tells_frzAt hr 4) v x v' 8 h1 h2 h3
set_option tactic.hygienic true in
theorem op_eq (as : AS n stack A) (hr : HR am stack π Hc s.heap) (ha : VR am π s.heap a x) (hb : VR am π s.heap b y) :
    JAt am stack A (compareOp .Eq x y) (R.opt ((pyEq Hc a b).map V.bool) Hc) (VR am) π s := by
  unfold pyEq
  cases h1 : frz 0 Hc a with
  | none => exact .inl rfl
  | some a' =>
    cases h2 : frz 0 Hc b with
    | none => exact .inl rfl
    | some b' =>
      simp only
      split
      · rename_i h
        simp only [Bool.and_eq_true] at h
        obtain ⟨_, r1⟩ := reads_frz hr ha h1 h.1
        obtain ⟨_, r2⟩ := reads_frz hr hb h2 h.2
        refine .inr (compareEq_shaped r1 r2 (shaped_toD h.1) (shaped_toD h.2) (by have := as.units; show A.units + 64 < 9900; omega) ?_)
        rw [eqv_toD 8 a' b' h.1 h.2]
        exact OkP.here hr rfl
      · exact .inl rfl
set_option tactic.hygienic true in
theorem op_ne (as : AS n stack A) (hr : HR am stack π Hc s.heap) (ha : VR am π s.heap a x) (hb : VR am π s.heap b y) :
    JAt am stack A (compareOp .NotEq x y) (R.opt (((pyEq Hc a b).map (!·)).map V.bool) Hc) (VR am) π s := by
  unfold pyEq
  cases h1 : frz 0 Hc a with
  | none => exact .inl rfl
  | some a' =>
    cases h2 : frz 0 Hc b with
    | none => exact .inl rfl
    | some b' =>
      simp only
      split
      · rename_i h
        simp only [Bool.and_eq_true] at h
        obtain ⟨_, r1⟩ := reads_frz hr ha h1 h.1
        obtain ⟨_, r2⟩ := reads_frz hr hb h2 h.2
        refine .inr (compareNe_shaped r1 r2 (shaped_toD h.1) (shaped_toD h.2) (by have := as.units; show A.units + 64 < 9900; omega) ?_)
        rw [eqv_toD 8 a' b' h.1 h.2]
        exact OkP.here hr rfl
      · exact .inl rfl
theorem any_toD (h : vs.all (V.ok n) = true) (ha : V.ok n a = true) : ((toDs vs).any fun y => PyData.eqv y (toD a)) = vs.any fun y => peq y a := by
  induction vs with
  | nil => rfl
  | cons v vs ih =>
    simp only [List.all_cons, Bool.and_eq_true] at h
    simp only [toDs, List.any_cons, eqv_toD n v a h.1 ha, ih h.2]
theorem ok_mono : ∀ (n : Nat) (v : V), V.ok n v = true → V.ok (n + 1) v = true
  | 0, v, h => by simp [V.ok] at h
  | n + 1, v, h => by
    unfold V.ok at h ⊢
    cases v <;> simp only at h ⊢ <;> first | exact h | (simp only [List.all_eq_true] at h ⊢; exact fun x hx => ok_mono n x (h x hx))
set_option tactic.hygienic true in
theorem op_isIn (as : AS n stack A) (hr : HR am stack π Hc s.heap) (ha : VR am π s.heap a x) (hb : VR am π s.heap b y) :
    JAt am stack A (compareOp .In x y) (R.opt ((isIn Hc a b).map V.bool) Hc) (VR am) π s ∧ JAt am stack A (compareOp .NotIn x y) (R.opt (((isIn Hc a b).map (!·)).map V.bool) Hc) (VR am) π s := by
  unfold isIn
  cases h1 : frz 0 Hc a with
  | none => exact ⟨.inl rfl, .inl rfl⟩
  | some a' =>
    cases h2 : frz 0 Hc b with
    | none => exact ⟨.inl rfl, .inl rfl⟩
    | some b' =>
      simp only
      split
      · rename_i h
        simp only [Bool.and_eq_true] at h
        obtain ⟨_, r1⟩ := reads_frz hr ha h1 h.1
        obtain ⟨_, r2⟩ := reads_frz hr hb h2 h.2
        have hu : A.units + 100 < cLine := by have := as.units; show A.units + 100 < 9900; omega
        have ca := canLay_toD 8 a' h.1
        have key : ∀ vs : List V, vs.all (V.ok 7) = true → PyData.canLayAll0 (toDs vs) = true ∧ A.units + 1 + min (PyData.depthAll (toDs vs)) (toD a').depth < cLine ∧ ((toDs vs).any fun y => PyData.eqv y (toD a')) = vs.any fun y => peq y a' := fun vs hv => by
          have := canLays_toD 7 vs hv
          refine ⟨this.1, by omega, any_toD (n := 8) (by simp only [List.all_eq_true] at hv ⊢; exact fun x hx => ok_mono 7 x (hv x hx)) h.1⟩
        cases b' with
        | lst vs =>
          have hv : vs.all (V.ok 7) = true := h.2
          obtain ⟨k1, k2, k3⟩ := key vs hv
          refine ⟨.inr (in_list_reads (c := y) (xs := toDs vs) r2 r1 k1 ca.1 k2 ?_), .inr (notIn_list_reads (c := y) (xs := toDs vs) r2 r1 k1 ca.1 k2 ?_)⟩
          · rw [k3]; exact OkP.here hr rfl
          · rw [k3]; exact OkP.here hr rfl
        | tup vs =>
          have hv : vs.all (V.ok 7) = true := h.2
          obtain ⟨k1, k2, k3⟩ := key vs hv
          refine ⟨.inr (in_tuple_reads (c := y) (xs := toDs vs) r2 r1 k1 ca.1 k2 ?_), .inr (notIn_tuple_reads (c := y) (xs := toDs vs) r2 r1 k1 ca.1 k2 ?_)⟩
          · rw [k3]; exact OkP.here hr rfl
          · rw [k3]; exact OkP.here hr rfl
        | _ => exact ⟨.inl rfl, .inl rfl⟩
      · exact ⟨.inl rfl, .inl rfl⟩
theorem le_not_lt (a b : Int) : decide (a ≤ b) = !decide (b < a) := by
  rw [← decide_not]; exact decide_eq_decide.mpr (by omega)
theorem op_lt (hr : HR am stack π Hc s.heap) (ha : VR am π s.heap a x) (hb : VR am π s.heap b y) :
    JAt am stack A (compareOp .Lt x y) (R.opt ((pyLt a b).map V.bool) Hc) (VR am) π s := by
  unfold pyLt
  split
  · simp only [VR] at ha hb; obtain ⟨_, rfl⟩ := ha; obtain ⟨_, rfl⟩ := hb
    exact .inr (lt_int (OkP.here hr rfl))
  · exact .inl rfl
theorem op_gt (hr : HR am stack π Hc s.heap) (ha : VR am π s.heap a x) (hb : VR am π s.heap b y) :
    JAt am stack A (compareOp .Gt x y) (R.opt ((pyLt b a).map V.bool) Hc) (VR am) π s := by
  unfold pyLt
  split
  · simp only [VR] at ha hb; obtain ⟨_, rfl⟩ := ha; obtain ⟨_, rfl⟩ := hb
    exact .inr (gt_int (OkP.here hr rfl))
  · exact .inl rfl
theorem op_le (hr : HR am stack π Hc s.heap) (ha : VR am π s.heap a x) (hb : VR am π s.heap b y) :
    JAt am stack A (compareOp .LtE x y) (R.opt (((pyLt b a).map (!·)).map V.bool) Hc) (VR am) π s := by
  unfold pyLt
  split
  · simp only [VR] at ha hb; obtain ⟨_, rfl⟩ := ha; obtain ⟨_, rfl⟩ := hb
    exact .inr (PyProof.Rows.le_int (OkP.here hr (congrArg Value.bool (le_not_lt _ _))))
  · exact .inl rfl
theorem op_ge (hr : HR am stack π Hc s.heap) (ha : VR am π s.heap a x) (hb : VR am π s.heap b y) :
    JAt am stack A (compareOp .GtE x y) (R.opt (((pyLt a b).map (!·)).map V.bool) Hc) (VR am) π s := by
  unfold pyLt
  split
  · simp only [VR] at ha hb; obtain ⟨_, rfl⟩ := ha; obtain ⟨_, rfl⟩ := hb
    exact .inr (PyProof.Rows.ge_int (OkP.here hr (congrArg Value.bool (le_not_lt _ _))))
  · exact .inl rfl
end
end Mine

namespace Mine
open PySem PySem.W PyProof.Rows
noncomputable abbrev kI (am : Amb) : KeyKind am.prog am.w Int := intKind am.prog am.w
theorem flat_len (es : List (V × V)) : (es.flatMap fun e => [e.1, e.2]).length = 2 * es.length := by
  induction es with
  | nil => rfl
  | cons e es ih => rw [List.flatMap_cons, List.length_append, ih, List.length_cons, List.length_cons, List.length_cons, List.length_nil]; omega
theorem dfind_get : ∀ {es : List (V × V)}, dfind k es = some v → ∃ j : Nat, es[j]? = some (k, v)
  | (k', v') :: es, h => by
    rw [dfind] at h
    by_cases e : k = k'
    · rw [if_pos e] at h; cases h; exact ⟨0, by rw [e]; rfl⟩
    · rw [if_neg e] at h
      obtain ⟨j, hj⟩ := dfind_get h
      exact ⟨j + 1, hj⟩
theorem dfind_at : ∀ {es : List (V × V)} {j : Nat}, (es.map (·.1)).Nodup → es[j]? = some (k, v) → dfind k es = some v
  | (k', v') :: es, 0, _, h => by cases h; rw [dfind, if_pos rfl]
  | (k', v') :: es, j + 1, hn, h => by
    rw [List.map_cons, List.nodup_cons] at hn
    have hm : k ∈ es.map (·.1) := List.mem_map.2 ⟨_, List.mem_of_getElem? h, rfl⟩
    rw [dfind, if_neg fun q : k = k' => hn.1 (q ▸ hm)]
    exact dfind_at hn.2 h
section
variable {am : Amb} {π : List Addr} {h : Heap}
theorem ents_get : ∀ {es : List (V × V)} {xs : List Value}, VRs am π h (es.flatMap fun e => [e.1, e.2]) xs → ∀ {j : Nat} {k v : V}, es[j]? = some (k, v) → ∃ x y, (ents es xs)[j]? = some ⟨hashV k, x, y⟩ ∧ VR am π h k x ∧ VR am π h v y
  | [], _, _, _, _, _, e => nomatch e
  | (k', v') :: es, xs, r, j, k, v, e => by
    rw [List.flatMap_cons] at r
    simp only [List.cons_append, List.nil_append, VRs] at r
    obtain ⟨x, _, rfl, hx, y, xs', rfl, hy, r⟩ := r
    cases j with
    | zero => cases e; exact ⟨x, y, rfl, hx, hy⟩
    | succ j => exact ents_get r e
theorem ents_len : ∀ {es : List (V × V)} {xs : List Value}, VRs am π h (es.flatMap fun e => [e.1, e.2]) xs → (ents es xs).length = es.length
  | [], xs, _ => by cases xs <;> rfl
  | (k', v') :: es, xs, r => by
    rw [List.flatMap_cons] at r
    simp only [List.cons_append, List.nil_append, VRs] at r
    obtain ⟨x, _, rfl, hx, y, xs', rfl, hy, r⟩ := r
    exact congrArg Nat.succ (ents_len r)
structure DC (am : Amb) (π : List Addr) (h : Heap) (es : List (V × V)) (d : Addr) (o : Obj) (arr : Array DictEntry) (ep : Nat) (xs : List Value) : Prop where
  ne : (d == sysModules) = false
  ho : h.get? d = some o
  cls : o.cls = .type "dict"
  dict : o.dict = none
  data : o.data = .dict arr ep
  arr : arr.toList = ents es xs
  vr : VRs am π h (es.flatMap fun e => [e.1, e.2]) xs
  good : dgood es
  len : (es.flatMap fun e => [e.1, e.2]).length ≤ 1000000
theorem CellAt.dict (x : CellAt am π h (.dict es) d) : ∃ o arr ep xs, DC am π h es d o arr ep xs := by
  obtain ⟨o, xs, ho, ⟨hs, arr, ep, hc, hdi, hd, he, hg⟩, hl, hv⟩ := x
  exact ⟨o, arr, ep, xs, beq_false_of_ne hs, ho, hc, hdi, hd, he, hv, hg, hl⟩
end
section
variable {am : Amb} {stack : List Env} {A : Around} {π : List Addr} {s : Shared} {Hc : H} {E : Value → Shared → Prop} {es : List (V × V)} {d : Addr} {o : Obj} {arr : Array DictEntry} {ep : Nat} {xs : List Value} {k : V} {x : Value}
theorem DC.typeIs (D : DC am π s.heap es d o arr ep xs) : s.TypeIs (.ref d) "dict" := ⟨o, D.ho, D.cls⟩
theorem DC.at (D : DC am π s.heap es d o arr ep xs) {j : Nat} {k v : V} (e : es[j]? = some (k, v)) : ∃ x y, arr[j]? = some ⟨hashV k, x, y⟩ ∧ VR am π s.heap k x ∧ VR am π s.heap v y := by
  obtain ⟨x, y, e1, r⟩ := ents_get D.vr e
  rw [← D.arr, Array.getElem?_toList] at e1
  exact ⟨x, y, e1, r⟩
theorem DC.size (D : DC am π s.heap es d o arr ep xs) : arr.size = es.length := by rw [← Array.length_toList, D.arr, ents_len D.vr]
theorem key_int (hk : keyOk k = true) : ∃ i, k = .int i := by
  cases k with
  | int i => exact ⟨i, rfl⟩
  | _ => cases hk
theorem kf_hash (hk : keyOk k = true) (r : VR am π s.heap k x) (hu : A.units < cLine) : ∃ n, ∀ {Q : Int → Shared → Prop} {E : Value → Shared → Prop}, Q (hashV k) { s with toks := s.toks + n } → wpAny am.M A (pyHash x) Q E s := by
  obtain ⟨i, rfl⟩ := key_int hk
  simp only [VR] at r
  obtain ⟨t, rfl⟩ := r
  exact ⟨1, fun h => (kI am).pyHash (k := i) (by simp [kI, intKind, Value.isInt]) h⟩
theorem kf_find (D : DC am π s.heap es d o arr ep xs) (hk : keyOk k = true) (r : VR am π s.heap k x) (hu : A.units < cLine) {Q : Option Nat → Shared → Prop} (h0 : dfind k es = none → Q none s) (h1 : ∀ j v, es[j]? = some (k, v) → Q (some j) s) : wpAny am.M A (dictFind d x (hashV k)) Q E s := by
  obtain ⟨i, rfl⟩ := key_int hk
  simp only [VR] at r
  obtain ⟨t, rfl⟩ := r
  have is_of : ∀ {j : Nat} (hj : j < arr.size), ∃ i' t' v, es[j]? = some (.int i', v) ∧ arr[j].key = .int i' t' ∧ arr[j].hash = hashInt i' := fun {j} hj => by
    have hj' : j < es.length := by rw [← D.size]; exact hj
    obtain ⟨k', v⟩ : ∃ k' v, es[j]? = some (k', v) := ⟨es[j].1, es[j].2, List.getElem?_eq_getElem hj'⟩
    obtain ⟨v, e⟩ := v
    have hg := D.good.2 _ (List.mem_of_getElem? e)
    obtain ⟨i', rfl⟩ := key_int (k := k') hg
    obtain ⟨x, y, e1, hx, _⟩ := D.at e
    simp only [VR] at hx
    obtain ⟨t', rfl⟩ := hx
    rw [Array.getElem?_eq_getElem hj] at e1
    cases e1' : arr[j]
    rw [e1'] at e1
    cases e1
    exact ⟨i', t', v, e, rfl, rfl⟩
  refine wpAny_dictFind_of (knd := kI am) (k := i) (by simp [kI, intKind, Value.isInt]) D.ho D.data (fun e he => ?_) ?_
  · obtain ⟨j, hj, rfl⟩ := Array.mem_iff_getElem.mp he
    obtain ⟨i', t', v, _, e1, e2⟩ := is_of hj
    exact ⟨i', by rw [e1]; simp [kI, intKind, Value.isInt], e2⟩
  · cases hf : arr.findIdx? fun e => (kI am).is i e.key with
    | some j =>
      obtain ⟨hj, hi, _⟩ := Array.findIdx?_eq_some_iff_getElem.mp hf
      obtain ⟨i', t', v, e, e1, _⟩ := is_of hj
      rw [e1] at hi
      have : i' = i := by simpa [kI, intKind, Value.isInt] using hi
      exact h1 j v (by rw [← this]; exact e)
    | none =>
      refine h0 ?_
      cases hd : dfind (.int i) es with
      | none => rfl
      | some v =>
        obtain ⟨j, e⟩ := dfind_get hd
        have hj : j < arr.size := by rw [D.size]; exact (List.getElem?_eq_some_iff.1 e).1
        obtain ⟨i', t', v', e', e1, _⟩ := is_of hj
        rw [e] at e'; cases e'
        have := Array.findIdx?_eq_none_iff.mp hf arr[j] (Array.getElem_mem hj)
        rw [e1] at this
        simp [kI, intKind, Value.isInt] at this
theorem DC.get (D : DC am π s.heap es d o arr ep xs) (hk : keyOk k = true) (r : VR am π s.heap k x) (hu : A.units < cLine) {Q : Option Value → Shared → Prop}
    (h0 : ∀ n, dfind k es = none → Q none { s with toks := s.toks + n }) (h1 : ∀ n v y, dfind k es = some v → VR am π s.heap v y → Q (some y) { s with toks := s.toks + n }) : wpAny am.M A (dictGet d x) Q E s := by
  obtain ⟨n, hh⟩ := kf_hash hk r hu
  unfold dictGet
  try with_reducible refine wpAny_holding ?_
  refine wpAny_bind (hh (wpAny_bind (kf_find (s := { s with toks := s.toks + n }) D hk r hu (fun e => wpAny_pure (h0 n e)) fun j v e => ?_)))
  obtain ⟨x', y, e1, _, hy⟩ := D.at e
  refine wpAny_bind (wpAny_dictEntries (s := { s with toks := s.toks + n }) D.ho D.data ?_)
  rw [e1]
  exact wpAny_pure (h1 n v y (dfind_at D.good.1 e) hy)
theorem DC.contains (D : DC am π s.heap es d o arr ep xs) (hk : keyOk k = true) (r : VR am π s.heap k x) (hu : A.in1.units < cLine) {Q : Bool → Shared → Prop} (h : ∀ n, Q (dfind k es).isSome { s with toks := s.toks + n }) : wpAny am.M A (PySem.contains (.ref d) x) Q E s := by
  unfold PySem.contains
  try with_reducible refine wpAny_holding ?_
  refine wpAny_bind (wpAny_specialOf D.typeIs slot_dict_contains.lookup ?_)
  show wpAny _ _ (if (some (Value.builtin "dict.__contains__") == some Value.none) = true then _ else _) _ E s
  rw [if_neg (by rw [beq_builtin_none]; exact Bool.false_ne_true)]
  refine wpAny_bind (wpAny_callSpecialUnlessNone?_slot (name := Str.ofString "__contains__") D.typeIs slot_dict_contains
    (wpAny_call_entry slot_dict_contains D.typeIs entry_dict_contains ?_ (args_dict_contains _ _)))
  show wpAny _ _ (dictGet d x >>= _) _ _ s
  refine wpAny_bind (D.get hk r hu (fun n e => ?_) fun n v y e z_ => ?_)
  · have h := h n
    rw [e] at h
    show wpAny _ _ (Builtin.Dict.pendingKey? d x >>= _) _ _ _
    exact wpAny_bind (wpAny_pendingKey_other D.ne (wpAny_pure ⟨_, rfl, wpAny_truthy_bool h⟩))
  · have h := h n
    rw [e] at h
    show wpAny _ _ (ret (.bool true)) _ _ _
    exact wpAny_pure ⟨_, rfl, wpAny_truthy_bool h⟩
theorem op_dictIn {n : Nat} {i : Nat} {a : V} (as : AS n stack A) (hr : HR am stack π Hc s.heap) (hc : Hc[i]? = some (.dict es)) (hp : π[i]? = some d) (ha : VR am π s.heap a x) :
    JAt am stack A (compareOp .In x (.ref d)) (R.opt ((if keyOk a then some (dfind a es).isSome else Option.none).map V.bool) Hc) (VR am) π s ∧ JAt am stack A (compareOp .NotIn x (.ref d)) (R.opt (((if keyOk a then some (dfind a es).isSome else Option.none).map (!·)).map V.bool) Hc) (VR am) π s := by
  cases hk : keyOk a with
  | false => exact ⟨.inl rfl, .inl rfl⟩
  | true =>
    obtain ⟨o, arr, ep, xs, D⟩ := (hr.cell i _ d hc hp).dict
    have hu : A.in1.units < cLine := by have := as.units; show A.units + 1 < 9900; omega
    refine ⟨.inr ?_, .inr ?_⟩
    · show wpAny _ _ (do return Value.bool (← PySem.contains (.ref d) x)) _ _ s
      exact wpAny_bind (D.contains hk ha hu fun n => wpAny_pure (OkP.tok hr rfl))
    · show wpAny _ _ (do return Value.bool (!(← PySem.contains (.ref d) x))) _ _ s
      exact wpAny_bind (D.contains hk ha hu fun n => wpAny_pure (OkP.tok hr rfl))
theorem dput_new : ∀ {es : List (V × V)}, dfind k es = none → dput k v es = es ++ [(k, v)]
  | [], _ => rfl
  | (k', v') :: es, h => by
    rw [dfind] at h
    by_cases e : k = k'
    · rw [if_pos e] at h; cases h
    · rw [if_neg e] at h
      rw [dput, if_neg e, dput_new h]; rfl
theorem dput_old : ∀ {es : List (V × V)} {j : Nat}, (es.map (·.1)).Nodup → es[j]? = some (k, v0) → dput k v es = es.set j (k, v)
  | (k', v') :: es, 0, _, h => by cases h; rw [dput, if_pos rfl]; rfl
  | (k', v') :: es, j + 1, hn, h => by
    rw [List.map_cons, List.nodup_cons] at hn
    have hm : k ∈ es.map (·.1) := List.mem_map.2 ⟨_, List.mem_of_getElem? h, rfl⟩
    rw [dput, if_neg fun q : k = k' => hn.1 (q ▸ hm), dput_old hn.2 h]; rfl
theorem ents_put (hy : VR am π h v y) : ∀ {es : List (V × V)} {xs : List Value} {j : Nat} {k v0 : V}, VRs am π h (es.flatMap fun e => [e.1, e.2]) xs → es[j]? = some (k, v0) →
    ∃ xs', VRs am π h ((es.set j (k, v)).flatMap fun e => [e.1, e.2]) xs' ∧ ents (es.set j (k, v)) xs' = (ents es xs).modify j fun e => { e with val := y }
  | (k', v') :: es, xs, j, k, v0, r, e => by
    rw [List.flatMap_cons] at r
    simp only [List.cons_append, List.nil_append, VRs] at r
    obtain ⟨x, _, rfl, hx, y', xs', rfl, hy', r⟩ := r
    cases j with
    | zero => cases e; exact ⟨x :: y :: xs', ⟨_, _, rfl, hx, _, _, rfl, hy, r⟩, rfl⟩
    | succ j =>
      obtain ⟨xs2, r2, e2⟩ := ents_put hy r e
      refine ⟨x :: y' :: xs2, ⟨_, _, rfl, hx, _, _, rfl, hy', r2⟩, ?_⟩
      show (⟨hashV k', x, y'⟩ : DictEntry) :: ents (es.set j (k, v)) xs2 = _
      rw [e2]; rfl
theorem ents_push : ∀ (es : List (V × V)) (xs : List Value) (k v : V) (x y : Value), xs.length = 2 * es.length → ents (es ++ [(k, v)]) (xs ++ [x, y]) = ents es xs ++ [⟨hashV k, x, y⟩]
  | [], xs, k, v, x, y, h => by
    have : xs = [] := List.eq_nil_of_length_eq_zero h
    subst this; rfl
  | (k', v') :: es, xs, k, v, x, y, h => by
    match xs, h with
    | [], h => simp at h
    | [_], h => simp at h; omega
    | a :: b :: xs, h =>
      show (⟨hashV k', a, b⟩ : DictEntry) :: ents (es ++ [(k, v)]) (xs ++ [x, y]) = ⟨hashV k', a, b⟩ :: (ents es xs ++ _)
      rw [ents_push es xs k v x y (by simp at h; omega)]
set_option tactic.hygienic true in
theorem dfind_none : ∀ {es : List (V × V)} {k : V}, dfind k es = Option.none → k ∉ es.map (·.1)
  | [], _, _ => by simp
  | (k', v) :: es, k, h => by
    rw [dfind] at h
    split at h
    · cases h
    · rename_i ne
      rw [List.map_cons, List.mem_cons]
      exact fun q => q.elim (fun e => ne e) (dfind_none h)
theorem dgood_push (g : dgood es) (hk : keyOk k = true) (hn : dfind k es = none) : dgood (es ++ [(k, v)]) := by
  refine ⟨?_, fun e he => ?_⟩
  · rw [List.map_append, List.nodup_append]
    refine ⟨g.1, by simp, fun x hx y hy => ?_⟩
    rw [List.map_cons, List.map_nil, List.mem_singleton] at hy
    subst hy
    exact fun q => dfind_none hn (q ▸ hx)
  · rcases List.mem_append.1 he with he | he
    · exact g.2 e he
    · rw [List.mem_singleton.1 he]; exact hk
end
section
variable {am : Amb} {stack : List Env} {A : Around} {π : List Addr} {s : Shared} {Hc : H}
theorem op_pow (hr : HR am stack π Hc s.heap) : JAt am stack A (binaryOp .Pow (.int 10 t) (.int 20 u)) (.ok (V.int 100000000000000000000) Hc) (VR am) π s :=
  .inr (pow_int (by decide) (by decide +kernel) (OkP.tok hr ⟨_, rfl⟩))
set_option tactic.hygienic true in
theorem op_bin (ok : AmbOK am) (st : StackOK stack) (as : AS n stack A) (hr : HR am stack π Hc s.heap) (ha : VR am π s.heap a x) (hb : VR am π s.heap b y) :
    JAt am stack A (binaryOp (bopM op) x y) (R.opt (pyBin op Hc a b) Hc) (VR am) π s := by
  cases op with
  | add =>
    show JAt _ _ _ _ (R.opt (pyAdd Hc a b) Hc) _ _ _
    rcases pyAdd_cases Hc a b with h | ⟨i, j, rfl, rfl⟩ | ⟨us, ws, rfl, rfl⟩ | ⟨us, ws, h1, h2, h⟩
    · rw [h]; exact .inl rfl
    · simp only [VR] at ha hb; obtain ⟨_, rfl⟩ := ha; obtain ⟨_, rfl⟩ := hb; exact op_add_int hr
    · exact .inl rfl
    · rw [h]; exact op_add_list hr ha hb h1 h2
  | sub =>
    rcases int2_cases (fun x y => some (V.int (x - y))) a b with h | ⟨i, j, rfl, rfl⟩
    · show JAt _ _ _ _ (R.opt (int2 (fun x y => some (V.int (x - y))) a b) Hc) _ _ _
      rw [h]; exact .inl rfl
    · simp only [VR] at ha hb; obtain ⟨_, rfl⟩ := ha; obtain ⟨_, rfl⟩ := hb; exact op_sub_int hr
  | mul =>
    show JAt _ _ _ _ (R.opt (pyMul Hc a b) Hc) _ _ _
    rcases pyMul_cases Hc a b with h | ⟨i, j, rfl, rfl⟩ | ⟨k, rfl, h⟩
    · rw [h]; exact .inl rfl
    · simp only [VR] at ha hb; obtain ⟨_, rfl⟩ := ha; obtain ⟨_, rfl⟩ := hb
      show JAt _ _ _ _ (R.opt (if i.natAbs < 9223372036854775808 ∨ j.natAbs < 9223372036854775808 then some (V.int (i * j)) else Option.none) Hc) _ _ _
      split
      · rename_i h; exact op_mul_int hr h
      · exact .inl rfl
    · rw [h]
      split
      · rename_i hk
        simp only [VR] at hb
        obtain ⟨u, rfl⟩ := hb
        cases h1 : litems Hc a with
        | none => exact .inl rfl
        | some vs => exact op_mul_list hr ha h1 ⟨hk.2, hk.1⟩
      · exact .inl rfl
  | fdiv =>
    show JAt _ _ _ _ (R.opt (int2 (fun x y => if y = 0 then Option.none else some (V.int (x.fdiv y))) a b) Hc) _ _ _
    rcases int2_cases (fun x y => if y = 0 then Option.none else some (V.int (x.fdiv y))) a b with h | ⟨i, j, rfl, rfl⟩
    · rw [h]; exact .inl rfl
    · simp only [VR] at ha hb; obtain ⟨_, rfl⟩ := ha; obtain ⟨_, rfl⟩ := hb
      show JAt _ _ _ _ (R.opt (if j = 0 then Option.none else some (V.int (i.fdiv j))) Hc) _ _ _
      split
      · exact .inl rfl
      · rename_i h; exact op_fdiv_int ok st as hr h
  | mod =>
    show JAt _ _ _ _ (R.opt (int2 (fun x y => if y = 0 then Option.none else some (V.int (x.fmod y))) a b) Hc) _ _ _
    rcases int2_cases (fun x y => if y = 0 then Option.none else some (V.int (x.fmod y))) a b with h | ⟨i, j, rfl, rfl⟩
    · rw [h]; exact .inl rfl
    · simp only [VR] at ha hb; obtain ⟨_, rfl⟩ := ha; obtain ⟨_, rfl⟩ := hb
      show JAt _ _ _ _ (R.opt (if j = 0 then Option.none else some (V.int (i.fmod j))) Hc) _ _ _
      split
      · exact .inl rfl
      · rename_i h; exact op_mod_int hr h
  | pow =>
    show JAt _ _ _ _ (R.opt (int2 (fun x y => if x = 10 ∧ y = 20 then some (V.int 100000000000000000000) else Option.none) a b) Hc) _ _ _
    rcases int2_cases (fun x y => if x = 10 ∧ y = 20 then some (V.int 100000000000000000000) else Option.none) a b with h | ⟨i, j, rfl, rfl⟩
    · rw [h]; exact .inl rfl
    · simp only [VR] at ha hb; obtain ⟨_, rfl⟩ := ha; obtain ⟨_, rfl⟩ := hb
      show JAt _ _ _ _ (R.opt (if i = 10 ∧ j = 20 then some (V.int 100000000000000000000) else Option.none) Hc) _ _ _
      split
      · rename_i h; obtain ⟨rfl, rfl⟩ := h; exact op_pow hr
      · exact .inl rfl
set_option tactic.hygienic true in
theorem op_pyIn {n : Nat} {a b : V} {x y : Value} (as : AS n stack A) (hr : HR am stack π Hc s.heap) (ha : VR am π s.heap a x) (hb : VR am π s.heap b y) :
    JAt am stack A (compareOp .In x y) (R.opt ((pyIn Hc a b).map V.bool) Hc) (VR am) π s ∧ JAt am stack A (compareOp .NotIn x y) (R.opt (((pyIn Hc a b).map (!·)).map V.bool) Hc) (VR am) π s := by
  unfold pyIn
  cases b with
  | ref i =>
    simp only
    split
    · rename_i es hc
      simp only [VR] at hb
      obtain ⟨ad, rfl, hp⟩ := hb
      exact op_dictIn as hr hc hp ha
    · exact op_isIn as hr ha hb
  | _ => exact op_isIn as hr ha hb
theorem op_cmp (as : AS n stack A) (hr : HR am stack π Hc s.heap) (ha : VR am π s.heap a x) (hb : VR am π s.heap b y) :
    JAt am stack A (compareOp (copM op) x y) (R.opt ((pyCmp op Hc a b).map V.bool) Hc) (VR am) π s := by
  cases op with
  | eq => exact op_eq as hr ha hb
  | ne => exact op_ne as hr ha hb
  | lt => exact op_lt hr ha hb
  | le => exact op_le hr ha hb
  | gt => exact op_gt hr ha hb
  | ge => exact op_ge hr ha hb
  | is => exact .inl rfl
  | isNot => exact .inl rfl
  | isin => exact (op_pyIn as hr ha hb).1
  | notIn => exact (op_pyIn as hr ha hb).2
theorem op_not (hr : HR am stack π Hc s.heap) (ha : VR am π s.heap a x) :
    JAt am stack A (unaryOp .Not x) ((match truthy a with | some b => R.ok (V.bool (!b)) Hc | Option.none => R.bad)) (VR am) π s := by
  cases a with
  | bool b => simp only [VR] at ha; subst ha; exact .inr (not_value (wpAny_truthy_bool (OkP.here hr rfl)))
  | _ => exact .inl rfl
theorem subs_or (slice : Expr) (o i : Value) : subscripted slice false o i = operate [i, o] (getItem o i) ∨ subscripted slice false o i = operate [o, i] (getItem o i) := by
  cases slice with
  | Slice a b c p =>
    cases c with
    | none => exact .inl rfl
    | some _ => exact .inr rfl
  | _ => exact .inr rfl
theorem sub_tail {E : Value → Shared → Prop} {value slice : Expr} {o i : Value} {T id : String} {Q : Value → Shared → Prop} (hT : s.TypeIs o T)
    (hl : typeLookup (.type T) "__getitem__" = pure (some (.builtin id))) (h : wpAny am.M A (getItem o i) Q E s) : wpAny am.M A (subscriptTail value slice o i) Q E s := by
  unfold subscriptTail
  refine wpAny_bind ?_
  rw [getitemInPython_of_ne hT.not_modules]
  refine wpAny_bind (wpAny_specialOf hT hl ?_)
  have hs : wpAny am.M A (subscripted slice false o i) Q E s := by
    rcases subs_or slice o i with e | e
    · rw [e]; exact operate_wp h
    · rw [e]; exact operate_wp h
  have fin : wpAny am.M A (subscripted slice false o i) (fun r s₃ => wpAny am.M A (letTemporaryGo value o r >>= fun z_ => pure r) Q E s₃) E s :=
    wpAny_mono hs (fun r s₃ h₃ => wpAny_bind (wpAny_letTemporaryGo (wpAny_pure h₃))) fun z_ z_ x => x
  first
    | exact wpAny_pure (wpAny_bind fin)
    | exact wpAny_bind (wpAny_pure (wpAny_bind fin))
    | exact wpAny_bind fin
theorem place_lt (h : place n i = some j) : j < n ∧ (i = j ∨ (i < 0 ∧ (i + n).toNat = j ∧ -(n : Int) ≤ i)) := by
  unfold place at h
  by_cases h0 : 0 ≤ i
  · rw [if_pos h0] at h
    by_cases h1 : i < n
    · rw [if_pos h1] at h
      cases h
      exact ⟨(Int.toNat_lt h0).2 h1, .inl (Int.toNat_of_nonneg h0).symm⟩
    · rw [if_neg h1] at h; cases h
  · rw [if_neg h0] at h
    have h0 := Int.not_le.1 h0
    by_cases h1 : 0 ≤ i + n
    · rw [if_pos h1] at h
      cases h
      refine ⟨(Int.toNat_lt h1).2 ?_, .inr ⟨h0, rfl, ?_⟩⟩
      · have := Int.add_lt_add_right h0 (n : Int)
        rwa [Int.zero_add] at this
      · have := Int.sub_right_le_of_le_add (a := 0) (b := i) (c := n) h1
        rwa [Int.zero_sub] at this
    · rw [if_neg h1] at h; cases h
theorem item_list {Q : Value → Shared → Prop} {E : Value → Shared → Prop} (hl : s.heap.IsList l (List.toArray xs)) (hz : xs.length ≤ 1000000) (hj : place xs.length k = some j) (hx : xs[j]? = some x) (h : Q x s) :
    wpAny am.M A (getItem (.ref l) (.int k t)) Q E s := by
  obtain ⟨h1, h2⟩ := place_lt hj
  rcases h2 with rfl | ⟨h2, rfl, h3⟩
  · exact wpAny_getItem_list hl (by omega) (by omega) (by simpa using hx) h
  · exact wpAny_getItem_list_neg hl h2 (by simpa using h3) (by omega) (by simpa using hx) h
theorem op_dictIdx {value slice : Expr} {n r : Nat} {es : List (V × V)} {d : Addr} {i : V} {y : Value} (as : AS n stack A) (hr : HR am stack π Hc s.heap) (hc : Hc[r]? = some (.dict es)) (hp : π[r]? = some d) (hi : VR am π s.heap i y) :
    JAt am stack A (subscriptTail value slice (.ref d) y) (R.opt (if keyOk i then dfind i es else Option.none) Hc) (VR am) π s := by
  cases hk : keyOk i with
  | false => exact .inl rfl
  | true =>
    rw [if_pos rfl]
    obtain ⟨o, arr, ep, xs, D⟩ := (hr.cell r _ d hc hp).dict
    have hu : A.in1.units < cLine := by have := as.units; show A.units + 1 < 9900; omega
    cases hf : dfind i es with
    | none => exact .inl rfl
    | some v =>
      refine .inr (sub_tail D.typeIs slot_dict_getitem.lookup ?_)
      unfold getItem
      try with_reducible refine wpAny_holding ?_
      refine wpAny_bind (wpAny_sequenceKey D.typeIs (by decide) ?_)
      refine wpAny_bind (wpAny_callSpecial?_slot (name := Str.ofString "__getitem__") D.typeIs slot_dict_getitem
        (wpAny_call_entry slot_dict_getitem D.typeIs entry_dict_getitem ?_ (args_dict_getitem _ _)))
      show wpAny _ _ (dictGet d y >>= _) _ _ s
      refine wpAny_bind (D.get hk hi hu (fun m e => by rw [hf] at e; cases e) fun m v' u e hv => ?_)
      rw [hf] at e; cases e
      exact wpAny_pure ⟨u, rfl, wpAny_pure (OkP.tok hr hv)⟩
theorem op_idx {value slice : Expr} {n : Nat} {a i : V} {x y : Value} (as : AS n stack A) (hr : HR am stack π Hc s.heap) (ha : VR am π s.heap a x) (hi : VR am π s.heap i y) :
    JAt am stack A (subscriptTail value slice x y) (R.opt (pyIdx Hc a i) Hc) (VR am) π s := by
  have lists : ∀ (l : Addr) (xs : List Value) (vs : List V), x = .ref l → s.heap.IsList l (List.toArray xs) → vs.length ≤ 1000000 → VRs am π s.heap vs xs →
      JAt am stack A (subscriptTail value slice x y) (R.opt (match i with | .int k => (place vs.length k).bind fun j => vs[j]? | _ => Option.none) Hc) (VR am) π s := by
    rintro l xs vs rfl hl hz hv
    cases i with
    | int k =>
      simp only
      simp only [VR] at hi
      obtain ⟨t, rfl⟩ := hi
      cases hj : place vs.length k with
      | none => exact .inl rfl
      | some j =>
        cases hw : vs[j]? with
        | none => exact .inl (by simp only [Option.bind_some, hw]; rfl)
        | some v =>
          obtain ⟨x', hx', hvx⟩ := hv.get j v hw
          simp only [Option.bind_some, hw, R.opt_some]
          exact .inr (sub_tail hl.typeIs list_getitem_lookup (item_list hl (by rw [hv.len]; exact hz) (by rw [hv.len]; exact hj) hx' (OkP.here hr hvx)))
    | _ => exact .inl rfl
  unfold pyIdx
  cases a with
  | ref r =>
    simp only
    simp only [VR] at ha
    obtain ⟨ad, rfl, hp⟩ := ha
    cases hc : Hc[r]? with
    | none => exact .inl rfl
    | some c =>
      cases c with
      | list vs =>
        obtain ⟨xs, h1, h2, h3⟩ := (hr.cell r _ ad hc hp).list
        exact lists ad xs vs rfl h1.is h2 h3
      | dict es => exact op_dictIdx as hr hc hp hi
  | lst vs =>
    simp only [VR] at ha
    obtain ⟨ad, xs, rfl, _, h1, h2, h3⟩ := ha
    exact lists ad xs vs rfl h1 h2 h3
  | tup vs =>
    simp only [VR] at ha
    obtain ⟨ad, xs, rfl, _, h1, hz, hv⟩ := ha
    cases i with
    | int k =>
      simp only
      simp only [VR] at hi
      obtain ⟨t, rfl⟩ := hi
      cases hj : place vs.length k with
      | none => exact .inl rfl
      | some j =>
        cases hw : vs[j]? with
        | none => exact .inl (by simp only [Option.bind_some, hw]; rfl)
        | some v =>
          obtain ⟨x', hx', hvx⟩ := hv.get j v hw
          simp only [Option.bind_some, hw, R.opt_some]
          obtain ⟨h5, h6⟩ := place_lt hj
          have e := hv.len
          refine .inr (sub_tail h1.typeIs slot_tuple_getitem.lookup (getItem_tuple (j := j) h1 (by omega) (by omega) ?_ (by simpa using hx') (OkP.here hr hvx)))
          rcases h6 with rfl | ⟨h6, rfl, h7⟩
          · have hn : ¬ ((j : Int) < 0) := by omega
            unfold seqIndex?
            simp only [hn, if_false, List.size_toArray, e]
            rw [if_pos (by simp only [Bool.and_eq_true, decide_eq_true_eq]; omega)]
            simp
          · have := seqIndex_neg (n := vs.length) h6 h7
            simpa [e] using this
    | _ => exact .inl rfl
  | _ => exact .inl rfl
end
theorem via_upto (k : h.UpToSlots h') : Via am am π π h h' := ⟨fun a o ho hn h1 h2 => ⟨k a o ho hn, h1, h2⟩, fun z_ z_ e => e⟩
theorem VR.upto (k : h.UpToSlots h') (e : VR am π h v y) : VR am π h' v y := e.via (via_upto k)
theorem VRs.upto (k : h.UpToSlots h') (e : VRs am π h vs ys) : VRs am π h' vs ys := e.via (via_upto k)
theorem CellAt.upto (k : h.UpToSlots h') (e : CellAt am π h c a) : CellAt am π h' c a := by
  exact e.via (via_upto k) fun o ho hn => k a o ho hn
theorem HR.upto {am : Amb} {stack : List Env} {π : List Addr} {Hc : H} {h h' : Heap} (x : HR am stack π Hc h) (k : h.UpToSlots h') (kb : am.B.StaysIn h') : HR am stack π Hc h' :=
  ⟨kb, funFrames_slots k x.frames, x.len, x.nodup, fun a ha => let ⟨o, ho, hn⟩ := x.res a ha; let ⟨_, hs⟩ := k a o ho hn; ⟨_, hs, hn⟩, x.off, fun i c a h1 h2 => (x.cell i c a h1 h2).upto k⟩
noncomputable def NoExc (ρ : List V) : Prop := ∀ v ∈ ρ, ∀ c, v ≠ .exc c
theorem NoExc.set (x : NoExc ρ) (hv : ∀ c, v ≠ .exc c) : NoExc (ρ.set i v) := fun u hu c => by
  rcases List.mem_or_eq_of_mem_set hu with h | h
  · exact x u h c
  · subst h; exact hv c
theorem VR.noexc (e : VR am π h v x) : ∀ c, v ≠ .exc c := fun c q => by subst q; exact e
theorem SR.vr (e : SR am π h v x) (n : ∀ c, v ≠ .exc c) : VR am π h v x := by
  rcases e with e | ⟨c, a, h1, _⟩
  · exact e
  · exact absurd h1 (n c)
theorem ER.upto (e : ER am cx ρ π h) (k : h.UpToSlots h') (ne : NoExc ρ) : ER am cx ρ π h' := by
  have cell : ∀ {c v}, h.IsCell c v → h'.IsCell c v := fun {c v} ⟨o, ho, hd⟩ => by
    obtain ⟨sl, hs⟩ := k c o ho (fun us q => by rw [hd] at q; cases q)
    exact ⟨_, hs, hd⟩
  obtain ⟨m, hm⟩ := e.ns
  refine ⟨⟨m, k.ns hm⟩, e.locOff, fun y c hc => ?_, e.apart, fun y i v h1 h2 h3 h4 => ?_⟩
  · refine hold fun z_ k_ => ?_
    obtain ⟨h1, h2, v, h3⟩ := e.cellOff y c hc
    refine k_ ?_
    exact ⟨h1, h2, v, cell h3⟩
  · obtain ⟨v', h5, h6⟩ := e.var y i v h1 h2 h3 h4
    refine ⟨v', ?_, .inl ((h6.vr (ne v (List.mem_of_getElem? h2))).upto k)⟩
    rcases h5 with ⟨q, m', h7, h8⟩ | ⟨q, c, h7, h8⟩
    · exact .inl ⟨q, m', k.ns h7, h8⟩
    · exact .inr ⟨q, c, h7, cell h8⟩
noncomputable def Poke (I : Addr) (h h' : Heap) : Prop := ∀ b o, b ≠ I → h.get? b = some o → h'.get? b = some o
theorem Poke.slots (p : Poke I h h') (ho : h.get? I = some o) (hd : o.data = .fields us) : h.UpToSlots h' := fun b o' hb hn =>
  ⟨o'.slots, p b o' (fun q => by subst q; rw [ho] at hb; cases hb; exact hn us hd) hb⟩
theorem Step.poke {Fs π π' : List Addr} {s s' : Shared} {I : Addr} {h'' : Heap} {tk : Nat} (x : Step Fs π s π' s') (hI : s.heap.get? I = none) (p : Poke I s'.heap h'') : Step Fs π s π' { s' with heap := h'', toks := tk } := by
  have ne : ∀ {b o}, s.heap.get? b = some o → b ≠ I := fun {b o} e q => by subst q; rw [hI] at e; cases e
  obtain ⟨h', tk', rfl⟩ := x.same
  refine ⟨⟨h'', tk, rfl⟩, ⟨fun a o e h1 h2 => p a o (ne e) (x.ext.keep a o e h1 h2), fun a o e h1 => ?_, fun a o e => ?_⟩, x.grow⟩
  · obtain ⟨sl, h3⟩ := x.ext.slots a o e h1
    exact ⟨sl, p a _ (ne e) h3⟩
  · obtain ⟨o', h3⟩ := x.ext.alive a o e
    exact ⟨o', p a o' (ne e) h3⟩
theorem HR.poke {am : Amb} {stack : List Env} {π : List Addr} {Hc : H} {h h' : Heap} {I : Addr} (x : HR am stack π Hc h) (p : Poke I h h') {o : Obj} {us : Array Value} (ho : h.get? I = some o) (hd : o.data = .fields us) (hB : am.B.get? I = none) : HR am stack π Hc h' :=
  x.upto (p.slots ho hd) fun b o' e => p b o' (fun q => by subst q; rw [hB] at e; cases e) (x.base b o' e)
theorem via_free (k : ∀ b o, b ∉ am.res → h.get? b = some o → h'.get? b = some o) : Via am am π π h h' := ⟨fun a o ho z_ h1 h2 => ⟨⟨o.slots, k a o h2 ho⟩, h1, h2⟩, fun z_ z_ e => e⟩
theorem VR.free (k : ∀ b o, b ∉ am.res → h.get? b = some o → h'.get? b = some o) (e : VR am π h v y) : VR am π h' v y := e.via (via_free k)
theorem VRs.free (k : ∀ b o, b ∉ am.res → h.get? b = some o → h'.get? b = some o) (e : VRs am π h vs ys) : VRs am π h' vs ys := e.via (via_free k)
structure Mv (R Fs π : List Addr) (s : Shared) (π' : List Addr) (s' : Shared) : Prop where
  same : ∃ h' tk, s' = { s with heap := h', toks := tk }
  keep : ∀ a o, s.heap.get? a = some o → a ∉ π → a ∉ Fs → a ∉ R → s'.heap.get? a = some o
  slots : ∀ a o, s.heap.get? a = some o → a ∉ π → a ∉ R → ∃ sl, s'.heap.get? a = some { o with slots := sl }
  alive : ∀ a o, s.heap.get? a = some o → ∃ o', s'.heap.get? a = some o'
  grow : ∃ δ, π' = π ++ δ ∧ ∀ a ∈ δ, s.heap.get? a = none
theorem Mv.of {R Fs π π' : List Addr} {s s' : Shared} (x : Step Fs π s π' s') : Mv R Fs π s π' s' :=
  ⟨x.same, fun a o h1 h2 h3 z_ => x.ext.keep a o h1 h2 h3, fun a o h1 h2 z_ => x.ext.slots a o h1 h2, x.ext.alive, x.grow⟩
theorem Mv.notin {R Fs π π' : List Addr} {s s' : Shared} (x : Mv R Fs π s π' s') {a : Addr} {o : Obj} (ho : s.heap.get? a = some o) (ha : a ∉ π) : a ∉ π' := by
  obtain ⟨δ, rfl, hδ⟩ := x.grow
  intro hm
  rcases List.mem_append.mp hm with h1 | h1
  · exact ha h1
  · have := hδ a h1; rw [ho] at this; cases this
theorem Mv.trans {R Fs π₀ π₁ π₂ : List Addr} {s₀ s₁ s₂ : Shared} (x : Mv R Fs π₀ s₀ π₁ s₁) (y : Mv R Fs π₁ s₁ π₂ s₂) : Mv R Fs π₀ s₀ π₂ s₂ := by
  refine ⟨?_, fun a o e h1 h2 h3 => ?_, fun a o e h1 h3 => ?_, fun a o e => ?_, ?_⟩
  · obtain ⟨h', tk, rfl⟩ := x.same
    obtain ⟨h'', tk', rfl⟩ := y.same
    exact ⟨_, _, rfl⟩
  · exact y.keep a o (x.keep a o e h1 h2 h3) (x.notin e h1) h2 h3
  · obtain ⟨sl, h4⟩ := x.slots a o e h1 h3
    obtain ⟨sl', h5⟩ := y.slots a _ h4 (x.notin e h1) h3
    exact ⟨sl', h5⟩
  · obtain ⟨o', h4⟩ := x.alive a o e
    exact y.alive a o' h4
  · obtain ⟨δ, rfl, hδ⟩ := x.grow
    obtain ⟨δ', rfl, hδ'⟩ := y.grow
    refine ⟨δ ++ δ', by simp, fun a ha => ?_⟩
    rcases List.mem_append.mp ha with h1 | h1
    · exact hδ a h1
    · cases hq : s₀.heap.get? a with
      | none => rfl
      | some o =>
        obtain ⟨o', h3⟩ := x.alive a o hq
        have := hδ' a h1; rw [h3] at this; cases this
theorem Mv.poke {R Fs π π' : List Addr} {s s' : Shared} {C : Addr} {h'' : Heap} {tk : Nat} (x : Mv R Fs π s π' s') (hC : (C ∈ R ∧ ∃ o, h''.get? C = some o) ∨ s.heap.get? C = none) (p : Poke C s'.heap h'') : Mv R Fs π s π' { s' with heap := h'', toks := tk } := by
  have ne : ∀ {b o}, s.heap.get? b = some o → b ∉ R → b ≠ C := fun {b o} e hb q => by
    subst q
    rcases hC with h | h
    · exact hb h.1
    · rw [h] at e; cases e
  obtain ⟨h', tk', rfl⟩ := x.same
  refine ⟨⟨h'', tk, rfl⟩, fun a o e h1 h2 h3 => p a o (ne e h3) (x.keep a o e h1 h2 h3), fun a o e h1 h3 => ?_, fun a o e => ?_, x.grow⟩
  · obtain ⟨sl, h4⟩ := x.slots a o e h1 h3
    exact ⟨sl, p a _ (ne e h3) h4⟩
  · obtain ⟨o', h4⟩ := x.alive a o e
    by_cases hq : a = C
    · subst hq
      rcases hC with h | h
      · exact h.2
      · rw [h] at e; cases e
    · exact ⟨o', p a o' hq h4⟩
theorem via_move {am : Amb} {Fs π π' : List Addr} {s s' : Shared} (x : Mv am.res Fs π s π' s') : Via am am π π' s.heap s'.heap :=
  ⟨fun a o ho z_ h1 h2 => ⟨x.slots a o ho h1 h2, x.notin ho h1, h2⟩, fun i a ha => by
    obtain ⟨δ, rfl, _⟩ := x.grow
    rw [List.getElem?_append_left (List.getElem?_eq_some_iff.mp ha).1]; exact ha⟩
theorem VR.move {am : Amb} {Fs π π' : List Addr} {s s' : Shared} (x : Mv am.res Fs π s π' s') {v : V} {y : Value} (e : VR am π s.heap v y) : VR am π' s'.heap v y := e.via (via_move x)
theorem VRs.move {am : Amb} {Fs π π' : List Addr} {s s' : Shared} (x : Mv am.res Fs π s π' s') {vs : List V} {ys : List Value} (e : VRs am π s.heap vs ys) : VRs am π' s'.heap vs ys := e.via (via_move x)
structure Iter (am : Amb) (stack : List Env) (A : Around) (I : Addr) (wt : Watch) (vs : List V) (Sx : Nat → List Addr → Heap → Prop) : Prop where
  stable : ∀ k π (s : Shared) π' (s' : Shared), Sx k π s.heap → Step (Fs stack) π s π' s' → Sx k π' s'.heap
  move : ∀ k π (s : Shared) π' (s' : Shared), Sx k π s.heap → Mv am.res (Fs stack) π s π' s' → Sx k π' s'.heap
  free : ∀ k π (h h' : Heap), Sx k π h → (∀ b o, b ∉ am.res → h.get? b = some o → h'.get? b = some o) → Sx k π h'
  own : ∀ k π h, Sx k π h → I ∉ π ∧ I ∉ Fs stack ∧ ∃ o us, h.get? I = some o ∧ o.data = .fields us
  item : ∀ k π (Hc : H) (s : Shared) v (Q : Option Value → Shared → Prop) (E : Value → Shared → Prop), Sx k π s.heap → HR am stack π Hc s.heap → wt.ok Hc = true → vs[k]? = some v →
    (∀ x h' tk, Poke I s.heap h' → VR am π h' v x → Sx (k + 1) π h' → Q (some x) { s with heap := h', toks := tk }) → wpAny am.M A (pyNext (.ref I)) Q E s
  done : ∀ π (Hc : H) (s : Shared) (Q : Option Value → Shared → Prop) (E : Value → Shared → Prop), Sx vs.length π s.heap → HR am stack π Hc s.heap → wt.ok Hc = true →
    (∀ h' tk, Poke I s.heap h' → Q none { s with heap := h', toks := tk }) → wpAny am.M A (pyNext (.ref I)) Q E s
  self : ∀ k π (s : Shared) (Q : Value → Shared → Prop) (E : Value → Shared → Prop), Sx k π s.heap → Q (.ref I) s → wpAny am.M A (pyIter (.ref I)) Q E s
section
variable {am : Amb} {stack : List Env} {A : Around}
theorem Iter.lst (hh : A.handled = none) {I l : Addr} {vs : List V} : Iter am stack A I none vs (fun k π h => I ∉ π ∧ I ∉ Fs stack ∧ h.IsListIter I l k ∧ (l ∉ π ∧ I ∉ am.res ∧ l ∉ am.res) ∧ ∃ xs, h.IsList l (List.toArray xs) ∧ VRs am π h vs xs) where
  stable := by
    rintro k π s π' s' ⟨h1, h2, h3, h4, xs, h5, h6⟩ x
    obtain ⟨o, ho, hr⟩ := id h3
    obtain ⟨o', ho', _⟩ := id h5
    exact ⟨x.notin ho h1, h2, ⟨o, x.ext.keep _ _ ho h1 h2, hr⟩, ⟨x.notin ho' h4.1, h4.2⟩, xs, x.ext.list h5 h4.1, h6.step x⟩
  move := by
    rintro k π s π' s' ⟨h1, h2, h3, h4, xs, h5, h6⟩ x
    obtain ⟨o, ho, hr⟩ := id h3
    refine hold fun z_ k_ => ?_
    obtain ⟨o', ho', hc', n', hd'⟩ := id h5
    refine k_ ?_
    obtain ⟨sl, hs⟩ := x.slots _ _ ho' h4.1 h4.2.2
    exact ⟨x.notin ho h1, h2, ⟨o, x.keep _ _ ho h1 h2 h4.2.1, hr⟩, ⟨x.notin ho' h4.1, h4.2⟩, xs, ⟨_, hs, hc', n', hd'⟩, h6.move x⟩
  free := by
    rintro k π h h' ⟨h1, h2, ⟨o, ho, hr⟩, h4, xs, ⟨o', ho', r⟩, h6⟩ kk
    exact ⟨h1, h2, ⟨o, kk _ _ h4.2.1 ho, hr⟩, h4, xs, ⟨o', kk _ _ h4.2.2 ho', r⟩, h6.free kk⟩
  own := by
    rintro k π h ⟨h1, h2, ⟨o, ho, hc, hd⟩, _⟩
    exact ⟨h1, h2, o, _, ho, hd⟩
  item := by
    rintro k π Hc s v Q E ⟨h1, h2, h3, h4, xs, h5, h6⟩ hr _ hv hQ
    obtain ⟨x, hx, hvx⟩ := h6.get k v hv
    refine hold fun z_ k_ => ?_
    obtain ⟨o, ho, hc, hd⟩ := id h3
    refine k_ ?_
    refine wpAny_pyNext_list_item h3 h5 (x := x) (by simpa using hx) fun h' hit' hs' => ?_
    have p : Poke I s.heap h' := fun b o hb e => hs'.extBut b o hb e
    have u := p.slots ho hd
    refine hold fun z_ k_ => ?_
    obtain ⟨ol, hol, hcl, n, hdl⟩ := id h5
    refine k_ ?_
    have hne : l ≠ I := fun q => by subst q; rw [ho] at hol; cases hol; rw [hd] at hdl; cases hdl
    exact hQ x h' s.toks p (hvx.upto u) ⟨h1, h2, hit', h4, xs, ⟨ol, p _ _ hne hol, hcl, n, hdl⟩, h6.upto u⟩
  done := by
    rintro π Hc s Q E ⟨h1, h2, h3, h4, xs, h5, h6⟩ hr _ hQ
    exact wpAny_pyNext_list_end hh h3 h5 (by simp [h6.len]) fun h' he' => hQ h' s.toks fun b o hb e => he' b o hb e
  self := fun z_ z_ z_ z_ z_ st hQ => wpAny_pyIter_listiter st.2.2.1 hQ
theorem Iter.cell (hh : A.handled = none) {I : Addr} {i : Nat} {vs : List V} : Iter am stack A I (some (i, .list vs)) vs (fun k π h => I ∉ π ∧ (I ∉ Fs stack ∧ I ∉ am.res) ∧ ∃ l, π[i]? = some l ∧ h.IsListIter I l k) where
  stable := by
    rintro k π s π' s' ⟨h1, h2, l, h4, h3⟩ x
    obtain ⟨o, ho, hr⟩ := id h3
    obtain ⟨δ, e, _⟩ := x.grow
    refine ⟨x.notin ho h1, h2, l, ?_, ⟨o, x.ext.keep _ _ ho h1 h2.1, hr⟩⟩
    rw [e, List.getElem?_append_left (List.getElem?_eq_some_iff.mp h4).1]; exact h4
  move := by
    rintro k π s π' s' ⟨h1, h2, l, h4, h3⟩ x
    obtain ⟨o, ho, hr⟩ := id h3
    obtain ⟨δ, e, _⟩ := x.grow
    refine ⟨x.notin ho h1, h2, l, ?_, ⟨o, x.keep _ _ ho h1 h2.1 h2.2, hr⟩⟩
    rw [e, List.getElem?_append_left (List.getElem?_eq_some_iff.mp h4).1]; exact h4
  free := by
    rintro k π h h' ⟨h1, h2, l, h4, ⟨o, ho, hr⟩⟩ kk
    exact ⟨h1, h2, l, h4, ⟨o, kk _ _ h2.2 ho, hr⟩⟩
  own := by
    rintro k π h ⟨h1, h2, l, _, ⟨o, ho, hc, hd⟩⟩
    exact ⟨h1, h2.1, o, _, ho, hd⟩
  item := by
    rintro k π Hc s v Q E ⟨h1, h2, l, h4, h3⟩ hr hw hv hQ
    have hc : Hc[i]? = some (.list vs) := by simpa [Watch.ok] using hw
    refine hold fun z_ k_ => ?_
    obtain ⟨xs, h5, _, h6⟩ := (hr.cell i _ l hc h4).list
    refine k_ ?_
    obtain ⟨x, hx, hvx⟩ := h6.get k v hv
    refine hold fun z_ k_ => ?_
    obtain ⟨o, ho, _, hd⟩ := id h3
    refine k_ ?_
    refine wpAny_pyNext_list_item h3 h5.is (x := x) (by simpa using hx) fun h' hit' hs' => ?_
    have p : Poke I s.heap h' := fun b o hb e => hs'.extBut b o hb e
    exact hQ x h' s.toks p (hvx.upto (p.slots ho hd)) ⟨h1, h2, l, h4, hit'⟩
  done := by
    rintro π Hc s Q E ⟨h1, h2, l, h4, h3⟩ hr hw hQ
    have hc : Hc[i]? = some (.list vs) := by simpa [Watch.ok] using hw
    refine hold fun z_ k_ => ?_
    obtain ⟨xs, h5, _, h6⟩ := (hr.cell i _ l hc h4).list
    refine k_ ?_
    exact wpAny_pyNext_list_end hh h3 h5.is (by simp [h6.len]) fun h' he' => hQ h' s.toks fun b o hb e => he' b o hb e
  self := fun _ _ _ _ _ ⟨_, _, _, _, st⟩ hQ => wpAny_pyIter_listiter st hQ
theorem Iter.tup (hh : A.handled = none) {I l : Addr} {vs : List V} : Iter am stack A I none vs (fun k π h => I ∉ π ∧ I ∉ Fs stack ∧ h.IsTupleIter I l k ∧ (l ∉ π ∧ I ∉ am.res ∧ l ∉ am.res) ∧ ∃ xs, h.IsTuple l (List.toArray xs) ∧ VRs am π h vs xs) where
  stable := by
    rintro k π s π' s' ⟨h1, h2, h3, h4, xs, h5, h6⟩ x
    obtain ⟨o, ho, hr⟩ := id h3
    obtain ⟨o', ho', _⟩ := id h5
    exact ⟨x.notin ho h1, h2, ⟨o, x.ext.keep _ _ ho h1 h2, hr⟩, ⟨x.notin ho' h4.1, h4.2⟩, xs, x.ext.tuple h5 h4.1, h6.step x⟩
  move := by
    rintro k π s π' s' ⟨h1, h2, h3, h4, xs, h5, h6⟩ x
    obtain ⟨o, ho, hr⟩ := id h3
    refine hold fun z_ k_ => ?_
    obtain ⟨o', ho', hc', n', hd'⟩ := id h5
    refine k_ ?_
    obtain ⟨sl, hs⟩ := x.slots _ _ ho' h4.1 h4.2.2
    exact ⟨x.notin ho h1, h2, ⟨o, x.keep _ _ ho h1 h2 h4.2.1, hr⟩, ⟨x.notin ho' h4.1, h4.2⟩, xs, ⟨_, hs, hc', n', hd'⟩, h6.move x⟩
  free := by
    rintro k π h h' ⟨h1, h2, ⟨o, ho, hr⟩, h4, xs, ⟨o', ho', r⟩, h6⟩ kk
    exact ⟨h1, h2, ⟨o, kk _ _ h4.2.1 ho, hr⟩, h4, xs, ⟨o', kk _ _ h4.2.2 ho', r⟩, h6.free kk⟩
  own := by
    rintro k π h ⟨h1, h2, ⟨o, ho, hc, hd⟩, _⟩
    exact ⟨h1, h2, o, _, ho, hd⟩
  item := by
    rintro k π Hc s v Q E ⟨h1, h2, h3, h4, xs, h5, h6⟩ hr _ hv hQ
    obtain ⟨x, hx, hvx⟩ := h6.get k v hv
    refine hold fun z_ k_ => ?_
    obtain ⟨o, ho, hc, hd⟩ := id h3
    refine k_ ?_
    refine wpAny_pyNext_tuple_item h3 h5 (x := x) (by simpa using hx) fun h' hit' hs' => ?_
    have p : Poke I s.heap h' := fun b o hb e => hs'.extBut b o hb e
    have u := p.slots ho hd
    refine hold fun z_ k_ => ?_
    obtain ⟨ol, hol, hcl, n, hdl⟩ := id h5
    refine k_ ?_
    have hne : l ≠ I := fun q => by subst q; rw [ho] at hol; cases hol; rw [hd] at hdl; cases hdl
    exact hQ x h' s.toks p (hvx.upto u) ⟨h1, h2, hit', h4, xs, ⟨ol, p _ _ hne hol, hcl, n, hdl⟩, h6.upto u⟩
  done := by
    rintro π Hc s Q E ⟨h1, h2, h3, h4, xs, h5, h6⟩ hr _ hQ
    exact wpAny_pyNext_tuple_end hh h3 h5 (by simp [h6.len]) fun h' he' => hQ h' s.toks fun b o hb e => he' b o hb e
  self := fun z_ z_ z_ z_ z_ st hQ => wpAny_pyIter_tupleiter st.2.2.1 hQ
theorem Iter.range (hh : A.handled = none) {I : Addr} (a c : Int) (n : Nat) : Iter am stack A I none ((List.range n).map fun (i : Nat) => V.int (a + (i : Int) * c)) (fun k π h => I ∉ π ∧ (I ∉ Fs stack ∧ I ∉ am.res) ∧ IsRangeIter h I (a + (k : Nat) * c) ((n : Int) - (k : Nat)) c) where
  stable := by
    rintro k π s π' s' ⟨h1, h2, h3⟩ x
    exact ⟨x.notin h3 h1, h2, x.ext.keep _ _ h3 h1 h2.1⟩
  move := by
    rintro k π s π' s' ⟨h1, h2, h3⟩ x
    exact ⟨x.notin h3 h1, h2, x.keep _ _ h3 h1 h2.1 h2.2⟩
  free := by
    rintro k π h h' ⟨h1, h2, h3⟩ kk
    exact ⟨h1, h2, kk _ _ h2.2 h3⟩
  own := by
    rintro k π h ⟨h1, h2, h3⟩
    exact ⟨h1, h2.1, _, _, h3, rfl⟩
  item := by
    rintro k π Hc s v Q E ⟨h1, h2, h3⟩ hr _ hv hQ
    have hk : k < n := by have := (List.getElem?_eq_some_iff.mp hv).1; simpa using this
    have hv' : v = V.int (a + (k : Int) * c) := by
      rw [List.getElem?_map, List.getElem?_range hk] at hv
      simpa using hv.symm
    subst hv'
    refine wpAny_pyNext_range_item h3 (by omega) fun h' hit' hs' => ?_
    have p : Poke I s.heap h' := fun b o hb e => hs'.extBut b o hb e
    refine hQ _ h' _ p ⟨_, rfl⟩ ⟨h1, h2, ?_⟩
    have e1 : a + ((k + 1 : Nat) : Int) * c = a + (k : Int) * c + c := by push_cast; rw [Int.add_mul, Int.one_mul, Int.add_assoc]
    have e2 : (n : Int) - ((k + 1 : Nat) : Int) = (n : Int) - (k : Int) - 1 := by push_cast; omega
    rw [e1, e2]; exact hit'
  done := by
    rintro π Hc s Q E ⟨h1, h2, h3⟩ hr _ hQ
    exact wpAny_pyNext_range_end hh h3 (by simp) fun h' he' => hQ h' s.toks fun b o hb e => he' b o hb e
  self := fun z_ z_ z_ z_ z_ st hQ => wpAny_pyIter_rangeiter st.2.2 hQ
end
section
variable {am : Amb} {stack : List Env} {A : Around} {π : List Addr} {s : Shared} {Hc : H}
theorem items_at (hr : HR am stack π Hc s.heap) (e : VR am π s.heap v x) (hi : items Hc v = some vs) :
    ∃ l xs, x = .ref l ∧ (s.heap.IsList l (List.toArray xs) ∨ s.heap.IsTuple l (List.toArray xs)) ∧ vs.length ≤ 1000000 ∧ VRs am π s.heap vs xs := by
  cases v with
  | tup ws =>
    simp only [items, Option.some.injEq] at hi; subst hi
    simp only [VR] at e
    obtain ⟨a, xs, h1, _, h3, h4, h5⟩ := e
    exact ⟨a, xs, h1, .inr h3, h4, h5⟩
  | lst ws =>
    obtain ⟨l, xs, h1, h2, h3⟩ := litems_at hr e (vs := vs) hi
    exact ⟨l, xs, h1, .inl h2, h3⟩
  | ref i =>
    obtain ⟨l, xs, h1, h2, h3⟩ := litems_at hr e (vs := vs) hi
    exact ⟨l, xs, h1, .inl h2, h3⟩
  | _ => simp [items] at hi
theorem op_len (hr : HR am stack π Hc s.heap) (ha : VR am π s.heap a x) :
    JAt am stack A (call (.builtin "len") [x]) (R.opt (bf .len Hc a) Hc) (VR am) π s := by
  have key : ∀ vs, items Hc a = some vs → JAt am stack A (call (.builtin "len") [x]) (R.ok (V.int vs.length) Hc) (VR am) π s := by
    intro vs h
    obtain ⟨l, xs, rfl, hl, hz, hv⟩ := items_at hr ha h
    have e := hv.len
    rcases hl with hl | hl
    · exact .inr (PySem.Calls.call_len_list hl (by simp; omega) (by simp only [List.size_toArray, e]; exact OkP.tok hr ⟨_, rfl⟩))
    · exact .inr (len_tuple hl (by simp; omega) (by simp only [List.size_toArray, e]; exact OkP.tok hr ⟨_, rfl⟩))
  unfold bf
  cases a with
  | ref i =>
    simp only
    cases hc : Hc[i]? with
    | none => exact .inl rfl
    | some c =>
      cases c with
      | list vs => exact key vs (by simp [items, hc])
      | dict es => exact .inl rfl
  | tup vs => exact key vs rfl
  | lst vs => exact key vs rfl
  | _ => exact .inl rfl
theorem wp_list {Q : Value → Shared → Prop} {E : Value → Shared → Prop} (hr : HR am stack π Hc s.heap) (ha : VR am π s.heap a x) (hi : items Hc a = some vs) (h : ∀ y s', NewL am π s vs y s' → Q y s') :
    wpAny am.M A (call (.type "list") [x]) Q E s := by
  obtain ⟨l, xs, rfl, hl, hz, hv⟩ := items_at hr ha hi
  have e := hv.len
  have fin : ∀ (T : String) (o : Obj) (n : Nat), (T = "list" ∨ T = "tuple") → s.heap.get? l = some o → o.cls = .type T → o.data = .seq (List.toArray xs) n → wpAny am.M A (call (.type "list") [.ref l]) Q E s := by
    intro T o n hT ho hc hd
    refine call_list_seq l hT ho hc hd (fun h' c' k hn => h _ _ ⟨_, xs, h', s.toks, rfl, rfl, k, size_none _, ⟨_, c', hn, rfl, rfl, rfl⟩, (hv.held (size_none _)).keeps k⟩) ?_
    simp only [List.size_toArray]
    have := mil_le_line
    omega
  rcases hl with ⟨o, ho, hc, n, hd⟩ | ⟨o, ho, hc, n, hd⟩
  · exact fin _ o n (.inl rfl) ho hc hd
  · exact fin _ o n (.inr rfl) ho hc hd
theorem op_list (hr : HR am stack π Hc s.heap) (ha : VR am π s.heap a x) :
    JAt am stack A (call (.type "list") [x]) (R.opt (bf .list Hc a) Hc) (VR am) π s := by
  unfold bf
  cases hi : items Hc a with
  | none => exact .inl rfl
  | some vs =>
    obtain ⟨_, _, _, _, hz, _⟩ := items_at hr ha hi
    exact .inr (wp_list hr ha hi fun y s' n => n.lst hr hz)
theorem op_tuple (hr : HR am stack π Hc s.heap) (ha : VR am π s.heap a x) :
    JAt am stack A (call (.type "tuple") [x]) (R.opt (bf .tuple Hc a) Hc) (VR am) π s := by
  unfold bf
  cases hi : items Hc a with
  | none => exact .inl rfl
  | some vs =>
    obtain ⟨l, xs, rfl, hl, hz, hv⟩ := items_at hr ha hi
    have e := hv.len
    rcases hl with hl | hl
    · refine .inr (call_tuple_list hl (fun h' k => ?_) (by simp only [List.size_toArray]; have := mil_le_line; omega))
      have k' : ∀ b o, s.heap.get? b = some o → (h'.push { cls := .type "tuple", data := .seq (List.toArray xs) }).get? b = some o := fun b o q => Heap.get?_push_of_some _ (k b o q)
      have hn : s.heap.get? h'.objs.size = none := by
        cases q : s.heap.get? h'.objs.size with
        | none => rfl
        | some o => have := k _ o q; rw [size_none] at this; cases this
      refine OkP.keeps (tk := s.toks) hr k' ?_
      simp only [VR]
      exact ⟨_, xs, rfl, ⟨fresh_pi hr hn, fresh_res hr hn⟩, ⟨_, Heap.get?_push_size _ rfl, rfl, 0, rfl⟩, hz, hv.keeps k'⟩
    · refine .inr (call_tuple_same hl (OkP.here hr ?_))
      cases a with
      | tup ws => simp only [items, Option.some.injEq] at hi; subst hi; exact ha
      | lst ws =>
        simp only [VR] at ha
        obtain ⟨_, _, q, _, ⟨o, ho, hc, _⟩, _⟩ := ha
        cases q
        obtain ⟨o', ho', hc', _⟩ := hl
        rw [ho] at ho'; cases ho'; rw [hc] at hc'; exact absurd hc' (by decide)
      | ref i =>
        obtain ⟨l', xs', q, ⟨o, ho, hc, _⟩, _⟩ := litems_at hr ha (vs := vs) hi
        cases q
        obtain ⟨o', ho', hc', _⟩ := hl
        rw [ho] at ho'; cases ho'; rw [hc] at hc'; exact absurd hc' (by decide)
      | _ => simp [items] at hi
theorem op_int (hr : HR am stack π Hc s.heap) (ha : VR am π s.heap a x) :
    JAt am stack A (call (.type "int") [x]) (R.opt (bf .int Hc a) Hc) (VR am) π s := by
  unfold bf
  cases a with
  | bool b => simp only [VR] at ha; subst ha; exact .inr (call_int_bool (OkP.tok hr ⟨_, rfl⟩))
  | _ => exact .inl rfl
theorem asBools_get : ∀ {vs : List V} {bs : List Bool}, asBools vs = some bs → vs = bs.map V.bool
  | [], bs, h => by simp only [asBools, Option.some.injEq] at h; subst h; rfl
  | v :: vs, bs, h => by
    cases v <;> simp only [asBools] at h <;> try cases h
    simp only [Option.map_eq_some_iff] at h
    obtain ⟨r, h1, rfl⟩ := h
    rw [List.map_cons, ← asBools_get h1]
theorem VRs_bools : ∀ {bs : List Bool} {xs : List Value}, VRs am π s.heap (bs.map V.bool) xs → xs = bs.map Value.bool
  | [], xs, h => by simpa [VRs] using h
  | b :: bs, xs, h => by
    simp only [List.map_cons, VRs] at h
    obtain ⟨x, xs', rfl, h1, h2⟩ := h
    simp only [VR] at h1
    rw [h1, VRs_bools h2]; rfl
theorem range_all (bs : List Bool) : (List.range bs.length).all (fun i => bs.getD i false) = bs.all id := by
  induction bs with
  | nil => rfl
  | cons b bs ih => simp only [List.length_cons, List.range_succ_eq_map, List.all_cons, List.all_map]; rw [← ih]; rfl
theorem walk_bools {l : Addr} {bs : List Bool} {P : Value → Shared → Prop} {E : Value → Shared → Prop} (hh : A.handled = none) (hl : s.heap.IsList l (List.toArray (bs.map Value.bool)))
    (hP : ∀ I fp wr n Pr St tr, n = bs.length → tr = (fun i => bs.getD i false) → Walks am.prog am.w A I fp wr n Pr St → (∀ s₂, s₂ = { s with heap := s.heap.push { cls := .type "list_iterator", data := .fields #[.ref l, .int 0 0] } } → St 0 s₂.heap) → TruthOf am.prog am.w A Pr tr → wr = [s.heap.objs.size] → I = s.heap.objs.size →
      P (.ref I) { s with heap := s.heap.push { cls := .type "list_iterator", data := .fields #[.ref l, .int 0 0] } }) :
    wpAny am.M A (pyIter (.ref l)) P E s := by
  refine wpAny_pyIter_list hl ?_
  obtain ⟨o, ho, _⟩ := id hl
  have hne : l ≠ s.heap.objs.size := Nat.ne_of_lt (Heap.lt_size ho)
  have W := Walks.list (prog := am.prog) (w := am.w) hh s.heap.objs.size l hne (List.toArray (bs.map Value.bool))
  refine hP _ _ _ _ _ _ _ (by simp) rfl W ?_ ?_ rfl rfl
  · rintro s₂ rfl
    exact ⟨⟨_, Heap.get?_push_size _ rfl, rfl, rfl⟩, hl.push _⟩
  · intro i v s' Q' E' hv hq
    simp only [List.getElem?_toArray, List.getElem?_map, Option.map_eq_some_iff] at hv
    obtain ⟨b, hb, rfl⟩ := hv
    refine wpAny_truthy_bool ?_
    have : bs.getD i false = b := by rw [List.getD_eq_getElem?_getD, hb]; rfl
    rw [← this]; exact hq
theorem op_all (hh : A.handled = none) (hr : HR am stack π Hc s.heap) (ha : VR am π s.heap a x) :
    JAt am stack A (call (.builtin "all") [x]) (R.opt (bf .all Hc a) Hc) (VR am) π s := by
  unfold bf
  cases hi : litems Hc a with
  | none => exact .inl rfl
  | some vs =>
    cases hb : asBools vs with
    | none => exact .inl (by simp only [Option.bind_some, hb]; rfl)
    | some bs =>
      simp only [Option.bind_some, hb, Option.map_some, R.opt_some]
      obtain ⟨l, xs, rfl, hl, hz, hv⟩ := litems_at hr ha hi
      rw [asBools_get hb] at hv
      rw [VRs_bools hv] at hl
      refine .inr (call_all_walk (walk_bools (A := A.in1) hh hl fun I fp wr n Pr St tr e1 e2 W hst htr hwr hI => ⟨I, fp, wr, n, Pr, St, tr, rfl, W, hst _ rfl, htr, fun h' tk k => ?_⟩))
      subst e1 e2 hwr
      rw [range_all]
      exact OkP.keeps (h' := h') (tk := tk) hr (fun b o e => k b o (by simp only [List.mem_singleton]; exact Nat.ne_of_lt (Heap.lt_size e)) (Heap.get?_push_of_some _ e)) rfl
end
set_option maxRecDepth 100000
section
variable {prog : Program} {w : World} {A : Around} {E : Value → Shared → Prop} {s : Shared}
end
section
variable {am : Amb} {stack : List Env} {A : Around} {π : List Addr} {s : Shared} {Hc : H}
end
set_option maxRecDepth 100000
theorem kit_none_int (K : Frag) : kitOne K (.type "NoneType") (.type "int") = some false := by kernel_rfl
theorem kit_none_bool (K : Frag) : kitOne K (.type "NoneType") (.type "bool") = some false := by kernel_rfl
theorem kit_none_list (K : Frag) : kitOne K (.type "NoneType") (.type "list") = some false := by kernel_rfl
theorem kit_none_tuple (K : Frag) : kitOne K (.type "NoneType") (.type "tuple") = some false := by kernel_rfl
theorem kit_bool_int (K : Frag) : kitOne K (.type "bool") (.type "int") = some true := by kernel_rfl
theorem kit_bool_bool (K : Frag) : kitOne K (.type "bool") (.type "bool") = some true := by kernel_rfl
theorem kit_bool_list (K : Frag) : kitOne K (.type "bool") (.type "list") = some false := by kernel_rfl
theorem kit_bool_tuple (K : Frag) : kitOne K (.type "bool") (.type "tuple") = some false := by kernel_rfl
theorem kit_int_int (K : Frag) : kitOne K (.type "int") (.type "int") = some true := by kernel_rfl
theorem kit_int_bool (K : Frag) : kitOne K (.type "int") (.type "bool") = some false := by kernel_rfl
theorem kit_int_list (K : Frag) : kitOne K (.type "int") (.type "list") = some false := by kernel_rfl
theorem kit_int_tuple (K : Frag) : kitOne K (.type "int") (.type "tuple") = some false := by kernel_rfl
theorem kit_str_int (K : Frag) : kitOne K (.type "str") (.type "int") = some false := by kernel_rfl
theorem kit_str_bool (K : Frag) : kitOne K (.type "str") (.type "bool") = some false := by kernel_rfl
theorem kit_str_list (K : Frag) : kitOne K (.type "str") (.type "list") = some false := by kernel_rfl
theorem kit_str_tuple (K : Frag) : kitOne K (.type "str") (.type "tuple") = some false := by kernel_rfl
theorem kit_tuple_int (K : Frag) : kitOne K (.type "tuple") (.type "int") = some false := by kernel_rfl
theorem kit_tuple_bool (K : Frag) : kitOne K (.type "tuple") (.type "bool") = some false := by kernel_rfl
theorem kit_tuple_list (K : Frag) : kitOne K (.type "tuple") (.type "list") = some false := by kernel_rfl
theorem kit_tuple_tuple (K : Frag) : kitOne K (.type "tuple") (.type "tuple") = some true := by kernel_rfl
theorem kit_list_int (K : Frag) : kitOne K (.type "list") (.type "int") = some false := by kernel_rfl
theorem kit_list_bool (K : Frag) : kitOne K (.type "list") (.type "bool") = some false := by kernel_rfl
theorem kit_list_list (K : Frag) : kitOne K (.type "list") (.type "list") = some true := by kernel_rfl
theorem kit_list_tuple (K : Frag) : kitOne K (.type "list") (.type "tuple") = some false := by kernel_rfl
theorem kit_dict_int (K : Frag) : kitOne K (.type "dict") (.type "int") = some false := by kernel_rfl
theorem kit_dict_bool (K : Frag) : kitOne K (.type "dict") (.type "bool") = some false := by kernel_rfl
theorem kit_dict_list (K : Frag) : kitOne K (.type "dict") (.type "list") = some false := by kernel_rfl
theorem kit_dict_tuple (K : Frag) : kitOne K (.type "dict") (.type "tuple") = some false := by kernel_rfl
noncomputable def tyVal : Ty → Value
  | .int => .type "int" | .bool => .type "bool" | .list => .type "list" | .tuple => .type "tuple" | .valueError => .type "ValueError"
  | .own _ => .none
noncomputable def Ty.plain (t : Ty) : Bool := t.casesOn true true true true false fun z_ => false
noncomputable def kindC : Option Cell → Option String
  | some (.list _) => some "list"
  | some (.dict _) => some "dict"
  | none => Option.none
noncomputable def kindOf (Hc : H) : V → Option String
  | .none => some "NoneType"
  | .bool _ => some "bool"
  | .int _ => some "int"
  | .str _ => some "str"
  | .tup _ => some "tuple"
  | .lst _ => some "list"
  | .dct => some "dict"
  | .ref i => kindC Hc[i]?
  | _ => Option.none
theorem isTy_ref (hc : Hc[i]? = o) (t : Ty) : isTy Hc (.ref i) t = refTy o t := congrArg (fun o => refTy o t) hc
theorem kind_ref (hc : Hc[i]? = o) : kindOf Hc (.ref i) = kindC o := congrArg kindC hc
theorem kit_listA (K : Frag) (ht : t.plain = true) : ∃ b, some (t == .list) = some b ∧ kitOne K (.type "list") (tyVal t) = some b := by
  cases t <;> first | exact ⟨_, rfl, kit_list_int K⟩ | exact ⟨_, rfl, kit_list_bool K⟩ | exact ⟨_, rfl, kit_list_list K⟩ | exact ⟨_, rfl, kit_list_tuple K⟩ | cases ht
theorem kit_dictA (K : Frag) (ht : t.plain = true) : ∃ b, some false = some b ∧ kitOne K (.type "dict") (tyVal t) = some b := by
  cases t <;> first | exact ⟨_, rfl, kit_dict_int K⟩ | exact ⟨_, rfl, kit_dict_bool K⟩ | exact ⟨_, rfl, kit_dict_list K⟩ | exact ⟨_, rfl, kit_dict_tuple K⟩ | cases ht
theorem kit_all (K : Frag) (hk : kindOf Hc a = some k) (ht : t.plain = true) : ∃ b, isTy Hc a t = some b ∧ kitOne K (.type k) (tyVal t) = some b := by
  cases a with
  | undef => cases hk
  | exc c => cases hk
  | none => cases hk; cases t <;> first | exact ⟨_, rfl, kit_none_int K⟩ | exact ⟨_, rfl, kit_none_bool K⟩ | exact ⟨_, rfl, kit_none_list K⟩ | exact ⟨_, rfl, kit_none_tuple K⟩ | cases ht
  | bool b => cases hk; cases t <;> first | exact ⟨_, rfl, kit_bool_int K⟩ | exact ⟨_, rfl, kit_bool_bool K⟩ | exact ⟨_, rfl, kit_bool_list K⟩ | exact ⟨_, rfl, kit_bool_tuple K⟩ | cases ht
  | int i => cases hk; cases t <;> first | exact ⟨_, rfl, kit_int_int K⟩ | exact ⟨_, rfl, kit_int_bool K⟩ | exact ⟨_, rfl, kit_int_list K⟩ | exact ⟨_, rfl, kit_int_tuple K⟩ | cases ht
  | str x => cases hk; cases t <;> first | exact ⟨_, rfl, kit_str_int K⟩ | exact ⟨_, rfl, kit_str_bool K⟩ | exact ⟨_, rfl, kit_str_list K⟩ | exact ⟨_, rfl, kit_str_tuple K⟩ | cases ht
  | tup vs => cases hk; cases t <;> first | exact ⟨_, rfl, kit_tuple_int K⟩ | exact ⟨_, rfl, kit_tuple_bool K⟩ | exact ⟨_, rfl, kit_tuple_list K⟩ | exact ⟨_, rfl, kit_tuple_tuple K⟩ | cases ht
  | lst vs => cases hk; exact kit_listA K ht
  | dct => cases hk; exact kit_dictA K ht
  | ref i =>
    cases hc : Hc[i]? with
    | none => rw [kind_ref hc] at hk; cases hk
    | some c =>
      cases c with
      | list vs => rw [kind_ref hc] at hk; cases hk; rw [isTy_ref hc]; exact kit_listA K ht
      | dict es => rw [kind_ref hc] at hk; cases hk; rw [isTy_ref hc]; exact kit_dictA K ht
section
variable {am : Amb} {stack : List Env} {A : Around} {π : List Addr} {s : Shared} {Hc : H}
set_option tactic.hygienic true in
theorem kitx_at (hr : HR am stack π Hc s.heap) (ha : VR am π s.heap a x) (hne : kindOf Hc a ≠ Option.none) : ∃ k P, kindOf Hc a = some k ∧ KitX am.K x (.type k) P ∧ P s.heap ∧ x ≠ .builtin "__main__.__loader__#opaque" := by
  cases a <;> simp only [VR] at ha <;> try (exact ha.elim)
  · subst ha; exact ⟨_, _, rfl, kitx_none, trivial, by simp⟩
  · subst ha; exact ⟨_, _, rfl, kitx_bool, trivial, by simp⟩
  · obtain ⟨t, rfl⟩ := ha; exact ⟨_, _, rfl, kitx_int, trivial, by simp⟩
  · obtain ⟨t, rfl⟩ := ha; exact ⟨_, _, rfl, kitx_str, trivial, by simp⟩
  · obtain ⟨l, xs, rfl, _, ⟨o, ho, hc, _⟩, _⟩ := ha; exact ⟨_, _, rfl, kitx_tuple, ⟨o, ho, hc⟩, by simp⟩
  · obtain ⟨l, xs, rfl, _, ⟨o, ho, hc, _⟩, _⟩ := ha; exact ⟨_, _, rfl, kitx_list, ⟨o, ho, hc⟩, by simp⟩
  · rename_i i
    obtain ⟨l, rfl, hl⟩ := ha
    cases hc : Hc[i]? with
    | none => exact absurd (kind_ref hc) hne
    | some c =>
      cases c with
      | list vs =>
        refine hold fun z_ k_ => ?_
        obtain ⟨xs, ⟨o, n, ho, hcl, _⟩, _⟩ := (hr.cell i _ l hc hl).list
        refine k_ ?_
        exact ⟨"list", _, kind_ref hc, kitx_list, ⟨o, ho, hcl⟩, by simp⟩
      | dict es =>
        obtain ⟨o, xs, ho, ⟨_, arr, ep, hcl, _⟩, _⟩ := hr.cell i _ l hc hl
        exact ⟨"dict", _, kind_ref hc, kitx_dict, ⟨o, ho, hcl⟩, by simp⟩
  · obtain ⟨l, o, es, ep, rfl, _, ho, hc, _⟩ := ha; exact ⟨_, _, rfl, kitx_dict, ⟨o, ho, hc⟩, by simp⟩
theorem isTy_kind (h : isTy Hc a t = some b) : kindOf Hc a ≠ Option.none := by
  cases a with
  | undef => cases h
  | exc c => cases h
  | ref i =>
    cases hc : Hc[i]? with
    | none => rw [isTy_ref hc] at h; cases h
    | some c => rw [kind_ref hc]; cases c <;> exact fun q => nomatch q
  | _ => exact fun q => nomatch q
theorem op_isi (hK : Frag.In am.K am.B) (hr : HR am stack π Hc s.heap) (ha : VR am π s.heap a x) (ht : t.plain = true) :
    JAt am stack A (call (.builtin "isinstance") [x, tyVal t]) (R.opt ((isTys Hc a [t]).map V.bool) Hc) (VR am) π s := by
  cases hb : isTy Hc a t with
  | none => exact .inl (by simp only [isTys, hb]; rfl)
  | some b =>
    refine hold fun z_ k_ => ?_
    obtain ⟨k, P, hk, Z, p, hx⟩ := kitx_at hr ha (isTy_kind hb)
    refine k_ ?_
    obtain ⟨b', h1, h2⟩ := kit_all am.K hk ht
    rw [hb] at h1; cases h1
    have e : isTys Hc a [t] = some b := by simp only [isTys, hb]; cases b <;> rfl
    rw [e]
    exact .inr (kia_one Z (hK.keeps hr.base) p h2 hx fun tk => OkP.tok hr rfl)
theorem op_isi2 (hK : Frag.In am.K am.B) (hr : HR am stack π Hc s.heap) (ha : VR am π s.heap a x) (ht : ts.all Ty.plain = true) (hts : ts ≠ []) (htp : s.heap.get? tp = some ⟨.type "tuple", dd, .seq (List.toArray (ts.map tyVal)) n, sl⟩) :
    JAt am stack A (call (.builtin "isinstance") [x, .ref tp]) (R.opt ((isTys Hc a ts).map V.bool) Hc) (VR am) π s := by
  cases hb : isTys Hc a ts with
  | none => exact .inl rfl
  | some b =>
    by_cases hne : kindOf Hc a = Option.none
    · cases ts with
      | nil => exact absurd rfl hts
      | cons t ts =>
        simp only [isTys] at hb
        cases hq : isTy Hc a t with
        | none => simp [hq] at hb
        | some b' => exact absurd hne (isTy_kind hq)
    · refine hold fun z_ k_ => ?_
      obtain ⟨k, P, hk, Z, p, hx⟩ := kitx_at hr ha hne
      refine k_ ?_
      have key : ∀ ts : List Ty, ts.all Ty.plain = true → ∀ b, isTys Hc a ts = some b → kitAny am.K (.type k) (ts.map tyVal) = some b := by
        intro ts
        induction ts with
        | nil => intro _ b h; simpa [isTys, kitAny] using h
        | cons t ts ih =>
          intro ht b h
          simp only [List.all_cons, Bool.and_eq_true] at ht
          obtain ⟨b', h1, h2⟩ := kit_all am.K hk ht.1
          simp only [isTys, h1] at h
          simp only [List.map_cons, kitAny, h2]
          cases b' with
          | true => exact h
          | false => exact ih ht.2 b h
      exact .inr (kia_tup Z (hK.keeps hr.base) p htp (key ts ht b hb) hx fun tk => OkP.tok hr rfl)
theorem cut_clip (n : Nat) (i : Int) : clipAt n i = cut n i := by
  unfold clipAt cut
  by_cases hi : i < 0
  · have le : i + n ≤ n := by
      have := Int.add_le_add_right (Int.le_of_lt hi) (n : Int)
      rwa [Int.zero_add] at this
    rw [if_pos hi, if_pos hi, Int.min_eq_left le]
    rcases Int.le_total 0 (i + n) with h | h
    · rw [Int.max_eq_right h]
    · rw [Int.max_eq_left h]; exact (Int.toNat_of_nonpos h).symm
  · rw [if_neg hi, if_neg hi]
    obtain ⟨k, rfl⟩ := Int.eq_ofNat_of_zero_le (Int.not_lt.1 hi)
    rcases Nat.le_total k n with h | h
    · rw [Int.min_eq_left (Int.ofNat_le.2 h), Int.max_eq_right (Int.natCast_nonneg k), Int.toNat_natCast, Nat.min_eq_left h]
    · rw [Int.min_eq_right (Int.ofNat_le.2 h), Int.max_eq_right (Int.natCast_nonneg n), Int.toNat_natCast, Int.toNat_natCast, Nat.min_eq_right h]
theorem slice_pick (xs : List Value) (lo hi : Option Int) : slicePick (List.toArray xs) lo hi none = List.toArray (slc xs lo hi) := by
  rw [slicePick_plain]
  unfold slc
  simp only [List.size_toArray]
  have e1 : (lo.elim 0 (clipAt xs.length)) = (match lo with | some i => cut xs.length i | none => 0) := by cases lo <;> simp [cut_clip]
  have e2 : (hi.elim xs.length (clipAt xs.length)) = (match hi with | some i => cut xs.length i | none => xs.length) := by cases hi <;> simp [cut_clip]
  rw [e1, e2]
  congr 1
  first | (rw [List.drop_take]; done) | (rw [List.drop_take]; rfl)
theorem VRs.slc (lo hi : Option Int) (e : VRs am π h vs xs) : VRs am π h (Mine.slc vs lo hi) (Mine.slc xs lo hi) := by
  unfold Mine.slc
  rw [e.len]
  exact (e.take _).drop _
theorem slc_len {α : Type} (xs : List α) (lo hi : Option Int) : (slc xs lo hi).length ≤ xs.length := by
  unfold slc
  rw [List.length_drop, List.length_take]
  exact Nat.le_trans (Nat.sub_le ..) (Nat.min_le_right ..)
noncomputable def PartR : Option V → Option Int → Value → Prop
  | none, lo, x => lo = none ∧ x = .none
  | some v, lo, x => ∃ i t, v = .int i ∧ lo = some i ∧ x = .int i t
theorem PartR.is {v : Option V} {lo : Option Int} {x : Value} (h : PartR v lo x) : IsPart x lo := by
  cases v with
  | none => obtain ⟨rfl, rfl⟩ := h; exact .none
  | some v => obtain ⟨i, t, _, rfl, rfl⟩ := h; exact .int i t
theorem wp_slice {value slice : Expr} {a : V} {x : Value} {vs : List V} {lo hi : Option Int} {vl vu : Value} {Q : Value → Shared → Prop} {E : Value → Shared → Prop} (hr : HR am stack π Hc s.heap) (ha : VR am π s.heap a x) (hi' : litems Hc a = some vs) (pl : IsPart vl lo) (pu : IsPart vu hi)
    (h : ∀ y s1 s', Step (Fs stack) π s π s1 → HR am stack π Hc s1.heap → (slc vs lo hi).length ≤ 1000000 → NewL am π s1 (slc vs lo hi) y s' → Q y s') :
    wpAny am.M A (newFields "slice" [vl, vu, .none]) (fun i s₁ => wpAny am.M A (subscriptTail value slice x i) Q E s₁) E s := by
  refine hold fun z_ k_ => ?_
  obtain ⟨l, xs, rfl, hl, hz, hv⟩ := litems_at hr ha hi'
  refine k_ ?_
  have e := hv.len
  unfold newFields
  refine wpAny_newObj_type ?_
  have k : ∀ b o, s.heap.get? b = some o → (s.heap.push { cls := .type "slice", data := .fields #[vl, vu, .none] }).get? b = some o := fun b o q => Heap.get?_push_of_some _ q
  refine sub_tail (s := { s with heap := s.heap.push { cls := .type "slice", data := .fields #[vl, vu, .none] } }) (hl.push _).typeIs list_getitem_lookup
    (wpAny_getItem_list_slice (hl.push _) (Heap.IsSliceOf.new ..) pl pu .none (by simp) ?_ (by simp only [List.size_toArray]; have := mil_le_line; omega))
  rw [slice_pick]
  have n := NewL.push (am := am) (π := π) (s := { s with heap := s.heap.push { cls := .type "slice", data := .fields #[vl, vu, .none] } }) (o := { cls := .type "list", data := .seq (List.toArray (slc xs lo hi)) }) (n := 0) (tk := s.toks) ((hv.slc lo hi).keeps k) rfl rfl rfl
  exact h _ _ _ (Step.keeps (tk := s.toks) k) (hr.keeps k) (Nat.le_trans (slc_len _ _ _) hz) n
end
structure Sc where
  M : Model
  A : Around
  E : Value → Shared → Prop
  s : Shared
  κ : SortKind
  it : Array Keyed
  N : Nat
  r : Nat → Nat
  cmp : ∀ i j (C : Bool → Shared → Prop), i < N → j < N → C (decide (r i < r j)) s → wpAny M A (keyLt' κ (kas_item it i).1 (kas_item it j).1) C (fun z_ z_ => False) s
abbrev SM (α : Type) := StateT SortSt Sem α
abbrev SQ (α : Type) := α → SortSt → Prop
noncomputable def Sc.W (X : Sc) {α : Type} (m : SM α) (Q : SQ α) (st : SortSt) : Prop := wpS X.M X.A X.E X.s m Q st
noncomputable def Sc.arr (X : Sc) (l : List Nat) : Array Keyed := (l.map (kas_item X.it)).toArray
noncomputable def Sc.st (X : Sc) (p : List Nat) (pd : List (Nat × Nat × Nat)) (g : Nat) : SortSt := SortSt.mk' X.κ (X.arr p) pd.toArray g none
section
variable {X : Sc} {α β : Type} {st : SortSt}
theorem W.pure {a : α} {Q : SQ α} (h : Q a st) : X.W (Pure.pure a) Q st := wpS_pure h
theorem W.bind {m : SM α} {f : α → SM β} {Q : SQ β} (h : X.W m (fun a st' => X.W (f a) Q st') st) : X.W (m >>= f) Q st := wpS_bind h
theorem W.mono (h : X.W m Q st) (hq : ∀ a st', Q a st' → Q' a st') : X.W m Q' st := wpS_mono h hq
theorem W.get {Q : SQ SortSt} (h : Q st st) : X.W MonadState.get Q st := wpS_get h
theorem W.modify {f : SortSt → SortSt} (h : Q ⟨⟩ (f st)) : X.W (_root_.modify f) Q st := wpS_modify h
theorem W.rule (h : Q ⟨⟩ st) : X.W (liftM (PySem.rule n)) Q st := wpS_lift (wpAny_rule ⟨rfl, h⟩)
theorem W.elem (e : l[i]? = some x) (h : Q (kas_item X.it x) st) : X.W (elem' (X.arr l) i) Q st := by
  have : (X.arr l)[i]? = some (kas_item X.it x) := by unfold Sc.arr; rw [List.getElem?_toArray, List.getElem?_map, e]; rfl
  rw [elem'_eq, this]; exact W.pure h
theorem W.lt (hi : i < X.N) (hj : j < X.N) (h : Q (some (decide (X.r i < X.r j))) (X.st p pd g)) : X.W (lt' (kas_item X.it i) (kas_item X.it j)) Q (X.st p pd g) := by
  rw [lt'_eq]
  exact W.bind (W.get (W.bind (wpS_lift (wpAny_attempt (wpAny_mono (X.cmp i j (fun c s' => s' = X.s ∧ c = decide (X.r i < X.r j)) hi hj ⟨rfl, rfl⟩) (fun c s' hc => ⟨hc.1, by rw [hc.2]; exact W.pure h⟩) fun z_ z_ hF => hF.elim)))))
noncomputable def Nx (Q I : SQ β) : SQ (ForInStep β)
  | .done c, st => Q c st
  | .yield c, st => I c st
theorem W.loop {f : Nat → β → SM (ForInStep β)} (I : Nat → β → SortSt → Prop) 
    (hstep : ∀ i c st, i < n → I i c st → X.W (f i c) (Nx Q (I (i + 1))) st)
    (hend : ∀ c st, I n c st → Q c st) (h : I 0 c st) : X.W (forIn [0:n] c f) Q st :=
  wpS_forRange I (fun i c st z_ hi h => W.mono (hstep i c st hi h) fun r st' h => by cases r <;> exact h) (fun c st h => hend c st (by rwa [Nat.max_eq_right (Nat.zero_le n)] at h)) h
end
noncomputable def gallop' : Bool → Keyed → Array Keyed → Nat → Nat → Nat → SM (Option Nat) := sortPriv% PySem.Builtin.gallop
abbrev GSt := Option (Option Nat) × Nat × Nat
noncomputable def gBin (beyond : Nat → SM (Option Bool)) (_ : Nat) (s : GSt) : SM (ForInStep GSt) :=
  if s.2.1 ≥ s.2.2 then pure (.done (none, s.2.1, s.2.2)) else do
    let x ← beyond (s.2.1 + (s.2.2 - s.2.1) / 2)
    match x with
    | some more => if more = true then pure (.yield (none, s.2.1 + (s.2.2 - s.2.1) / 2 + 1, s.2.2)) else pure (.yield (none, s.2.1, s.2.1 + (s.2.2 - s.2.1) / 2))
    | _ => pure (.done (some none, s.2.1, s.2.2))
noncomputable def gEnd (beyond : Nat → SM (Option Bool)) (n lo hi : Nat) : SM (Option Nat) := do
  let s ← forIn [0:n] ((none, lo, hi) : GSt) (gBin beyond)
  match s.1 with
  | some r => pure r
  | none => pure (some s.2.2)
noncomputable def gUp (beyond : Nat → SM (Option Bool)) (hint m : Nat) (_ : Nat) (s : GSt) : SM (ForInStep GSt) :=
  if s.2.2 ≥ m then pure (.done (none, s.2.1, s.2.2)) else do
    let x ← beyond (hint + s.2.2)
    match x with
    | some more => if (!more) = true then pure (.done (none, s.2.1, s.2.2)) else pure (.yield (none, s.2.2, 2 * s.2.2 + 1))
    | _ => pure (.done (some none, s.2.1, s.2.2))
noncomputable def gDn (beyond : Nat → SM (Option Bool)) (hint m : Nat) (_ : Nat) (s : GSt) : SM (ForInStep GSt) :=
  if s.2.2 ≥ m then pure (.done (none, s.2.1, s.2.2)) else do
    let x ← beyond (hint - s.2.2)
    match x with
    | some found => if found = true then pure (.done (none, s.2.1, s.2.2)) else pure (.yield (none, s.2.2, 2 * s.2.2 + 1))
    | _ => pure (.done (some none, s.2.1, s.2.2))
noncomputable def gUps (beyond : Nat → SM (Option Bool)) (n hint : Nat) : SM (Option Nat) := do
  let s ← forIn [0:n] ((none, 0, 1) : GSt) (gUp beyond hint (n - hint))
  match s.1 with
  | some r => pure r
  | none => gEnd beyond n (hint + s.2.1 + 1) (hint + min s.2.2 (n - hint))
noncomputable def gDns (beyond : Nat → SM (Option Bool)) (n hint : Nat) : SM (Option Nat) := do
  let s ← forIn [0:n] ((none, 0, 1) : GSt) (gDn beyond hint (hint + 1))
  match s.1 with
  | some r => pure r
  | none => gEnd beyond n (hint + 1 - min s.2.2 (hint + 1)) (hint - s.2.1)
noncomputable def gAll (beyond : Nat → SM (Option Bool)) (n hint : Nat) : SM (Option Nat) := do
  let x ← beyond hint
  match x with
  | some right => if right = true then gUps beyond n hint else gDns beyond n hint
  | _ => pure none
noncomputable def gBey (left : Bool) (key : Keyed) (arr : Array Keyed) (base i : Nat) : SM (Option Bool) := do
  let x ← elem' arr (base + i)
  if left = true then lt' x key else do
    let y ← lt' key x
    pure (y.map (!·))
theorem gallop'_do (left : Bool) (key : Keyed) (arr : Array Keyed) (base n hint : Nat) : gallop' left key arr base n hint = (do
  let beyond (i : Nat) : SM (Option Bool) := do
    let x ← elem' arr (base + i)
    if left then lt' x key else return (← lt' key x).map (!·)
  let mut lastofs := 0
  let mut ofs := 1
  let mut lo := 0
  let mut hi := 0
  let some right ← beyond hint | return none
  if right then
    let maxofs := n - hint
    for _ in [0:n] do
      if ofs ≥ maxofs then break
      let some more ← beyond (hint + ofs) | return none
      if !more then break
      lastofs := ofs
      ofs := 2 * ofs + 1
    lo := hint + lastofs + 1
    hi := hint + min ofs maxofs
  else
    let maxofs := hint + 1
    for _ in [0:n] do
      if ofs ≥ maxofs then break
      let some found ← beyond (hint - ofs) | return none
      if found then break
      lastofs := ofs
      ofs := 2 * ofs + 1
    lo := hint + 1 - min ofs maxofs
    hi := hint - lastofs
  for _ in [0:n] do
    if lo ≥ hi then break
    let m := lo + (hi - lo) / 2
    let some more ← beyond m | return none
    if more then lo := m + 1 else hi := m
  return some hi) := rfl
theorem gallop'_eq (left : Bool) (key : Keyed) (arr : Array Keyed) (base n hint : Nat) : gallop' left key arr base n hint = gAll (gBey left key arr base) n hint := by
  rw [gallop'_do]
  refine congrArg (bind _) (funext fun x => ?_)
  cases x with
  | none => rfl
  | some x => cases x <;> exact congrArg (bind _) (funext fun ⟨x, y, z⟩ => by
      cases x with
      | some x => rfl
      | none => exact congrArg (bind _) (funext fun ⟨x, y, z⟩ => by cases x <;> rfl))
section
variable {X : Sc} {st : SortSt} {bey : Nat → SM (Option Bool)} {B : Nat → Bool} {n hint : Nat}
structure GOk (B : Nat → Bool) (n h : Nat) : Prop where
  le : h ≤ n
  lo : ∀ i, i < h → B i = true
  hi : ∀ i, h ≤ i → i < n → B i = false
structure GIn (B : Nat → Bool) (n lo hi : Nat) : Prop where
  lh : lo ≤ hi
  hn : hi ≤ n
  lo : ∀ i, i < lo → B i = true
  hi : ∀ i, hi ≤ i → i < n → B i = false
structure GB (X : Sc) (bey : Nat → SM (Option Bool)) (B : Nat → Bool) (n : Nat) (st : SortSt) : Prop where
  ask : ∀ i Q, i < n → Q (some (B i)) st → X.W (bey i) Q st
  mono : ∀ i j, i ≤ j → j < n → B j = true → B i = true
theorem GB.no (b : GB X bey B n st) (hij : i ≤ j) (hj : j < n) (h : B i = false) : B j = false := by
  cases e : B j with
  | false => rfl
  | true => rw [b.mono i j hij hj e] at h; exact h
theorem n_dec (h : a ≤ n - x) (hb : b < a) : b ≤ n - (x + 1) := Nat.le_pred_of_lt (Nat.lt_of_lt_of_le hb h)
theorem n_mid {lo hi : Nat} (h : ¬ lo ≥ hi) : lo + (hi - lo) / 2 < hi := Nat.add_lt_of_lt_sub' (Nat.div_lt_self (Nat.sub_pos_of_lt (Nat.lt_of_not_le h)) (by decide))
theorem n_end {lo hi n : Nat} (h : hi - lo ≤ n - n) : hi ≤ lo := Nat.le_of_sub_eq_zero (Nat.le_zero.1 (by rwa [Nat.sub_self] at h))
theorem n_dbl (o : Nat) : o < 2 * o + 1 := Nat.lt_succ_of_le (Nat.le_mul_of_pos_left o (by decide))
theorem gEnd_ok (b : GB X bey B n st) {lo hi : Nat} (g : GIn B n lo hi) : X.W (gEnd bey n lo hi) (fun k st' => st' = st ∧ ∃ h, k = some h ∧ GOk B n h) st := by
  unfold gEnd
  refine W.bind (W.loop (I := fun x c st' => st' = st ∧ ∃ lo hi, c = (none, lo, hi) ∧ GIn B n lo hi ∧ hi - lo ≤ n - x) (Q := fun c st' => X.W (match c.1 with
    | some r => pure r
    | none => pure (some c.2.2)) (fun k st' => st' = st ∧ ∃ h, k = some h ∧ GOk B n h) st') ?_ ?_ ⟨rfl, lo, hi, rfl, g, Nat.le_trans (Nat.sub_le _ _) g.hn⟩)
  · rintro x c st' hx ⟨rfl, lo, hi, rfl, g, hm⟩
    unfold gBin
    dsimp only
    by_cases hge : lo ≥ hi
    · rw [if_pos hge]
      have : lo = hi := Nat.le_antisymm g.lh hge
      subst this
      exact W.pure (W.pure ⟨rfl, lo, rfl, g.hn, g.lo, g.hi⟩)
    · rw [if_neg hge]
      obtain ⟨m, em⟩ : ∃ m, lo + (hi - lo) / 2 = m := ⟨_, rfl⟩
      rw [em]
      have h1 : lo ≤ m := by rw [← em]; exact Nat.le_add_right ..
      have h2 : m < hi := by rw [← em]; exact n_mid hge
      have mn := Nat.lt_of_lt_of_le h2 g.hn
      refine W.bind (b.ask m _ mn ?_)
      dsimp only
      cases e : B m with
      | true =>
        rw [if_pos rfl]
        exact W.pure ⟨rfl, m + 1, hi, rfl, ⟨h2, g.hn, fun i hi => b.mono i m (Nat.le_of_lt_succ hi) mn e, g.hi⟩, n_dec hm (Nat.sub_lt_sub_left (Nat.lt_of_not_le hge) (Nat.lt_succ_of_le h1))⟩
      | false =>
        rw [if_neg Bool.false_ne_true]
        exact W.pure ⟨rfl, lo, m, rfl, ⟨h1, Nat.le_of_lt mn, g.lo, fun i hi hn => b.no hi hn e⟩, n_dec hm (Nat.sub_lt_sub_right h1 h2)⟩
  · rintro c st' ⟨rfl, lo, hi, rfl, g, hm⟩
    have : lo = hi := Nat.le_antisymm g.lh (n_end hm)
    subst this
    exact W.pure ⟨rfl, lo, rfl, g.hn, g.lo, g.hi⟩
theorem gUps_ok (b : GB X bey B n st) (hh : hint < n) (h0 : B hint = true) : X.W (gUps bey n hint) (fun k st' => st' = st ∧ ∃ h, k = some h ∧ GOk B n h) st := by
  unfold gUps
  have fin : ∀ l o, B (hint + l) = true → l < o → hint + l < n → (o < n - hint → B (hint + o) = false) → X.W (gEnd bey n (hint + l + 1) (hint + min o (n - hint))) (fun k st' => st' = st ∧ ∃ h, k = some h ∧ GOk B n h) st := fun l o h1 h2 h3 h4 =>
    gEnd_ok b ⟨Nat.add_le_add_left (Nat.le_min.2 ⟨h2, Nat.lt_sub_of_add_lt (by rw [Nat.add_comm]; exact h3)⟩) hint, Nat.le_trans (Nat.add_le_add_left (Nat.min_le_right ..) hint) (Nat.le_of_eq (Nat.add_sub_cancel' (Nat.le_of_lt hh))), fun i hi => b.mono i _ (Nat.le_of_lt_succ hi) h3 h1, fun i hi hn => by
      by_cases ho : o < n - hint
      · rw [Nat.min_eq_left (Nat.le_of_lt ho)] at hi
        exact b.no hi hn (h4 ho)
      · rw [Nat.min_eq_right (Nat.le_of_not_lt ho), Nat.add_sub_cancel' (Nat.le_of_lt hh)] at hi
        exact absurd hn (Nat.not_lt_of_le hi)⟩
  refine W.bind (W.loop (I := fun x c st' => st' = st ∧ ∃ l o, c = (none, l, o) ∧ B (hint + l) = true ∧ l < o ∧ hint + l < n ∧ x < o) (Q := fun c st' => X.W (match c.1 with
    | some r => pure r
    | none => gEnd bey n (hint + c.2.1 + 1) (hint + min c.2.2 (n - hint))) (fun k st' => st' = st ∧ ∃ h, k = some h ∧ GOk B n h) st') ?_ ?_ ⟨rfl, 0, 1, rfl, h0, Nat.one_pos, hh, Nat.one_pos⟩)
  · rintro x c st' hx ⟨rfl, l, o, rfl, h1, h2, h3, h4⟩
    unfold gUp
    dsimp only
    by_cases hge : o ≥ n - hint
    · rw [if_pos hge]
      exact W.pure (fin l o h1 h2 h3 fun h => absurd hge (Nat.not_le_of_lt h))
    · rw [if_neg hge]
      have lt : hint + o < n := Nat.add_lt_of_lt_sub' (Nat.lt_of_not_le hge)
      refine W.bind (b.ask _ _ lt ?_)
      dsimp only
      cases e : B (hint + o) with
      | false => rw [if_pos (show (!false) = true from rfl)]; exact W.pure (fin l o h1 h2 h3 fun z_ => e)
      | true => rw [if_neg (by decide)]; exact W.pure ⟨rfl, o, 2 * o + 1, rfl, e, n_dbl o, lt, Nat.lt_of_le_of_lt (Nat.succ_le_of_lt h4) (n_dbl o)⟩
  · rintro c st' ⟨rfl, l, o, rfl, h1, h2, h3, h4⟩
    exact fin l o h1 h2 h3 fun h => absurd (Nat.lt_trans h4 h) (Nat.not_lt_of_le (Nat.sub_le ..))
theorem n_dn (h2 : l < o) (h3 : l ≤ hint) : hint + 1 - min o (hint + 1) ≤ hint - l := by omega
theorem gDns_ok (b : GB X bey B n st) (hh : hint < n) (h0 : B hint = false) : X.W (gDns bey n hint) (fun k st' => st' = st ∧ ∃ h, k = some h ∧ GOk B n h) st := by
  unfold gDns
  have fin : ∀ l o, B (hint - l) = false → l < o → l ≤ hint → (o < hint + 1 → B (hint - o) = true) → X.W (gEnd bey n (hint + 1 - min o (hint + 1)) (hint - l)) (fun k st' => st' = st ∧ ∃ h, k = some h ∧ GOk B n h) st := fun l o h1 h2 h3 h4 =>
    gEnd_ok b ⟨n_dn h2 h3, Nat.le_trans (Nat.sub_le ..) (Nat.le_of_lt hh), fun i hi => by
      by_cases ho : o < hint + 1
      · rw [Nat.min_eq_left (Nat.le_of_lt ho), Nat.succ_sub (Nat.le_of_lt_succ ho)] at hi
        exact b.mono i _ (Nat.le_of_lt_succ hi) (Nat.lt_of_le_of_lt (Nat.sub_le ..) hh) (h4 ho)
      · rw [Nat.min_eq_right (Nat.le_of_not_lt ho), Nat.sub_self] at hi
        exact absurd hi (Nat.not_lt_zero _), fun i hi hn => b.no hi hn h1⟩
  refine W.bind (W.loop (I := fun x c st' => st' = st ∧ ∃ l o, c = (none, l, o) ∧ B (hint - l) = false ∧ l < o ∧ l ≤ hint ∧ x < o) (Q := fun c st' => X.W (match c.1 with
    | some r => pure r
    | none => gEnd bey n (hint + 1 - min c.2.2 (hint + 1)) (hint - c.2.1)) (fun k st' => st' = st ∧ ∃ h, k = some h ∧ GOk B n h) st') ?_ ?_ ⟨rfl, 0, 1, rfl, h0, Nat.one_pos, Nat.zero_le _, Nat.one_pos⟩)
  · rintro x c st' hx ⟨rfl, l, o, rfl, h1, h2, h3, h4⟩
    unfold gDn
    dsimp only
    by_cases hge : o ≥ hint + 1
    · rw [if_pos hge]
      exact W.pure (fin l o h1 h2 h3 fun h => absurd hge (Nat.not_le_of_lt h))
    · rw [if_neg hge]
      refine W.bind (b.ask _ _ (Nat.lt_of_le_of_lt (Nat.sub_le _ _) hh) ?_)
      dsimp only
      cases e : B (hint - o) with
      | true => rw [if_pos rfl]; exact W.pure (fin l o h1 h2 h3 fun z_ => e)
      | false => rw [if_neg Bool.false_ne_true]; exact W.pure ⟨rfl, o, 2 * o + 1, rfl, e, n_dbl o, Nat.le_of_lt_succ (Nat.lt_of_not_le hge), Nat.lt_of_le_of_lt (Nat.succ_le_of_lt h4) (n_dbl o)⟩
  · rintro c st' ⟨rfl, l, o, rfl, h1, h2, h3, h4⟩
    exact fin l o h1 h2 h3 fun h => absurd (Nat.lt_of_lt_of_le (Nat.lt_trans h4 h) hh) (Nat.lt_irrefl _)
theorem gAll_ok (b : GB X bey B n st) (hh : hint < n) : X.W (gAll bey n hint) (fun k st' => st' = st ∧ ∃ h, k = some h ∧ GOk B n h) st := by
  unfold gAll
  refine W.bind (b.ask hint _ hh ?_)
  dsimp only
  cases e : B hint with
  | true => rw [if_pos rfl]; exact gUps_ok b hh e
  | false => rw [if_neg Bool.false_ne_true]; exact gDns_ok b hh e
abbrev Sc.Up (X : Sc) (l : List Nat) : Prop := l.Pairwise fun x y => X.r x ≤ X.r y
abbrev Sc.In (X : Sc) (l : List Nat) : Prop := ∀ x ∈ l, x < X.N
end
theorem at_drop {α : Type} {l : List α} {i : Nat} (h : i < l.length) : ∃ y, l[i]? = some y ∧ l.drop i = y :: l.drop (i + 1) := ⟨l[i], List.getElem?_eq_getElem h, List.drop_eq_getElem_cons h⟩
section
variable {X : Sc}
theorem arr_size (l : List Nat) : (X.arr l).size = l.length := by unfold Sc.arr; rw [List.size_toArray, List.length_map]
theorem arr_push (o : List Nat) (y : Nat) : (X.arr o).push (kas_item X.it y) = X.arr (o ++ [y]) := by unfold Sc.arr; rw [List.push_toArray, List.map_append]; rfl
theorem arr_app (o l : List Nat) : X.arr o ++ X.arr l = X.arr (o ++ l) := by unfold Sc.arr; rw [List.append_toArray, List.map_append]
theorem arr_ext (l : List Nat) (i j : Nat) : (X.arr l).extract i j = X.arr ((l.drop i).take (j - i)) := by unfold Sc.arr; rw [List.extract_toArray, List.extract_eq_take_drop, List.map_take, List.map_drop]
theorem arr_end (l : List Nat) (i : Nat) : (X.arr l).extract i (X.arr l).size = X.arr (l.drop i) := by rw [arr_ext, arr_size, List.take_of_length_le (by rw [List.length_drop]; exact Nat.le_refl _)]
theorem up_head (h : X.Up (x :: l)) (hy : X.r y ≤ X.r x) : ∀ z ∈ x :: l, X.r y ≤ X.r z := fun z hz => by
  rcases List.mem_cons.1 hz with rfl | hz
  · exact hy
  · exact Nat.le_trans hy ((List.pairwise_cons.1 h).1 z hz)
structure ML (X : Sc) (a b o : List Nat) (ia ib : Nat) : Prop where
  pm : (o ++ a.drop ia ++ b.drop ib).Perm (a ++ b)
  ua : X.Up (o ++ a.drop ia)
  ub : X.Up (o ++ b.drop ib)
variable {a b o : List Nat} {ia ib : Nat}
theorem ML.swap (h : ML X a b o ia ib) : ML X b a o ib ia := by
  have e := h.pm.trans List.perm_append_comm
  rw [List.append_assoc] at e
  exact ⟨by rw [List.append_assoc]; exact (List.perm_append_comm.append_left o).trans e, h.ub, h.ua⟩
theorem ML.move (h : ML X a b o ia ib) (e : a.drop ia = L1 ++ L2) (hl : ∀ x ∈ L1, ∀ y ∈ b.drop ib, X.r x ≤ X.r y) : ML X a b (o ++ L1) (ia + L1.length) ib := by
  have e2 : a.drop (ia + L1.length) = L2 := by rw [← List.drop_drop, e, List.drop_left]
  obtain ⟨p, u, v⟩ := h
  rw [e] at p u
  refine ⟨by rw [e2, List.append_assoc o L1 L2]; exact p, by rw [e2, List.append_assoc]; exact u, ?_⟩
  rw [List.append_assoc]
  obtain ⟨u1, u2, u3⟩ := List.pairwise_append.1 u
  obtain ⟨v1, v2, v3⟩ := List.pairwise_append.1 v
  refine List.pairwise_append.2 ⟨u1, List.pairwise_append.2 ⟨(List.pairwise_append.1 u2).1, v2, hl⟩, fun x hx y hy => ?_⟩
  rcases List.mem_append.1 hy with hy | hy
  · exact u3 x hx y (List.mem_append_left _ hy)
  · exact v3 x hx y hy
structure MP (X : Sc) (a b : List Nat) : Prop where
  ina : X.In a
  inb : X.In b
  last : ∀ y ∈ b, ∀ i x, i + 1 = a.length → a[i]? = some x → X.r y ≤ X.r x
noncomputable def MR (X : Sc) (a b : List Nat) (c : Array Keyed) : Prop := ∃ o, c = X.arr o ∧ X.Up o ∧ o.Perm (a ++ b)
theorem ML.doneB (h : ML X a b o ia ib) (e : ib = b.length) : MR X a b (X.arr o ++ (X.arr a).extract ia (X.arr a).size ++ (X.arr b).extract ib (X.arr b).size) := by
  rw [arr_end, arr_end, arr_app, arr_app]
  obtain ⟨p, u, v⟩ := h
  have : b.drop ib = [] := List.drop_of_length_le (Nat.le_of_eq e.symm)
  rw [this] at p ⊢
  rw [List.append_nil] at p ⊢
  exact ⟨_, rfl, u, p⟩
theorem ML.doneA (h : ML X a b o ia ib) (e : ia = a.length) : MR X a b (X.arr o ++ (X.arr a).extract ia (X.arr a).size ++ (X.arr b).extract ib (X.arr b).size) := by
  rw [arr_end, arr_end, arr_app, arr_app]
  obtain ⟨p, u, v⟩ := h
  have : a.drop ia = [] := List.drop_of_length_le (Nat.le_of_eq e.symm)
  rw [this] at p ⊢
  rw [List.append_nil] at p ⊢
  exact ⟨_, rfl, v, p⟩
theorem ML.last (h : ML X a b o ia ib) (m : MP X a b) (e : ia + 1 = a.length) : MR X a b (X.arr o ++ (X.arr b).extract ib (X.arr b).size ++ (X.arr a).extract ia (X.arr a).size) := by
  rw [arr_end, arr_end, arr_app, arr_app]
  obtain ⟨x, ex, ed⟩ := at_drop (l := a) (i := ia) (by rw [← e]; exact Nat.lt_succ_self _)
  have en : a.drop (ia + 1) = [] := List.drop_of_length_le (Nat.le_of_eq e.symm)
  rw [en] at ed
  refine ⟨_, rfl, ?_, h.swap.pm.trans List.perm_append_comm⟩
  refine List.pairwise_append.2 ⟨h.ub, by rw [ed]; exact List.pairwise_singleton .., fun y hy z hz => ?_⟩
  rcases List.mem_append.1 hy with hy | hy
  · exact (List.pairwise_append.1 h.ua).2.2 y hy z hz
  · rw [ed] at hz
    cases List.mem_singleton.1 hz
    exact m.last y (List.mem_of_mem_drop hy) ia x e ex
structure LI (X : Sc) (a b : List Nat) (m : Nat) (o : List Nat) (ia ib : Nat) : Prop where
  ml : ML X a b o ia ib
  ha : ia + 1 < a.length
  hb : ib < b.length
  hm : m ≤ o.length
theorem n_bound {o a b i j m : Nat} (e : o + (a - i) + (b - j) = a + b) (h : i + 1 < a) (hm : m ≤ o) : m < a + b := by omega
theorem LI.bound {m : Nat} (h : LI X a b m o ia ib) : m < a.length + b.length := by
  have := h.ml.pm.length_eq
  simp only [List.length_append, List.length_drop] at this
  exact n_bound this h.ha h.hm
end
theorem getD_at {l : List Nat} {i : Nat} (h : i < l.length) : l.getD i 0 = l[i] := by rw [List.getD_eq_getElem?_getD, List.getElem?_eq_getElem h]; rfl
section
variable {X : Sc} {p : List Nat} {pd : List (Nat × Nat × Nat)} {g : Nat} {l seg : List Nat} {k base n hint : Nat}
structure Cut (T : Nat → Bool) (seg : List Nat) (h : Nat) (L1 L2 : List Nat) : Prop where
  eq : seg = L1 ++ L2
  len : L1.length = h
  yes : ∀ x ∈ L1, T x = true
  no : ∀ x ∈ L2, T x = false
theorem GOk.cut {T : Nat → Bool} {h : Nat} (g : GOk (fun i => T (seg.getD i 0)) seg.length h) : Cut T seg h (seg.take h) (seg.drop h) := by
  refine ⟨(List.take_append_drop h seg).symm, by rw [List.length_take]; exact Nat.min_eq_left g.le, fun x hx => ?_, fun x hx => ?_⟩
  · obtain ⟨i, hi, e⟩ := List.mem_take_iff_getElem.1 hx
    have := g.lo i (Nat.lt_of_lt_of_le hi (Nat.min_le_left ..))
    rw [getD_at (Nat.lt_of_lt_of_le hi (Nat.min_le_right ..)), e] at this
    exact this
  · obtain ⟨i, hi, e⟩ := List.mem_drop_iff_getElem.1 hx
    have := g.hi (i + h) (Nat.le_add_left ..) (by omega)
    rw [getD_at (by omega), show seg[i + h] = x by rw [← e]; congr 1; omega] at this
    exact this
noncomputable def gT (X : Sc) (left : Bool) (k x : Nat) : Bool := if left = true then decide (X.r x < X.r k) else !decide (X.r k < X.r x)
theorem gal_ok {left : Bool} (hk : k < X.N) (hl : ∀ i, i < seg.length → l[base + i]? = seg[i]?) (up : X.Up seg) (hin : X.In seg) (hh : hint < seg.length) :
    X.W (gallop' left (kas_item X.it k) (X.arr l) base seg.length hint) (fun c st' => st' = X.st p pd g ∧ ∃ h L1 L2, c = some h ∧ Cut (gT X left k) seg h L1 L2) (X.st p pd g) := by
  rw [gallop'_eq]
  refine W.mono (gAll_ok (B := fun i => gT X left k (seg.getD i 0)) ⟨fun i Q hi hq => ?_, fun i j hij hj h => ?_⟩ hh) fun c st' ⟨h1, h, h2, h3⟩ => ⟨h1, h, _, _, h2, h3.cut⟩
  · have e : seg[i]? = some (seg.getD i 0) := by rw [getD_at hi, List.getElem?_eq_getElem hi]
    have hx : seg.getD i 0 < X.N := hin _ (List.mem_of_getElem? e)
    unfold gBey
    refine W.bind (W.elem ((hl i hi).trans e) ?_)
    cases left with
    | true => rw [if_pos rfl]; exact W.lt hx hk hq
    | false => rw [if_neg Bool.false_ne_true]; exact W.bind (W.lt hk hx (W.pure hq))
  · have le : X.r (seg.getD i 0) ≤ X.r (seg.getD j 0) := by
      rw [getD_at (Nat.lt_of_le_of_lt hij hj), getD_at hj]
      rcases Nat.lt_or_eq_of_le hij with hi | rfl
      · exact List.pairwise_iff_getElem.1 up i j _ hj hi
      · exact Nat.le_refl _
    unfold gT at h ⊢
    cases left with
    | true => exact decide_eq_true (Nat.lt_of_le_of_lt le (of_decide_eq_true h))
    | false =>
      have h := of_decide_eq_false (Eq.mp (Bool.not_eq_true' _) h)
      show (!decide _) = true
      rw [decide_eq_false fun h' => h (Nat.lt_of_lt_of_le h' le)]; rfl
theorem gT_right : (gT X false k x = true → X.r x ≤ X.r k) ∧ (gT X false k x = false → X.r k < X.r x) := by
  unfold gT; simp
theorem gT_left : (gT X true k x = true → X.r x < X.r k) ∧ (gT X true k x = false → X.r k ≤ X.r x) := by
  unfold gT; simp
end
noncomputable def mergeLo' : Array Keyed → Array Keyed → SM (Array Keyed) := sortPriv% PySem.Builtin.mergeLo
noncomputable def setG' : Nat → SM Unit := sortPriv% PySem.Builtin.setMinGallop
abbrev AK := Array Keyed
noncomputable def loDone (a b out : AK) (ia ib : Nat) : AK := out ++ a.extract ia a.size ++ b.extract ib b.size
noncomputable def loLast (a b out : AK) (ia ib : Nat) : AK := out ++ b.extract ib b.size ++ a.extract ia a.size
abbrev L1 := Option AK × AK × Nat × Nat × Nat × Nat
abbrev L2 := Option AK × AK × Nat × Nat × Nat × Nat × Nat
abbrev L0 := Option AK × AK × Nat × Nat × Nat
noncomputable def lo1 (a b : AK) (mg : Nat) (out : AK) (ia ib ac bc : Nat) : SM (ForInStep L1) := do
  let y ← elem' b ib
  let x ← elem' a ia
  let c ← lt' y x
  match c with
  | some w =>
    if w = true then do
      let y ← elem' b ib
      if (ib + 1 == b.size) = true then pure (.done (some (loDone a b (out.push y) ia (ib + 1)), out.push y, ia, ib + 1, 0, bc + 1))
      else if bc + 1 ≥ mg then pure (.done (none, out.push y, ia, ib + 1, 0, bc + 1))
      else pure (.yield (none, out.push y, ia, ib + 1, 0, bc + 1))
    else do
      let x ← elem' a ia
      if (ia + 1 + 1 == a.size) = true then pure (.done (some (loLast a b (out.push x) (ia + 1) ib), out.push x, ia + 1, ib, ac + 1, 0))
      else if ac + 1 ≥ mg then pure (.done (none, out.push x, ia + 1, ib, ac + 1, 0))
      else pure (.yield (none, out.push x, ia + 1, ib, ac + 1, 0))
  | _ => pure (.done (some (loDone a b out ia ib), out, ia, ib, ac, bc))
noncomputable def lo2d (a b : AK) (mg : Nat) (out : AK) (ia ib ac bc : Nat) : SM (ForInStep L2) := do
  let x ← elem' a ia
  if (ia + 1 + 1 == a.size) = true then pure (.done (some (loLast a b (out.push x) (ia + 1) ib), out.push x, ia + 1, ib, mg, ac, bc))
  else if (decide (ac < 7) && decide (bc < 7)) = true then pure (.done (none, out.push x, ia + 1, ib, mg, ac, bc))
  else pure (.yield (none, out.push x, ia + 1, ib, mg, ac, bc))
noncomputable def lo2c (a b : AK) (mg : Nat) (out : AK) (ia ib ac bc : Nat) : SM (ForInStep L2) := do
  let y ← elem' b ib
  if (ib + 1 == b.size) = true then pure (.done (some (loDone a b (out.push y) ia (ib + 1)), out.push y, ia, ib + 1, mg, ac, bc))
  else do
    let x ← elem' a ia
    let c ← gallop' true x b (ib + 1) (b.size - (ib + 1)) 0
    match c with
    | some k =>
      if k > 0 then
        if (ib + 1 + k == b.size) = true then pure (.done (some (loDone a b (out.push y ++ b.extract (ib + 1) (ib + 1 + k)) ia (ib + 1 + k)), out.push y ++ b.extract (ib + 1) (ib + 1 + k), ia, ib + 1 + k, mg, ac, k))
        else lo2d a b mg (out.push y ++ b.extract (ib + 1) (ib + 1 + k)) ia (ib + 1 + k) ac k
      else lo2d a b mg (out.push y) ia (ib + 1) ac k
    | _ => pure (.done (some (loDone a b (out.push y) ia (ib + 1)), out.push y, ia, ib + 1, mg, ac, bc))
noncomputable def lo2b (a b : AK) (out : AK) (ia ib ac bc mg : Nat) : SM (ForInStep L2) := do
  setG' mg
  let y ← elem' b ib
  let c ← gallop' false y a ia (a.size - ia) 0
  match c with
  | some k =>
    if k > 0 then
      if (ia + k + 1 == a.size) = true then pure (.done (some (loLast a b (out ++ a.extract ia (ia + k)) (ia + k) ib), out ++ a.extract ia (ia + k), ia + k, ib, mg, k, bc))
      else if (ia + k == a.size) = true then pure (.done (some (loDone a b (out ++ a.extract ia (ia + k)) (ia + k) ib), out ++ a.extract ia (ia + k), ia + k, ib, mg, k, bc))
      else lo2c a b mg (out ++ a.extract ia (ia + k)) (ia + k) ib k bc
    else lo2c a b mg out ia ib k bc
  | _ => pure (.done (some (loDone a b out ia ib), out, ia, ib, mg, ac, bc))
noncomputable def lo2 (a b : AK) (out : AK) (ia ib mg ac bc : Nat) : SM (ForInStep L2) := if mg > 1 then lo2b a b out ia ib ac bc (mg - 1) else lo2b a b out ia ib ac bc mg
noncomputable def lo0b (a b : AK) (out : AK) (ia ib mg ac bc : Nat) : SM (ForInStep L0) := do
  liftM (rule "list.sort.gallop")
  let s ← forIn [0:a.size + b.size] ((none, out, ia, ib, mg + 1, ac, bc) : L2) fun z_ s => lo2 a b s.2.1 s.2.2.1 s.2.2.2.1 s.2.2.2.2.1 s.2.2.2.2.2.1 s.2.2.2.2.2.2
  match s.1 with
  | some r => pure (.done (some r, s.2.1, s.2.2.1, s.2.2.2.1, s.2.2.2.2.1))
  | none => do
    setG' (s.2.2.2.2.1 + 1)
    pure (.yield (none, s.2.1, s.2.2.1, s.2.2.2.1, s.2.2.2.2.1 + 1))
noncomputable def lo0 (a b : AK) (out : AK) (ia ib mg : Nat) : SM (ForInStep L0) := do
  let s ← forIn [0:a.size + b.size] ((none, out, ia, ib, 0, 0) : L1) fun z_ s => lo1 a b mg s.2.1 s.2.2.1 s.2.2.2.1 s.2.2.2.2.1 s.2.2.2.2.2
  match s.1 with
  | some r => pure (.done (some r, s.2.1, s.2.2.1, s.2.2.2.1, mg))
  | none => lo0b a b s.2.1 s.2.2.1 s.2.2.2.1 mg s.2.2.2.2.1 s.2.2.2.2.2
noncomputable def loAll (a b : AK) : SM AK := do
  liftM (rule "list.sort.merge-lo")
  let y ← elem' b 0
  if (1 == b.size) = true then pure (loDone a b #[y] 0 1)
  else if (0 + 1 == a.size) = true then pure (loLast a b #[y] 0 1)
  else do
    let t ← get
    let s ← forIn [0:a.size + b.size] ((none, #[y], 0, 1, gallopOf t) : L0) fun z_ s => lo0 a b s.2.1 s.2.2.1 s.2.2.2.1 s.2.2.2.2
    match s.1 with
    | some r => pure r
    | none => liftM (unsupported (α := AK) "internal:list.sort.merge-bound")
theorem mergeLo'_eq (a b : AK) : mergeLo' a b = loAll a b := by
  refine congrArg (bind _) (funext fun x => congrArg (bind _) (funext fun y => ?_))
  refine congrArg (ite _ _) (congrArg (ite _ _) (congrArg (bind _) (funext fun t => ?_)))
  refine congr (congrArg bind (congrArg (forIn _ _) (funext fun i => funext fun s => ?_))) (funext fun s => ?_)
  · refine congrArg (bind _) (funext fun s => ?_)
    obtain ⟨r, s⟩ := s
    cases r with
    | some r => rfl
    | none =>
      refine congrArg (bind _) (funext fun u => congrArg (bind _) (funext fun s => ?_))
      obtain ⟨r, s⟩ := s
      cases r <;> rfl
  · obtain ⟨r, s⟩ := s
    cases r <;> rfl
section
variable {X : Sc} {p : List Nat} {pd : List (Nat × Nat × Nat)} {g : Nat} {a b o : List Nat} {ia ib m : Nat} {st : SortSt}
theorem W.ite {α : Type} {c : Prop} [Decidable c] {x y : SM α} {Q : SQ α} (h1 : c → X.W x Q st) (h2 : ¬c → X.W y Q st) : X.W (if c then x else y) Q st := by
  by_cases h : c
  · rw [if_pos h]; exact h1 h
  · rw [if_neg h]; exact h2 h
theorem size_is {l : List Nat} {i : Nat} (h : (i == (X.arr l).size) = true) : i = l.length := by rw [arr_size] at h; exact eq_of_beq h
theorem size_not (h : ¬(i == (X.arr l).size) = true) (hi : i ≤ l.length) : i < l.length := by
  rw [arr_size] at h
  exact Nat.lt_of_le_of_ne hi fun e => h (by rw [e]; exact beq_self_eq_true _)
theorem setG_ok (h : Q () (X.st p pd n)) : X.W (setG' n) Q (X.st p pd g) := W.modify h
theorem lo1_ok (mp : MP X a b) (li : LI X a b m o ia ib) {mg ac bc : Nat} {Q : SQ (ForInStep L1)}
    (hd : ∀ o ia ib ac bc, LI X a b (m + 1) o ia ib → Q (.done (none, X.arr o, ia, ib, ac, bc)) (X.st p pd g)) (hy : ∀ o ia ib ac bc, LI X a b (m + 1) o ia ib → Q (.yield (none, X.arr o, ia, ib, ac, bc)) (X.st p pd g))
    (hr : ∀ r o, MR X a b r → Q (.done (some r, o)) (X.st p pd g)) : X.W (lo1 (X.arr a) (X.arr b) mg (X.arr o) ia ib ac bc) Q (X.st p pd g) := by
  obtain ⟨ml, h1, h2, h3⟩ := li
  obtain ⟨y, ey, dy⟩ := at_drop h2
  obtain ⟨x, ex, dx⟩ := at_drop (Nat.lt_of_succ_lt h1)
  have ua := (List.pairwise_append.1 ml.ua).2.1
  have ub := (List.pairwise_append.1 ml.ub).2.1
  rw [dx] at ua
  rw [dy] at ub
  have len : ∀ z, m + 1 ≤ (o ++ [z]).length := fun z => by rw [List.length_append]; exact Nat.succ_le_succ h3
  unfold lo1
  refine W.bind (W.elem ey (W.bind (W.elem ex (W.bind (W.lt (mp.inb y (List.mem_of_getElem? ey)) (mp.ina x (List.mem_of_getElem? ex)) ?_)))))
  dsimp only
  refine W.ite (fun c => ?_) (fun c => ?_)
  · have lt := of_decide_eq_true c
    have ml' : ML X a b (o ++ [y]) ia (ib + 1) := (ml.swap.move (L1 := [y]) dy (fun z hz => by cases List.mem_singleton.1 hz; rw [dx]; exact up_head ua (Nat.le_of_lt lt))).swap
    refine W.bind (W.elem ey ?_)
    rw [arr_push]
    refine W.ite (fun c => W.pure (hr _ _ (ml'.doneB (size_is c)))) (fun c => ?_)
    have li : LI X a b (m + 1) (o ++ [y]) ia (ib + 1) := ⟨ml', h1, size_not c h2, len y⟩
    exact W.ite (fun z_ => W.pure (hd _ _ _ _ _ li)) (fun z_ => W.pure (hy _ _ _ _ _ li))
  · have le := Nat.le_of_not_lt fun h => c (decide_eq_true h)
    have ml' : ML X a b (o ++ [x]) (ia + 1) ib := ml.move (L1 := [x]) dx (fun z hz => by cases List.mem_singleton.1 hz; rw [dy]; exact up_head ub le)
    refine W.bind (W.elem ex ?_)
    rw [arr_push]
    refine W.ite (fun c => W.pure (hr _ _ (ml'.last mp (size_is c)))) (fun c => ?_)
    have li : LI X a b (m + 1) (o ++ [x]) (ia + 1) ib := ⟨ml', size_not c h1, h2, len x⟩
    exact W.ite (fun z_ => W.pure (hd _ _ _ _ _ li)) (fun z_ => W.pure (hy _ _ _ _ _ li))
theorem LI.less (h : LI X a b m o ia ib) (hm : m' ≤ m) : LI X a b m' o ia ib := ⟨h.ml, h.ha, h.hb, Nat.le_trans hm h.hm⟩
theorem lo1_loop (mp : MP X a b) (li : LI X a b m o ia ib) 
    (hd : ∀ o ia ib ac bc, LI X a b (m + 1) o ia ib → Q (none, X.arr o, ia, ib, ac, bc) (X.st p pd g)) (hr : ∀ r o, MR X a b r → Q (some r, o) (X.st p pd g)) :
    X.W (forIn [0:(X.arr a).size + (X.arr b).size] ((none, X.arr o, ia, ib, 0, 0) : L1) fun z_ s => lo1 (X.arr a) (X.arr b) mg s.2.1 s.2.2.1 s.2.2.2.1 s.2.2.2.2.1 s.2.2.2.2.2) Q (X.st p pd g) := by
  refine W.loop (fun x c st' => st' = X.st p pd g ∧ ∃ o ia ib ac bc, c = (none, X.arr o, ia, ib, ac, bc) ∧ LI X a b (m + x) o ia ib) ?_ ?_ ⟨rfl, o, ia, ib, 0, 0, rfl, li⟩
  · rintro x c st' hx ⟨rfl, o, ia, ib, ac, bc, rfl, li⟩
    exact lo1_ok mp li (fun o ia ib ac bc h => hd o ia ib ac bc (h.less (Nat.succ_le_succ (Nat.le_add_right ..)))) (fun o ia ib ac bc h => ⟨rfl, o, ia, ib, ac, bc, rfl, h⟩) hr
  · rintro c st' ⟨rfl, o, ia, ib, ac, bc, rfl, li⟩
    have := li.bound
    rw [arr_size, arr_size] at this
    exact absurd this (Nat.not_lt_of_le (Nat.le_add_left ..))
end
section
variable {X : Sc} {p : List Nat} {pd : List (Nat × Nat × Nat)} {g : Nat} {a b o : List Nat} {ia ib m : Nat} {st : SortSt}
structure K2 (X : Sc) (a b p : List Nat) (pd : List (Nat × Nat × Nat)) (m : Nat) (Q : SQ (ForInStep L2)) : Prop where
  dn : ∀ o ia ib mg ac bc g, LI X a b m o ia ib → Q (.done (none, X.arr o, ia, ib, mg, ac, bc)) (X.st p pd g)
  yi : ∀ o ia ib mg ac bc g, LI X a b m o ia ib → Q (.yield (none, X.arr o, ia, ib, mg, ac, bc)) (X.st p pd g)
  rt : ∀ r o g, MR X a b r → Q (.done (some r, o)) (X.st p pd g)
theorem lo2d_ok (mp : MP X a b) (li : LI X a b m o ia ib) (le : ∀ x, a[ia]? = some x → ∀ y ∈ b.drop ib, X.r x ≤ X.r y) {mg ac bc : Nat} {Q : SQ (ForInStep L2)} (k : K2 X a b p pd m Q) : X.W (lo2d (X.arr a) (X.arr b) mg (X.arr o) ia ib ac bc) Q (X.st p pd g) := by
  obtain ⟨ml, h1, h2, h3⟩ := li
  obtain ⟨x, ex, dx⟩ := at_drop (Nat.lt_of_succ_lt h1)
  have ml' : ML X a b (o ++ [x]) (ia + 1) ib := ml.move (L1 := [x]) dx (fun z hz => by cases List.mem_singleton.1 hz; exact le x ex)
  unfold lo2d
  refine W.bind (W.elem ex ?_)
  rw [arr_push]
  refine W.ite (fun c => W.pure (k.rt _ _ _ (ml'.last mp (size_is c)))) (fun c => ?_)
  have li : LI X a b m (o ++ [x]) (ia + 1) ib := ⟨ml', size_not c h1, h2, by rw [List.length_append]; exact Nat.le_trans h3 (Nat.le_add_right ..)⟩
  exact W.ite (fun z_ => W.pure (k.dn _ _ _ _ _ _ _ li)) (fun z_ => W.pure (k.yi _ _ _ _ _ _ _ li))
theorem arr_cut {l L1 L2 : List Nat} {i : Nat} (e : l.drop i = L1 ++ L2) : (X.arr l).extract i (i + L1.length) = X.arr L1 := by
  rw [arr_ext, e, Nat.add_sub_cancel_left, List.take_left]
theorem drop_at {l : List Nat} (i : Nat) : ∀ j, j < (l.drop i).length → l[i + j]? = (l.drop i)[j]? := fun j z_ => List.getElem?_drop.symm
theorem cut_le {l L1 L2 : List Nat} {i : Nat} (e : l.drop i = L1 ++ L2) (h : i ≤ l.length) : i + L1.length ≤ l.length := by
  have := congrArg List.length e
  rw [List.length_drop, List.length_append] at this
  omega
theorem lo2c_ok (mp : MP X a b) (li : LI X a b m o ia ib) (le : ∀ y, b[ib]? = some y → ∀ x ∈ a.drop ia, X.r y ≤ X.r x) {mg ac bc : Nat} {Q : SQ (ForInStep L2)} (k : K2 X a b p pd m Q) : X.W (lo2c (X.arr a) (X.arr b) mg (X.arr o) ia ib ac bc) Q (X.st p pd g) := by
  obtain ⟨ml, h1, h2, h3⟩ := li
  obtain ⟨y, ey, dy⟩ := at_drop h2
  obtain ⟨x, ex, dx⟩ := at_drop (Nat.lt_of_succ_lt h1)
  have ml' : ML X a b (o ++ [y]) ia (ib + 1) := (ml.swap.move (L1 := [y]) dy (fun z hz => by cases List.mem_singleton.1 hz; exact le y ey)).swap
  have ua := (List.pairwise_append.1 ml.ua).2.1
  rw [dx] at ua
  unfold lo2c
  refine W.bind (W.elem ey ?_)
  rw [arr_push]
  refine W.ite (fun c => W.pure (k.rt _ _ _ (ml'.doneB (size_is c)))) (fun c => ?_)
  have h2' := size_not c h2
  have h3' : m ≤ (o ++ [y]).length := by rw [List.length_append]; exact Nat.le_trans h3 (Nat.le_add_right ..)
  refine W.bind (W.elem ex ?_)
  have eb : (X.arr b).size - (ib + 1) = (b.drop (ib + 1)).length := by rw [arr_size, List.length_drop]
  rw [eb]
  refine W.bind (W.mono (gal_ok (mp.ina x (List.mem_of_getElem? ex)) (drop_at (ib + 1)) (List.pairwise_append.1 ml'.ub).2.1 (fun z hz => mp.inb z (List.mem_of_mem_drop hz)) (by rw [List.length_drop]; exact Nat.sub_pos_of_lt h2')) ?_)
  rintro c st' ⟨rfl, h, L1, L2, rfl, ⟨e, rfl, c1, c2⟩⟩
  dsimp only
  have x1 : ∀ x', a[ia]? = some x' → ∀ y ∈ L2, X.r x' ≤ X.r y := fun x' e' y hy => by rw [ex] at e'; cases e'; exact gT_left.2 (c2 y hy)
  refine W.ite (fun z_ => ?_) (fun c => ?_)
  · rw [arr_cut e, arr_app]
    have ml2 : ML X a b (o ++ [y] ++ L1) ia (ib + 1 + L1.length) := (ml'.swap.move e (fun z hz w hw => by rw [dx] at hw; exact up_head ua (Nat.le_of_lt (gT_left.1 (c1 z hz))) w hw)).swap
    refine W.ite (fun c => W.pure (k.rt _ _ _ (ml2.doneB (size_is c)))) (fun c => ?_)
    refine lo2d_ok mp ⟨ml2, h1, size_not c (cut_le e h2), by rw [List.length_append]; exact Nat.le_trans h3' (Nat.le_add_right ..)⟩ (fun x' e' y hy => x1 x' e' y ?_) k
    rw [← List.drop_drop, e, List.drop_left] at hy
    exact hy
  · have : L1 = [] := List.length_eq_zero_iff.1 (Nat.eq_zero_of_not_pos c)
    subst this
    exact lo2d_ok mp ⟨ml', h1, h2', h3'⟩ (fun x' e' y hy => x1 x' e' y (by rw [e] at hy; exact hy)) k
theorem lo2b_ok (mp : MP X a b) (li : LI X a b m o ia ib) {mg ac bc : Nat} {Q : SQ (ForInStep L2)} (k : K2 X a b p pd m Q) : X.W (lo2b (X.arr a) (X.arr b) (X.arr o) ia ib ac bc mg) Q (X.st p pd g) := by
  have li' := li
  obtain ⟨ml, h1, h2, h3⟩ := li'
  obtain ⟨y, ey, dy⟩ := at_drop h2
  have ub := (List.pairwise_append.1 ml.ub).2.1
  rw [dy] at ub
  unfold lo2b
  refine W.bind (setG_ok (W.bind (W.elem ey ?_)))
  have ea : (X.arr a).size - ia = (a.drop ia).length := by rw [arr_size, List.length_drop]
  rw [ea]
  have hia := Nat.lt_of_succ_lt h1
  refine W.bind (W.mono (gal_ok (mp.inb y (List.mem_of_getElem? ey)) (drop_at ia) (List.pairwise_append.1 ml.ua).2.1 (fun z hz => mp.ina z (List.mem_of_mem_drop hz)) (by rw [List.length_drop]; exact Nat.sub_pos_of_lt hia)) ?_)
  rintro c st' ⟨rfl, h, L1, L2, rfl, ⟨e, rfl, c1, c2⟩⟩
  dsimp only
  have x1 : ∀ y', b[ib]? = some y' → ∀ x ∈ L2, X.r y' ≤ X.r x := fun y' e' x hx => by rw [ey] at e'; cases e'; exact Nat.le_of_lt (gT_right.2 (c2 x hx))
  refine W.ite (fun z_ => ?_) (fun c => ?_)
  · rw [arr_cut e, arr_app]
    have ml2 : ML X a b (o ++ L1) (ia + L1.length) ib := ml.move e (fun z hz w hw => by rw [dy] at hw; exact up_head ub (gT_right.1 (c1 z hz)) w hw)
    refine W.ite (fun c => W.pure (k.rt _ _ _ (ml2.last mp (size_is c)))) (fun c1 => ?_)
    refine W.ite (fun c => W.pure (k.rt _ _ _ (ml2.doneA (size_is c)))) (fun c2 => ?_)
    refine lo2c_ok mp ⟨ml2, size_not c1 (size_not c2 (cut_le e (Nat.le_of_lt hia))), h2, by rw [List.length_append]; exact Nat.le_trans h3 (Nat.le_add_right ..)⟩ (fun x' e' y hy => x1 x' e' y ?_) k
    rw [← List.drop_drop, e, List.drop_left] at hy
    exact hy
  · have : L1 = [] := List.length_eq_zero_iff.1 (Nat.eq_zero_of_not_pos c)
    subst this
    exact lo2c_ok mp li (fun x' e' y hy => x1 x' e' y (by rw [e] at hy; exact hy)) k
theorem lo2_loop (mp : MP X a b) (li : LI X a b m o ia ib) {mg ac bc : Nat} {Q : SQ L2}
    (hd : ∀ o ia ib mg ac bc g, LI X a b m o ia ib → Q (none, X.arr o, ia, ib, mg, ac, bc) (X.st p pd g)) (hr : ∀ r o g, MR X a b r → Q (some r, o) (X.st p pd g)) :
    X.W (forIn [0:(X.arr a).size + (X.arr b).size] ((none, X.arr o, ia, ib, mg, ac, bc) : L2) fun z_ s => lo2 (X.arr a) (X.arr b) s.2.1 s.2.2.1 s.2.2.2.1 s.2.2.2.2.1 s.2.2.2.2.2.1 s.2.2.2.2.2.2) Q (X.st p pd g) := by
  refine W.loop (fun x c st' => ∃ o ia ib mg ac bc g, st' = X.st p pd g ∧ c = (none, X.arr o, ia, ib, mg, ac, bc) ∧ LI X a b m o ia ib) ?_ ?_ ⟨o, ia, ib, mg, ac, bc, g, rfl, rfl, li⟩
  · rintro x c st' hx ⟨o, ia, ib, mg, ac, bc, g, rfl, rfl, li⟩
    have k : K2 X a b p pd m (Nx Q fun c st' => ∃ o ia ib mg ac bc g, st' = X.st p pd g ∧ c = (none, X.arr o, ia, ib, mg, ac, bc) ∧ LI X a b m o ia ib) :=
      ⟨hd, fun o ia ib mg ac bc g h => ⟨o, ia, ib, mg, ac, bc, g, rfl, rfl, h⟩, hr⟩
    exact W.ite (fun z_ => lo2b_ok mp li k) (fun z_ => lo2b_ok mp li k)
  · rintro c st' ⟨o, ia, ib, mg, ac, bc, g, rfl, rfl, li⟩
    exact hd o ia ib mg ac bc g li
theorem loAll_ok (mp : MP X a b) (ua : X.Up a) (ub : X.Up b) (h1 : 0 < a.length) (h2 : 0 < b.length) (hle : ∀ y, b[0]? = some y → ∀ x ∈ a, X.r y ≤ X.r x) :
    X.W (mergeLo' (X.arr a) (X.arr b)) (fun r st' => MR X a b r ∧ ∃ g, st' = X.st p pd g) (X.st p pd g) := by
  rw [mergeLo'_eq]
  unfold loAll
  obtain ⟨y, ey, dy⟩ := at_drop h2
  have ml : ML X a b [y] 0 1 := (ML.move (X := X) (a := b) (b := a) (o := []) (ia := 0) (ib := 0) ⟨by rw [List.drop_zero, List.drop_zero]; exact List.Perm.refl _, ub, ua⟩ (L1 := [y]) dy (fun z hz => by cases List.mem_singleton.1 hz; exact hle y ey)).swap
  refine W.bind (W.rule (W.bind (W.elem ey ?_)))
  have e1 : #[kas_item X.it y] = X.arr [y] := rfl
  rw [e1]
  refine W.ite (fun c => W.pure ⟨ml.doneB (size_is c), g, rfl⟩) (fun c1 => ?_)
  refine W.ite (fun c => W.pure ⟨ml.last mp (size_is c), g, rfl⟩) (fun c2 => ?_)
  refine W.bind (W.get (W.bind (W.loop (fun x c st' => ∃ o ia ib mg g, st' = X.st p pd g ∧ c = (none, X.arr o, ia, ib, mg) ∧ LI X a b (1 + x) o ia ib) ?_ ?_ ⟨_, _, _, _, _, rfl, rfl, ml, size_not c2 h1, size_not c1 h2, Nat.le_refl _⟩)))
  · rintro x c st' hx ⟨o, ia, ib, mg, g, rfl, rfl, li⟩
    refine W.bind (lo1_loop mp li (fun o ia ib ac bc li => ?_) (fun r o hr => W.pure (W.pure ⟨hr, g, rfl⟩)))
    refine W.bind (W.rule (W.bind (lo2_loop mp li (fun o ia ib mg ac bc g li => ?_) (fun r o g hr => W.pure (W.pure ⟨hr, g, rfl⟩)))))
    exact W.bind (setG_ok (W.pure ⟨o, ia, ib, _, _, rfl, rfl, li⟩))
  · rintro c st' ⟨o, ia, ib, mg, g, rfl, rfl, li⟩
    have := li.bound
    rw [arr_size, arr_size] at this
    exact absurd this (Nat.not_lt_of_le (Nat.le_add_left ..))
end
noncomputable def mergeHi' : AK → AK → SM AK := sortPriv% PySem.Builtin.mergeHi
noncomputable def hiDone (a b out : AK) (na nb : Nat) : AK := a.extract 0 na ++ b.extract 0 nb ++ out.reverse
noncomputable def hiFst (a b out : AK) (na nb : Nat) : AK := b.extract 0 nb ++ a.extract 0 na ++ out.reverse
abbrev H1 := Option AK × Nat × Nat × AK × Nat × Nat
abbrev H2 := Option AK × Nat × Nat × AK × Nat × Nat × Nat
abbrev H0 := Option AK × Nat × Nat × AK × Nat
noncomputable def hi1 (a b : AK) (mg : Nat) (na nb : Nat) (out : AK) (ac bc : Nat) : SM (ForInStep H1) := do
  let y ← elem' b (nb - 1)
  let x ← elem' a (na - 1)
  let c ← lt' y x
  match c with
  | some w =>
    if w = true then do
      let x ← elem' a (na - 1)
      if (na - 1 == 0) = true then pure (.done (some (hiDone a b (out.push x) (na - 1) nb), na - 1, nb, out.push x, ac + 1, 0))
      else if ac + 1 ≥ mg then pure (.done (none, na - 1, nb, out.push x, ac + 1, 0))
      else pure (.yield (none, na - 1, nb, out.push x, ac + 1, 0))
    else do
      let y ← elem' b (nb - 1)
      if (nb - 1 == 1) = true then pure (.done (some (hiFst a b (out.push y) na (nb - 1)), na, nb - 1, out.push y, 0, bc + 1))
      else if bc + 1 ≥ mg then pure (.done (none, na, nb - 1, out.push y, 0, bc + 1))
      else pure (.yield (none, na, nb - 1, out.push y, 0, bc + 1))
  | _ => pure (.done (some (hiDone a b out na nb), na, nb, out, ac, bc))
noncomputable def hi2d (a b : AK) (mg : Nat) (na nb : Nat) (out : AK) (ac bc : Nat) : SM (ForInStep H2) := do
  let x ← elem' a (na - 1)
  if (na - 1 == 0) = true then pure (.done (some (hiDone a b (out.push x) (na - 1) nb), na - 1, nb, out.push x, mg, ac, bc))
  else if (decide (ac < 7) && decide (bc < 7)) = true then pure (.done (none, na - 1, nb, out.push x, mg, ac, bc))
  else pure (.yield (none, na - 1, nb, out.push x, mg, ac, bc))
noncomputable def hi2c (a b : AK) (mg : Nat) (na nb : Nat) (out : AK) (ac bc : Nat) : SM (ForInStep H2) := do
  let y ← elem' b (nb - 1)
  if (nb - 1 == 1) = true then pure (.done (some (hiFst a b (out.push y) na (nb - 1)), na, nb - 1, out.push y, mg, ac, bc))
  else do
    let x ← elem' a (na - 1)
    let c ← gallop' true x b 0 (nb - 1) (nb - 1 - 1)
    match c with
    | some t =>
      if nb - 1 - t > 0 then
        if (t == 1) = true then pure (.done (some (hiFst a b (out.push y ++ (b.extract t (nb - 1)).reverse) na t), na, t, out.push y ++ (b.extract t (nb - 1)).reverse, mg, ac, nb - 1 - t))
        else if (t == 0) = true then pure (.done (some (hiDone a b (out.push y ++ (b.extract t (nb - 1)).reverse) na t), na, t, out.push y ++ (b.extract t (nb - 1)).reverse, mg, ac, nb - 1 - t))
        else hi2d a b mg na t (out.push y ++ (b.extract t (nb - 1)).reverse) ac (nb - 1 - t)
      else hi2d a b mg na (nb - 1) (out.push y) ac (nb - 1 - t)
    | _ => pure (.done (some (hiDone a b (out.push y) na (nb - 1)), na, nb - 1, out.push y, mg, ac, bc))
noncomputable def hi2b (a b : AK) (na nb : Nat) (out : AK) (ac bc mg : Nat) : SM (ForInStep H2) := do
  setG' mg
  let y ← elem' b (nb - 1)
  let c ← gallop' false y a 0 na (na - 1)
  match c with
  | some t =>
    if na - t > 0 then
      if (t == 0) = true then pure (.done (some (hiDone a b (out ++ (a.extract t na).reverse) t nb), t, nb, out ++ (a.extract t na).reverse, mg, na - t, bc))
      else hi2c a b mg t nb (out ++ (a.extract t na).reverse) (na - t) bc
    else hi2c a b mg na nb out (na - t) bc
  | _ => pure (.done (some (hiDone a b out na nb), na, nb, out, mg, ac, bc))
noncomputable def hi2 (a b : AK) (na nb : Nat) (out : AK) (mg ac bc : Nat) : SM (ForInStep H2) := if mg > 1 then hi2b a b na nb out ac bc (mg - 1) else hi2b a b na nb out ac bc mg
noncomputable def hi0b (a b : AK) (na nb : Nat) (out : AK) (mg ac bc : Nat) : SM (ForInStep H0) := do
  liftM (rule "list.sort.gallop")
  let s ← forIn [0:a.size + b.size] ((none, na, nb, out, mg + 1, ac, bc) : H2) fun z_ s => hi2 a b s.2.1 s.2.2.1 s.2.2.2.1 s.2.2.2.2.1 s.2.2.2.2.2.1 s.2.2.2.2.2.2
  match s.1 with
  | some r => pure (.done (some r, s.2.1, s.2.2.1, s.2.2.2.1, s.2.2.2.2.1))
  | none => do
    setG' (s.2.2.2.2.1 + 1)
    pure (.yield (none, s.2.1, s.2.2.1, s.2.2.2.1, s.2.2.2.2.1 + 1))
noncomputable def hi0 (a b : AK) (na nb : Nat) (out : AK) (mg : Nat) : SM (ForInStep H0) := do
  let s ← forIn [0:a.size + b.size] ((none, na, nb, out, 0, 0) : H1) fun z_ s => hi1 a b mg s.2.1 s.2.2.1 s.2.2.2.1 s.2.2.2.2.1 s.2.2.2.2.2
  match s.1 with
  | some r => pure (.done (some r, s.2.1, s.2.2.1, s.2.2.2.1, mg))
  | none => hi0b a b s.2.1 s.2.2.1 s.2.2.2.1 mg s.2.2.2.2.1 s.2.2.2.2.2
noncomputable def hiAll (a b : AK) : SM AK := do
  liftM (rule "list.sort.merge-hi")
  let x ← elem' a (a.size - 1)
  if (a.size - 1 == 0) = true then pure (hiDone a b #[x] (a.size - 1) b.size)
  else if (b.size == 1) = true then pure (hiFst a b #[x] (a.size - 1) b.size)
  else do
    let t ← get
    let s ← forIn [0:a.size + b.size] ((none, a.size - 1, b.size, #[x], gallopOf t) : H0) fun z_ s => hi0 a b s.2.1 s.2.2.1 s.2.2.2.1 s.2.2.2.2
    match s.1 with
    | some r => pure r
    | none => liftM (unsupported (α := AK) "internal:list.sort.merge-bound")
theorem mergeHi'_eq (a b : AK) : mergeHi' a b = hiAll a b := by
  refine congrArg (bind _) (funext fun x => congrArg (bind _) (funext fun y => ?_))
  refine congrArg (ite _ _) (congrArg (ite _ _) (congrArg (bind _) (funext fun t => ?_)))
  refine congr (congrArg bind (congrArg (forIn _ _) (funext fun i => funext fun s => ?_))) (funext fun s => ?_)
  · refine congrArg (bind _) (funext fun s => ?_)
    obtain ⟨r, s⟩ := s
    cases r with
    | some r => rfl
    | none =>
      refine congrArg (bind _) (funext fun u => congrArg (bind _) (funext fun s => ?_))
      obtain ⟨r, s⟩ := s
      cases r <;> rfl
  · obtain ⟨r, s⟩ := s
    cases r <;> rfl
section
variable {X : Sc} {p : List Nat} {pd : List (Nat × Nat × Nat)} {g : Nat} {a b w : List Nat} {na nb m : Nat} {st : SortSt}
theorem at_take {α : Type} {l : List α} {i : Nat} (h : 0 < i) (hi : i ≤ l.length) : ∃ y, l[i - 1]? = some y ∧ l.take i = l.take (i - 1) ++ [y] := by
  obtain ⟨j, rfl⟩ : ∃ j, i = j + 1 := ⟨i - 1, (Nat.sub_add_cancel h).symm⟩
  exact ⟨l[j], List.getElem?_eq_getElem hi, (List.take_append_getElem hi).symm⟩
theorem arr_rev (l : List Nat) : (X.arr l).reverse = X.arr l.reverse := by unfold Sc.arr; rw [List.reverse_toArray, List.map_reverse]
theorem arr_beg (l : List Nat) (i : Nat) : (X.arr l).extract 0 i = X.arr (l.take i) := by rw [arr_ext, List.drop_zero, Nat.sub_zero]
theorem up_last (h : X.Up (l ++ [x])) (hy : X.r x ≤ X.r y) : ∀ z ∈ l ++ [x], X.r z ≤ X.r y := fun z hz => by
  rcases List.mem_append.1 hz with hz | hz
  · exact Nat.le_trans ((List.pairwise_append.1 h).2.2 z hz x (List.mem_singleton.2 rfl)) hy
  · cases List.mem_singleton.1 hz; exact hy
structure MH (X : Sc) (a b w : List Nat) (na nb : Nat) : Prop where
  pm : (a.take na ++ b.take nb ++ w).Perm (a ++ b)
  ua : X.Up (a.take na ++ w)
  ub : X.Up (b.take nb ++ w)
theorem MH.swap (h : MH X a b w na nb) : MH X b a w nb na :=
  ⟨(List.perm_append_comm.append_right w).trans (h.pm.trans List.perm_append_comm), h.ub, h.ua⟩
theorem MH.move (h : MH X a b w na nb) {L1 L2 : List Nat} (e : a.take na = L1 ++ L2) (hl : ∀ x ∈ L2, ∀ y ∈ b.take nb, X.r y ≤ X.r x) : MH X a b (L2 ++ w) L1.length nb := by
  have e2 : a.take L1.length = L1 := by
    have : (a.take na).take L1.length = L1 := by rw [e, List.take_left]
    rw [List.take_take] at this
    have hle : L1.length ≤ na := by
      have := congrArg List.length e
      rw [List.length_take, List.length_append] at this
      omega
    rwa [Nat.min_eq_left hle] at this
  obtain ⟨p, u, v⟩ := h
  rw [e] at p u
  have p' : (L1 ++ b.take nb ++ (L2 ++ w)).Perm (a ++ b) := by
    refine List.Perm.trans ?_ p
    rw [← List.append_assoc]
    refine List.Perm.append_right w ?_
    rw [List.append_assoc, List.append_assoc]
    exact List.perm_append_comm.append_left L1
  refine ⟨by rw [e2]; exact p', by rw [e2, ← List.append_assoc]; exact u, ?_⟩
  obtain ⟨u1, u2, u3⟩ := List.pairwise_append.1 u
  obtain ⟨v1, v2, v3⟩ := List.pairwise_append.1 v
  refine List.pairwise_append.2 ⟨v1, List.pairwise_append.2 ⟨(List.pairwise_append.1 u1).2.1, v2, fun x hx => u3 x (List.mem_append_right _ hx)⟩, fun y hy x hx => ?_⟩
  rcases List.mem_append.1 hx with hx | hx
  · exact hl x hx y hy
  · exact v3 y hy x hx
theorem MH.one (h : MH X a b w na nb) (h0 : 0 < na) (hn : na ≤ a.length) (e : a.take na = a.take (na - 1) ++ [x]) (hl : ∀ y ∈ b.take nb, X.r y ≤ X.r x) : MH X a b (x :: w) (na - 1) nb := by
  have := h.move e fun z hz => by cases List.mem_singleton.1 hz; exact hl
  rwa [List.length_take, Nat.min_eq_left (Nat.le_trans (Nat.sub_le _ _) hn)] at this
structure HP (X : Sc) (a b : List Nat) : Prop where
  ina : X.In a
  inb : X.In b
  first : ∀ y, b[0]? = some y → ∀ x ∈ a, X.r y ≤ X.r x
theorem MH.doneA (h : MH X a b w na nb) (e : na = 0) : MR X a b (hiDone (X.arr a) (X.arr b) (X.arr w.reverse) na nb) := by
  unfold hiDone
  rw [arr_beg, arr_beg, arr_rev, List.reverse_reverse, arr_app, arr_app]
  subst e
  exact ⟨_, rfl, h.ub, h.pm⟩
theorem MH.doneB (h : MH X a b w na nb) (e : nb = 0) : MR X a b (hiDone (X.arr a) (X.arr b) (X.arr w.reverse) na nb) := by
  unfold hiDone
  rw [arr_beg, arr_beg, arr_rev, List.reverse_reverse, arr_app, arr_app]
  subst e
  exact ⟨_, rfl, by rw [List.take_zero, List.append_nil]; exact h.ua, h.pm⟩
theorem MH.fst (h : MH X a b w na nb) (mp : HP X a b) (e : nb = 1) : MR X a b (hiFst (X.arr a) (X.arr b) (X.arr w.reverse) na nb) := by
  unfold hiFst
  rw [arr_beg, arr_beg, arr_rev, List.reverse_reverse, arr_app, arr_app]
  subst e
  refine ⟨_, rfl, ?_, (List.perm_append_comm.append_right w).trans h.pm⟩
  rw [List.append_assoc]
  obtain ⟨v1, v2, v3⟩ := List.pairwise_append.1 h.ub
  refine List.pairwise_append.2 ⟨v1, h.ua, fun y hy x hx => ?_⟩
  rcases List.mem_append.1 hx with hx | hx
  · obtain ⟨i, hi, ey⟩ := List.mem_take_iff_getElem.1 hy
    have : i = 0 := Nat.lt_one_iff.1 (Nat.lt_of_lt_of_le hi (Nat.min_le_left ..))
    subst this
    exact mp.first y (by rw [← ey]; exact List.getElem?_eq_getElem _) x (List.mem_of_mem_take hx)
  · exact v3 y hy x hx
structure HI (X : Sc) (a b : List Nat) (m : Nat) (w : List Nat) (na nb : Nat) : Prop where
  mh : MH X a b w na nb
  ha : 0 < na
  la : na ≤ a.length
  hb : 1 < nb
  lb : nb ≤ b.length
  hm : m ≤ w.length
theorem n_boundH {w a b i j m : Nat} (e : min i a + min j b + w = a + b) (h : 0 < i) (hl : i ≤ a) (hm : m ≤ w) : m < a + b := by omega
theorem HI.bound (h : HI X a b m w na nb) : m < a.length + b.length := by
  have := h.mh.pm.length_eq
  simp only [List.length_append, List.length_take] at this
  exact n_boundH this h.ha h.la h.hm
theorem HI.less (h : HI X a b m w na nb) (hm : m' ≤ m) : HI X a b m' w na nb := ⟨h.mh, h.ha, h.la, h.hb, h.lb, Nat.le_trans hm h.hm⟩
theorem out_push (w : List Nat) (x : Nat) : (X.arr w.reverse).push (kas_item X.it x) = X.arr (x :: w).reverse := by rw [arr_push, List.reverse_cons]
theorem ne0 (h : ¬(i == 0) = true) : 0 < i := Nat.pos_of_ne_zero fun e => h (by rw [e]; rfl)
theorem ne1 (h : ¬(i == 1) = true) (h0 : 0 < i) : 1 < i := Nat.lt_of_le_of_ne h0 fun e => h (by rw [← e]; rfl)
theorem hi1_ok (mp : HP X a b) (li : HI X a b m w na nb) {mg ac bc : Nat} {Q : SQ (ForInStep H1)}
    (hd : ∀ w na nb ac bc, HI X a b (m + 1) w na nb → Q (.done (none, na, nb, X.arr w.reverse, ac, bc)) (X.st p pd g)) (hy : ∀ w na nb ac bc, HI X a b (m + 1) w na nb → Q (.yield (none, na, nb, X.arr w.reverse, ac, bc)) (X.st p pd g))
    (hr : ∀ r o, MR X a b r → Q (.done (some r, o)) (X.st p pd g)) : X.W (hi1 (X.arr a) (X.arr b) mg na nb (X.arr w.reverse) ac bc) Q (X.st p pd g) := by
  obtain ⟨mh, h1, h2, h3, h4, h5⟩ := li
  have h3' := Nat.lt_of_succ_lt h3
  obtain ⟨y, ey, dy⟩ := at_take h3' h4
  obtain ⟨x, ex, dx⟩ := at_take h1 h2
  have ua := (List.pairwise_append.1 mh.ua).1
  have ub := (List.pairwise_append.1 mh.ub).1
  rw [dx] at ua
  rw [dy] at ub
  unfold hi1
  refine W.bind (W.elem ey (W.bind (W.elem ex (W.bind (W.lt (mp.inb y (List.mem_of_getElem? ey)) (mp.ina x (List.mem_of_getElem? ex)) ?_)))))
  dsimp only
  refine W.ite (fun c => ?_) (fun c => ?_)
  · have lt := of_decide_eq_true c
    have mh' := mh.one h1 h2 dx (by rw [dy]; exact up_last ub (Nat.le_of_lt lt))
    refine W.bind (W.elem ex ?_)
    rw [out_push]
    refine W.ite (fun c => W.pure (hr _ _ (mh'.doneA (eq_of_beq c)))) (fun c => ?_)
    have li : HI X a b (m + 1) (x :: w) (na - 1) nb := ⟨mh', ne0 c, Nat.le_trans (Nat.sub_le _ _) h2, h3, h4, Nat.succ_le_succ h5⟩
    exact W.ite (fun z_ => W.pure (hd _ _ _ _ _ li)) (fun z_ => W.pure (hy _ _ _ _ _ li))
  · have le := Nat.le_of_not_lt fun h => c (decide_eq_true h)
    have mh' := (mh.swap.one h3' h4 dy (by rw [dx]; exact up_last ua le)).swap
    refine W.bind (W.elem ey ?_)
    rw [out_push]
    refine W.ite (fun c => W.pure (hr _ _ (mh'.fst mp (eq_of_beq c)))) (fun c => ?_)
    have li : HI X a b (m + 1) (y :: w) na (nb - 1) := ⟨mh', h1, h2, ne1 c (Nat.sub_pos_of_lt h3), Nat.le_trans (Nat.sub_le _ _) h4, Nat.succ_le_succ h5⟩
    exact W.ite (fun z_ => W.pure (hd _ _ _ _ _ li)) (fun z_ => W.pure (hy _ _ _ _ _ li))
theorem hi1_loop (mp : HP X a b) (li : HI X a b m w na nb) 
    (hd : ∀ w na nb ac bc, HI X a b (m + 1) w na nb → Q (none, na, nb, X.arr w.reverse, ac, bc) (X.st p pd g)) (hr : ∀ r o, MR X a b r → Q (some r, o) (X.st p pd g)) :
    X.W (forIn [0:(X.arr a).size + (X.arr b).size] ((none, na, nb, X.arr w.reverse, 0, 0) : H1) fun z_ s => hi1 (X.arr a) (X.arr b) mg s.2.1 s.2.2.1 s.2.2.2.1 s.2.2.2.2.1 s.2.2.2.2.2) Q (X.st p pd g) := by
  refine W.loop (fun x c st' => st' = X.st p pd g ∧ ∃ w na nb ac bc, c = (none, na, nb, X.arr w.reverse, ac, bc) ∧ HI X a b (m + x) w na nb) ?_ ?_ ⟨rfl, w, na, nb, 0, 0, rfl, li⟩
  · rintro x c st' hx ⟨rfl, w, na, nb, ac, bc, rfl, li⟩
    exact hi1_ok mp li (fun w na nb ac bc h => hd w na nb ac bc (h.less (Nat.succ_le_succ (Nat.le_add_right ..)))) (fun w na nb ac bc h => ⟨rfl, w, na, nb, ac, bc, rfl, h⟩) hr
  · rintro c st' ⟨rfl, w, na, nb, ac, bc, rfl, li⟩
    have := li.bound
    rw [arr_size, arr_size] at this
    exact absurd this (Nat.not_lt_of_le (Nat.le_add_left ..))
end
section
variable {X : Sc} {p : List Nat} {pd : List (Nat × Nat × Nat)} {g : Nat} {a b w : List Nat} {na nb m : Nat} {st : SortSt}
structure J2 (X : Sc) (a b p : List Nat) (pd : List (Nat × Nat × Nat)) (m : Nat) (Q : SQ (ForInStep H2)) : Prop where
  dn : ∀ w na nb mg ac bc g, HI X a b m w na nb → Q (.done (none, na, nb, X.arr w.reverse, mg, ac, bc)) (X.st p pd g)
  yi : ∀ w na nb mg ac bc g, HI X a b m w na nb → Q (.yield (none, na, nb, X.arr w.reverse, mg, ac, bc)) (X.st p pd g)
  rt : ∀ r o g, MR X a b r → Q (.done (some r, o)) (X.st p pd g)
theorem hi2d_ok (li : HI X a b m w na nb) (le : ∀ x, a[na - 1]? = some x → ∀ y ∈ b.take nb, X.r y ≤ X.r x) {mg ac bc : Nat} {Q : SQ (ForInStep H2)} (k : J2 X a b p pd m Q) : X.W (hi2d (X.arr a) (X.arr b) mg na nb (X.arr w.reverse) ac bc) Q (X.st p pd g) := by
  obtain ⟨mh, h1, h2, h3, h4, h5⟩ := li
  obtain ⟨x, ex, dx⟩ := at_take h1 h2
  have mh' := mh.one h1 h2 dx (le x ex)
  unfold hi2d
  refine W.bind (W.elem ex ?_)
  rw [out_push]
  refine W.ite (fun c => W.pure (k.rt _ _ _ (mh'.doneA (eq_of_beq c)))) (fun c => ?_)
  have li : HI X a b m (x :: w) (na - 1) nb := ⟨mh', ne0 c, Nat.le_trans (Nat.sub_le _ _) h2, h3, h4, Nat.le_succ_of_le h5⟩
  exact W.ite (fun z_ => W.pure (k.dn _ _ _ _ _ _ _ li)) (fun z_ => W.pure (k.yi _ _ _ _ _ _ _ li))
theorem take_at {l : List Nat} (i : Nat) : ∀ j, j < (l.take i).length → l[0 + j]? = (l.take i)[j]? := fun j hj => by
  rw [Nat.zero_add, List.getElem?_take_of_lt (Nat.lt_of_lt_of_le hj (by rw [List.length_take]; exact Nat.min_le_left ..))]
theorem out_cut {l L1 L2 : List Nat} {i : Nat} (e : l.take i = L1 ++ L2) : X.arr w.reverse ++ ((X.arr l).extract L1.length i).reverse = X.arr (L2 ++ w).reverse := by
  have : (l.drop L1.length).take (i - L1.length) = L2 := by
    rw [← List.drop_take, e, List.drop_left]
  rw [arr_ext, this, arr_rev, arr_app, ← List.reverse_append]
theorem len_take {l : List Nat} {i : Nat} (h : i ≤ l.length) : (l.take i).length = i := by rw [List.length_take, Nat.min_eq_left h]
theorem cut_len {l L1 L2 : List Nat} {i : Nat} (e : l.take i = L1 ++ L2) (h : i ≤ l.length) : L1.length ≤ i := by
  rw [← len_take h, e, List.length_append]; exact Nat.le_add_right ..
theorem cut_nil {l L1 L2 : List Nat} {i : Nat} (e : l.take i = L1 ++ L2) (h : i ≤ l.length) (c : ¬i - L1.length > 0) : l.take i = L1 := by
  have hl := len_take h
  rw [e, List.length_append] at hl
  have : L2 = [] := List.length_eq_zero_iff.1 (by omega)
  rw [e, this, List.append_nil]
theorem hi2c_ok (mp : HP X a b) (li : HI X a b m w na nb) (le : ∀ y, b[nb - 1]? = some y → ∀ x ∈ a.take na, X.r x ≤ X.r y) {mg ac bc : Nat} {Q : SQ (ForInStep H2)} (k : J2 X a b p pd m Q) : X.W (hi2c (X.arr a) (X.arr b) mg na nb (X.arr w.reverse) ac bc) Q (X.st p pd g) := by
  obtain ⟨mh, h1, h2, h3, h4, h5⟩ := li
  have h3' := Nat.lt_of_succ_lt h3
  obtain ⟨y, ey, dy⟩ := at_take h3' h4
  obtain ⟨x, ex, dx⟩ := at_take h1 h2
  have mh' := (mh.swap.one h3' h4 dy (le y ey)).swap
  have ua := (List.pairwise_append.1 mh.ua).1
  rw [dx] at ua
  unfold hi2c
  refine W.bind (W.elem ey ?_)
  rw [out_push]
  refine W.ite (fun c => W.pure (k.rt _ _ _ (mh'.fst mp (eq_of_beq c)))) (fun c => ?_)
  have b1 := ne1 c (Nat.sub_pos_of_lt h3)
  have b2 : nb - 1 ≤ b.length := Nat.le_trans (Nat.sub_le _ _) h4
  have h5' : m ≤ (y :: w).length := Nat.le_succ_of_le h5
  refine W.bind (W.elem ex ?_)
  have gk := gal_ok (p := p) (pd := pd) (g := g) (left := true) (hint := nb - 1 - 1) (mp.ina x (List.mem_of_getElem? ex)) (take_at (nb - 1)) (List.pairwise_append.1 mh'.ub).1 (fun z hz => mp.inb z (List.mem_of_mem_take hz)) (by rw [len_take b2]; exact Nat.sub_lt (Nat.lt_of_succ_lt b1) Nat.one_pos)
  rw [len_take b2] at gk
  refine W.bind (W.mono gk ?_)
  rintro c st' ⟨rfl, h, L1, L2, rfl, ⟨e, rfl, c1, c2⟩⟩
  dsimp only
  have x1 : ∀ x', a[na - 1]? = some x' → ∀ y ∈ L1, X.r y ≤ X.r x' := fun x' e' y hy => by rw [ex] at e'; cases e'; exact Nat.le_of_lt (gT_left.1 (c1 y hy))
  refine W.ite (fun z_ => ?_) (fun c => ?_)
  · rw [out_cut e]
    have mh2 := (mh'.swap.move e (fun z hz t ht => by rw [dx] at ht; exact up_last ua (gT_left.2 (c2 z hz)) t ht)).swap
    refine W.ite (fun c => W.pure (k.rt _ _ _ (mh2.fst mp (eq_of_beq c)))) (fun c1 => ?_)
    refine W.ite (fun c => W.pure (k.rt _ _ _ (mh2.doneB (eq_of_beq c)))) (fun c2 => ?_)
    have hl := cut_len e b2
    have et : b.take L1.length = L1 := by
      have := congrArg (List.take L1.length) e
      rwa [List.take_take, Nat.min_eq_left hl, List.take_left] at this
    exact hi2d_ok ⟨mh2, h1, h2, ne1 c1 (ne0 c2), Nat.le_trans hl b2, by rw [List.length_append]; exact Nat.le_trans h5' (Nat.le_add_left ..)⟩ (fun x' e' y hy => x1 x' e' y (by rwa [et] at hy)) k
  · have e1 := cut_nil e b2 c
    exact hi2d_ok ⟨mh', h1, h2, b1, b2, h5'⟩ (fun x' e' y hy => x1 x' e' y (by rwa [e1] at hy)) k
theorem hi2b_ok (mp : HP X a b) (li : HI X a b m w na nb) {mg ac bc : Nat} {Q : SQ (ForInStep H2)} (k : J2 X a b p pd m Q) : X.W (hi2b (X.arr a) (X.arr b) na nb (X.arr w.reverse) ac bc mg) Q (X.st p pd g) := by
  have li' := li
  obtain ⟨mh, h1, h2, h3, h4, h5⟩ := li'
  obtain ⟨y, ey, dy⟩ := at_take (Nat.lt_of_succ_lt h3) h4
  have ub := (List.pairwise_append.1 mh.ub).1
  rw [dy] at ub
  unfold hi2b
  refine W.bind (setG_ok (W.bind (W.elem ey ?_)))
  have gk := gal_ok (p := p) (pd := pd) (g := mg) (left := false) (hint := na - 1) (mp.inb y (List.mem_of_getElem? ey)) (take_at na) (List.pairwise_append.1 mh.ua).1 (fun z hz => mp.ina z (List.mem_of_mem_take hz)) (by rw [len_take h2]; exact Nat.sub_lt h1 Nat.one_pos)
  rw [len_take h2] at gk
  refine W.bind (W.mono gk ?_)
  rintro c st' ⟨rfl, h, L1, L2, rfl, ⟨e, rfl, c1, c2⟩⟩
  dsimp only
  have x1 : ∀ y', b[nb - 1]? = some y' → ∀ x ∈ L1, X.r x ≤ X.r y' := fun y' e' x hx => by rw [ey] at e'; cases e'; exact gT_right.1 (c1 x hx)
  refine W.ite (fun z_ => ?_) (fun c => ?_)
  · rw [out_cut e]
    have mh2 := mh.move e (fun z hz t ht => by rw [dy] at ht; exact up_last ub (Nat.le_of_lt (gT_right.2 (c2 z hz))) t ht)
    refine W.ite (fun c => W.pure (k.rt _ _ _ (mh2.doneA (eq_of_beq c)))) (fun c1 => ?_)
    have hl := cut_len e h2
    have et : a.take L1.length = L1 := by
      have := congrArg (List.take L1.length) e
      rwa [List.take_take, Nat.min_eq_left hl, List.take_left] at this
    exact hi2c_ok mp ⟨mh2, ne0 c1, Nat.le_trans hl h2, h3, h4, by rw [List.length_append]; exact Nat.le_trans h5 (Nat.le_add_left ..)⟩ (fun x' e' y hy => x1 x' e' y (by rwa [et] at hy)) k
  · have e1 := cut_nil e h2 c
    exact hi2c_ok mp li (fun x' e' y hy => x1 x' e' y (by rwa [e1] at hy)) k
theorem hi2_loop (mp : HP X a b) (li : HI X a b m w na nb) {mg ac bc : Nat} {Q : SQ H2}
    (hd : ∀ w na nb mg ac bc g, HI X a b m w na nb → Q (none, na, nb, X.arr w.reverse, mg, ac, bc) (X.st p pd g)) (hr : ∀ r o g, MR X a b r → Q (some r, o) (X.st p pd g)) :
    X.W (forIn [0:(X.arr a).size + (X.arr b).size] ((none, na, nb, X.arr w.reverse, mg, ac, bc) : H2) fun z_ s => hi2 (X.arr a) (X.arr b) s.2.1 s.2.2.1 s.2.2.2.1 s.2.2.2.2.1 s.2.2.2.2.2.1 s.2.2.2.2.2.2) Q (X.st p pd g) := by
  refine W.loop (fun x c st' => ∃ w na nb mg ac bc g, st' = X.st p pd g ∧ c = (none, na, nb, X.arr w.reverse, mg, ac, bc) ∧ HI X a b m w na nb) ?_ ?_ ⟨w, na, nb, mg, ac, bc, g, rfl, rfl, li⟩
  · rintro x c st' hx ⟨w, na, nb, mg, ac, bc, g, rfl, rfl, li⟩
    have k : J2 X a b p pd m (Nx Q fun c st' => ∃ w na nb mg ac bc g, st' = X.st p pd g ∧ c = (none, na, nb, X.arr w.reverse, mg, ac, bc) ∧ HI X a b m w na nb) :=
      ⟨hd, fun w na nb mg ac bc g h => ⟨w, na, nb, mg, ac, bc, g, rfl, rfl, h⟩, hr⟩
    exact W.ite (fun z_ => hi2b_ok mp li k) (fun z_ => hi2b_ok mp li k)
  · rintro c st' ⟨w, na, nb, mg, ac, bc, g, rfl, rfl, li⟩
    exact hd w na nb mg ac bc g li
theorem hiAll_ok (mp : HP X a b) (ua : X.Up a) (ub : X.Up b) (h1 : 0 < a.length) (h2 : 0 < b.length) (hle : ∀ x, a[a.length - 1]? = some x → ∀ y ∈ b, X.r y ≤ X.r x) :
    X.W (mergeHi' (X.arr a) (X.arr b)) (fun r st' => MR X a b r ∧ ∃ g, st' = X.st p pd g) (X.st p pd g) := by
  rw [mergeHi'_eq]
  unfold hiAll
  obtain ⟨x, ex, dx⟩ := at_take h1 (Nat.le_refl _)
  have tb := List.take_of_length_le (Nat.le_refl b.length)
  have ta := List.take_of_length_le (Nat.le_refl a.length)
  have mh : MH X a b [x] (a.length - 1) b.length := MH.one (w := []) ⟨by rw [ta, tb, List.append_nil], by rw [ta, List.append_nil]; exact ua, by rw [tb, List.append_nil]; exact ub⟩ h1 (Nat.le_refl _) dx (by rw [tb]; exact hle x ex)
  have ea : (X.arr a).size = a.length := arr_size a
  have eb : (X.arr b).size = b.length := arr_size b
  refine W.bind (W.rule (W.bind (W.elem (by rw [ea]; exact ex) ?_)))
  have e1 : #[kas_item X.it x] = X.arr [x].reverse := rfl
  rw [e1, ea, eb]
  refine W.ite (fun c => W.pure ⟨mh.doneA (eq_of_beq c), g, rfl⟩) (fun c1 => ?_)
  refine W.ite (fun c => W.pure ⟨mh.fst mp (eq_of_beq c), g, rfl⟩) (fun c2 => ?_)
  refine W.bind (W.get (W.bind (W.loop (fun x c st' => ∃ w na nb mg g, st' = X.st p pd g ∧ c = (none, na, nb, X.arr w.reverse, mg) ∧ HI X a b (1 + x) w na nb) ?_ ?_ ⟨_, _, _, _, _, rfl, rfl, mh, ne0 c1, Nat.sub_le _ _, ne1 c2 h2, Nat.le_refl _, Nat.le_refl _⟩)))
  · rintro x c st' hx ⟨w, na, nb, mg, g, rfl, rfl, li⟩
    refine W.bind (hi1_loop mp li (fun w na nb ac bc li => ?_) (fun r o hr => W.pure (W.pure ⟨hr, g, rfl⟩)))
    refine W.bind (W.rule (W.bind (hi2_loop mp li (fun w na nb mg ac bc g li => ?_) (fun r o g hr => W.pure (W.pure ⟨hr, g, rfl⟩)))))
    exact W.bind (setG_ok (W.pure ⟨w, na, nb, _, _, rfl, rfl, li⟩))
  · rintro c st' ⟨w, na, nb, mg, g, rfl, rfl, li⟩
    exact absurd li.bound (Nat.not_lt_of_le (Nat.le_add_left ..))
end
noncomputable def maEnd (sa : Nat) (merged : AK) : SM Bool := do
  modify fun s => setArr s (merged.toList.zipIdx.foldl (fun a x => a.setIfInBounds (sa + x.2) x.1) (arrOf s))
  let t ← get
  pure (failedOf t).isNone
noncomputable def maB (arr : AK) (sa na sb nb : Nat) : SM Bool :=
  if (na == 0) = true then pure true else do
    let x ← elem' arr (sa + na - 1)
    let c ← gallop' true x arr sb nb (nb - 1)
    match c with
    | some nb => if (nb == 0) = true then pure true else if na ≤ nb then (mergeLo' (arr.extract sa sb) (arr.extract sb (sb + nb))) >>= maEnd sa else (mergeHi' (arr.extract sa sb) (arr.extract sb (sb + nb))) >>= maEnd sa
    | _ => pure false
noncomputable def maA (arr : AK) (sa na sb nb : Nat) : SM Bool := do
  let y ← elem' arr sb
  let c ← gallop' false y arr sa na 0
  match c with
  | some k => maB arr (sa + k) (na - k) sb nb
  | _ => pure false
noncomputable def maAll (i : Nat) : SM Bool := do
  let s ← get
  match ((pendingOf s)[i]?, (pendingOf s)[i + 1]?) with
  | (some (sa, na, power), some (sb, nb, _)) => do
    set (setPending s (((pendingOf s).setIfInBounds i (sa, na + nb, power)).eraseIdxIfInBounds (i + 1)))
    maA (arrOf s) sa na sb nb
  | _ => liftM (unsupported (α := Bool) "internal:list.sort.pending")
theorem mergeAt'_eq (i : Nat) : mergeAt' i = maAll i := rfl
section
variable {X : Sc} {st : SortSt}
theorem W.set {st' : SortSt} (h : Q ⟨⟩ st') : X.W (MonadStateOf.set st') Q st := by
  unfold Sc.W wpS; rw [StateT.run_set]; exact wpAny_pure ⟨rfl, h⟩
theorem write_ok : ∀ (o M pre : List Nat) (k : Nat), o.length = M.length → pre.length = sa + k →
    ((o.map (kas_item X.it)).zipIdx k).foldl (fun a x => a.setIfInBounds (sa + x.2) x.1) (X.arr (pre ++ (M ++ post))) = X.arr (pre ++ (o ++ post))
  | [], [], _, _, _, _ => rfl
  | z :: o, m :: M, pre, k, h1, h2 => by
    rw [List.map_cons, List.zipIdx_cons, List.foldl_cons]
    have e : (X.arr (pre ++ (m :: M ++ post))).setIfInBounds (sa + k) (kas_item X.it z) = X.arr (pre ++ [z] ++ (M ++ post)) := by
      unfold Sc.arr
      rw [List.setIfInBounds_toArray, List.map_append, List.set_append_right _ _ (by rw [List.length_map, h2]; exact Nat.le_refl _), List.length_map, h2, Nat.sub_self, List.append_assoc pre [z], List.map_append (l₁ := pre)]
      rfl
    show List.foldl _ ((X.arr (pre ++ (m :: M ++ post))).setIfInBounds (sa + k) (kas_item X.it z)) _ = _
    rw [e, write_ok o M (pre ++ [z]) (k + 1) (Nat.succ.inj h1) (by rw [List.length_append, h2]; rfl), List.append_assoc]
    rfl
theorem maEnd_ok (h : o.length = M.length) (hq : Q true (X.st (pre ++ (o ++ post)) pd g)) : X.W (maEnd pre.length (X.arr o)) Q (X.st (pre ++ (M ++ post)) pd g) := by
  refine W.bind (W.modify (W.bind (W.get (W.pure ?_))))
  have e := write_ok (X := X) (post := post) o M pre 0 h rfl
  show Q true (SortSt.mk' X.κ ((X.arr o).toList.zipIdx.foldl (fun a x => a.setIfInBounds (pre.length + x.2) x.1) (X.arr (pre ++ (M ++ post)))) pd.toArray g none)
  rw [show (X.arr o).toList = o.map (kas_item X.it) from rfl, e]
  exact hq
theorem app_at (l3 : List Nat) (h : i < l2.length) : (l1 ++ (l2 ++ l3))[l1.length + i]? = l2[i]? := by
  rw [List.getElem?_append_right (Nat.le_add_right ..), Nat.add_sub_cancel_left, List.getElem?_append_left h]
theorem arr_seg (l1 l2 l3 : List Nat) (h1 : i = l1.length) (h2 : j = l1.length + l2.length) : (X.arr (l1 ++ (l2 ++ l3))).extract i j = X.arr l2 := by
  rw [arr_ext, h1, h2, List.drop_left, Nat.add_sub_cancel_left, List.take_left]
structure MA (X : Sc) (P0 A B R : List Nat) : Prop where
  ia : X.In A
  ib : X.In B
  ua : X.Up A
  ub : X.Up B
  ha : 0 < A.length
  hb : 0 < B.length
noncomputable def MC (X : Sc) (P0 A B R : List Nat) (pd : List (Nat × Nat × Nat)) : SQ Bool := fun c st' => c = true ∧ ∃ C g, X.Up C ∧ C.Perm (A ++ B) ∧ st' = X.st (P0 ++ (C ++ R)) pd g
variable {P0 A B R : List Nat} {pd : List (Nat × Nat × Nat)} {g : Nat}
theorem MA.same (m : MA X P0 A B R) (h : ∀ x ∈ A, ∀ y ∈ B, X.r x ≤ X.r y) : MC X P0 A B R pd true (X.st (P0 ++ (A ++ (B ++ R))) pd g) :=
  ⟨rfl, A ++ B, g, List.pairwise_append.2 ⟨m.ua, m.ub, h⟩, List.Perm.refl _, by rw [List.append_assoc A B R]⟩
theorem maM_ok (m : MA X P0 (A0 ++ A1) (B0 ++ B1) R) (ou : X.Up o) (op : o.Perm (A1 ++ B0)) (h1 : ∀ x ∈ A0, ∀ y ∈ B0 ++ B1, X.r x ≤ X.r y) (h2 : ∀ x ∈ A1, ∀ y ∈ B1, X.r x ≤ X.r y) :
    MC X P0 (A0 ++ A1) (B0 ++ B1) R pd true (X.st (P0 ++ A0 ++ (o ++ (B1 ++ R))) pd g) := by
  refine ⟨rfl, A0 ++ (o ++ B1), g, ?_, ?_, by rw [List.append_assoc, List.append_assoc A0, List.append_assoc o]⟩
  · obtain ⟨a1, a2, a3⟩ := List.pairwise_append.1 m.ua
    obtain ⟨b1, b2, b3⟩ := List.pairwise_append.1 m.ub
    refine List.pairwise_append.2 ⟨a1, List.pairwise_append.2 ⟨ou, b2, fun x hx y hy => ?_⟩, fun x hx y hy => ?_⟩
    · rcases List.mem_append.1 (op.mem_iff.1 hx) with hx | hx
      · exact h2 x hx y hy
      · exact b3 x hx y hy
    · rcases List.mem_append.1 hy with hy | hy
      · rcases List.mem_append.1 (op.mem_iff.1 hy) with hy | hy
        · exact a3 x hx y hy
        · exact h1 x hx y (List.mem_append_left _ hy)
      · exact h1 x hx y (List.mem_append_right _ hy)
  · rw [List.append_assoc]
    refine List.Perm.append_left A0 ?_
    rw [← List.append_assoc]
    exact op.append_right B1
theorem maB_ok {A0 A1 : List Nat} (m : MA X P0 (A0 ++ A1) B R) {y : Nat} (ey : B[0]? = some y) (h1 : ∀ x ∈ A0, X.r x ≤ X.r y) (h2 : ∀ x ∈ A1, X.r y < X.r x) :
    X.W (maB (X.arr (P0 ++ (A0 ++ A1 ++ (B ++ R)))) (P0.length + A0.length) (A0 ++ A1 |>.length |> (· - A0.length)) (P0.length + (A0 ++ A1).length) B.length) (MC X P0 (A0 ++ A1) B R pd) (X.st (P0 ++ (A0 ++ A1 ++ (B ++ R))) pd g) := by
  have eA : (A0 ++ A1).length - A0.length = A1.length := by rw [List.length_append, Nat.add_sub_cancel_left]
  show X.W (maB _ _ ((A0 ++ A1).length - A0.length) _ _) _ _
  rw [eA]
  have hB : ∀ z ∈ B, X.r y ≤ X.r z := by
    obtain ⟨y', e', d⟩ := at_drop m.hb
    rw [ey] at e'; cases e'
    have := m.ub
    rw [List.drop_zero] at d
    rw [d] at this ⊢
    exact up_head this (Nat.le_refl _)
  have h0 : ∀ x ∈ A0, ∀ z ∈ B, X.r x ≤ X.r z := fun x hx z hz => Nat.le_trans (h1 x hx) (hB z hz)
  unfold maB
  refine W.ite (fun c => ?_) (fun c => ?_)
  · have : A1 = [] := List.length_eq_zero_iff.1 (eq_of_beq c)
    subst this
    exact W.pure (m.same (by rw [List.append_nil]; exact h0))
  · have a1 := ne0 c
    obtain ⟨x, ex, dx⟩ := at_take a1 (Nat.le_refl _)
    rw [List.take_of_length_le (Nat.le_refl _)] at dx
    have xl : ∀ z ∈ A0 ++ A1, X.r z ≤ X.r x := by
      have := m.ua
      rw [dx, ← List.append_assoc] at this ⊢
      exact up_last this (Nat.le_refl _)
    have ex' : (P0 ++ (A0 ++ A1 ++ (B ++ R)))[P0.length + A0.length + A1.length - 1]? = some x := by
      rw [← ex, Nat.add_sub_assoc a1, List.append_assoc A0, ← List.append_assoc P0, ← List.length_append]
      exact app_at _ (Nat.sub_lt a1 Nat.one_pos)
    have xA : x ∈ A1 := List.mem_of_getElem? ex
    refine W.bind (W.elem ex' (W.bind (W.mono (gal_ok (m.ia x (List.mem_append_right _ xA)) (fun i hi => ?_) m.ub m.ib (Nat.sub_lt m.hb Nat.one_pos)) ?_)))
    · rw [← List.append_assoc P0, ← List.length_append]
      exact app_at _ hi
    · rintro c st' ⟨rfl, h, B0, B1, rfl, ⟨rfl, rfl, c1, c2⟩⟩
      dsimp only
      have hb1 : ∀ z ∈ A0 ++ A1, ∀ t ∈ B1, X.r z ≤ X.r t := fun z hz t ht => Nat.le_trans (xl z hz) (gT_left.2 (c2 t ht))
      refine W.ite (fun c => ?_) (fun c => ?_)
      · have : B0 = [] := List.length_eq_zero_iff.1 (eq_of_beq c)
        subst this
        exact W.pure (m.same hb1)
      · have b0 := ne0 c
        have eB : B0[0]? = some y := by rw [← ey, List.getElem?_append_left b0]
        have s1 : (X.arr (P0 ++ (A0 ++ A1 ++ (B0 ++ B1 ++ R)))).extract (P0.length + A0.length) (P0.length + (A0 ++ A1).length) = X.arr A1 := by
          rw [List.append_assoc A0, ← List.append_assoc P0]
          exact arr_seg _ _ _ List.length_append.symm (by rw [List.length_append, List.length_append, Nat.add_assoc])
        have s2 : (X.arr (P0 ++ (A0 ++ A1 ++ (B0 ++ B1 ++ R)))).extract (P0.length + (A0 ++ A1).length) (P0.length + (A0 ++ A1).length + B0.length) = X.arr B0 := by
          rw [List.append_assoc B0, ← List.append_assoc P0]
          exact arr_seg _ _ _ List.length_append.symm (by rw [List.length_append (as := P0)])
        rw [s1, s2]
        have ua := (List.pairwise_append.1 m.ua).2.1
        have ub := (List.pairwise_append.1 m.ub).1
        have ina : X.In A1 := fun z hz => m.ia z (List.mem_append_right _ hz)
        have inb : X.In B0 := fun z hz => m.ib z (List.mem_append_left _ hz)
        have fin : ∀ r st', (MR X A1 B0 r ∧ ∃ g', st' = X.st (P0 ++ (A0 ++ A1 ++ (B0 ++ B1 ++ R))) pd g') → X.W (maEnd (P0.length + A0.length) r) (MC X P0 (A0 ++ A1) (B0 ++ B1) R pd) st' := by
          rintro r st' ⟨⟨o, rfl, ou, op⟩, g', rfl⟩
          have e : P0 ++ (A0 ++ A1 ++ (B0 ++ B1 ++ R)) = P0 ++ A0 ++ (A1 ++ B0 ++ (B1 ++ R)) := by simp only [List.append_assoc]
          rw [e, ← List.length_append]
          exact maEnd_ok op.length_eq (maM_ok m ou op h0 fun z hz => hb1 z (List.mem_append_right _ hz))
        have last : ∀ z, A1[A1.length - 1]? = some z → ∀ y ∈ B0, X.r y ≤ X.r z := fun z e y hy => by
          rw [ex] at e; cases e
          exact Nat.le_of_lt (gT_left.1 (c1 y hy))
        have fst : ∀ y, B0[0]? = some y → ∀ z ∈ A1, X.r y ≤ X.r z := fun y e z hz => by
          rw [eB] at e; cases e
          exact Nat.le_of_lt (h2 z hz)
        exact W.ite (fun z_ => W.bind (W.mono (loAll_ok ⟨ina, inb, fun y hy i z ei ez => last z (by rw [← ei]; exact ez) y hy⟩ ua ub a1 b0 fst) fin)) (fun z_ => W.bind (W.mono (hiAll_ok ⟨ina, inb, fst⟩ ua ub a1 b0 last) fin))
theorem maAll_ok (m : MA X P0 A B R) {D1 D2 : List (Nat × Nat × Nat)} {w w' : Nat} : X.W (mergeAt' D1.length) (MC X P0 A B R (D1 ++ (P0.length, A.length + B.length, w) :: D2))
    (X.st (P0 ++ (A ++ (B ++ R))) (D1 ++ (P0.length, A.length, w) :: (P0.length + A.length, B.length, w') :: D2) g) := by
  rw [mergeAt'_eq]
  unfold maAll
  refine W.bind (W.get ?_)
  have e1 : (pendingOf (X.st (P0 ++ (A ++ (B ++ R))) (D1 ++ (P0.length, A.length, w) :: (P0.length + A.length, B.length, w') :: D2) g))[D1.length]? = some (P0.length, A.length, w) := by
    show (D1 ++ (P0.length, A.length, w) :: (P0.length + A.length, B.length, w') :: D2).toArray[D1.length]? = _
    rw [List.getElem?_toArray, List.getElem?_append_right (Nat.le_refl _), Nat.sub_self]; rfl
  have e2 : (pendingOf (X.st (P0 ++ (A ++ (B ++ R))) (D1 ++ (P0.length, A.length, w) :: (P0.length + A.length, B.length, w') :: D2) g))[D1.length + 1]? = some (P0.length + A.length, B.length, w') := by
    show (D1 ++ (P0.length, A.length, w) :: (P0.length + A.length, B.length, w') :: D2).toArray[D1.length + 1]? = _
    rw [List.getElem?_toArray, List.getElem?_append_right (Nat.le_add_right ..), Nat.add_sub_cancel_left]; rfl
  rw [e1, e2]
  dsimp only
  refine W.bind (W.set ?_)
  have e3 : setPending (X.st (P0 ++ (A ++ (B ++ R))) (D1 ++ (P0.length, A.length, w) :: (P0.length + A.length, B.length, w') :: D2) g) (((D1 ++ (P0.length, A.length, w) :: (P0.length + A.length, B.length, w') :: D2).toArray.setIfInBounds D1.length (P0.length, A.length + B.length, w)).eraseIdxIfInBounds (D1.length + 1))
      = X.st (P0 ++ (A ++ (B ++ R))) (D1 ++ (P0.length, A.length + B.length, w) :: D2) g := by
    rw [List.setIfInBounds_toArray, List.eraseIdxIfInBounds_toArray, List.set_append_right _ _ (Nat.le_refl _), Nat.sub_self, List.eraseIdx_append_of_length_le (Nat.le_add_right ..), Nat.add_sub_cancel_left]
    rfl
  show X.W (maA (X.arr (P0 ++ (A ++ (B ++ R)))) _ _ _ _) _ (setPending (X.st (P0 ++ (A ++ (B ++ R))) (D1 ++ (P0.length, A.length, w) :: (P0.length + A.length, B.length, w') :: D2) g) (((D1 ++ (P0.length, A.length, w) :: (P0.length + A.length, B.length, w') :: D2).toArray.setIfInBounds D1.length (P0.length, A.length + B.length, w)).eraseIdxIfInBounds (D1.length + 1)))
  rw [e3]
  obtain ⟨y, ey, _⟩ := at_drop m.hb
  have ey' : (P0 ++ (A ++ (B ++ R)))[P0.length + A.length]? = some y := by
    rw [← ey, ← List.append_assoc P0, ← List.length_append]
    exact app_at (l1 := P0 ++ A) R m.hb
  unfold maA
  refine W.bind (W.elem ey' (W.bind (W.mono (gal_ok (m.ib y (List.mem_of_getElem? ey)) (fun i hi => app_at _ hi) m.ua m.ia m.ha) ?_)))
  rintro c st' ⟨rfl, h, A0, A1, rfl, ⟨rfl, rfl, c1, c2⟩⟩
  exact maB_ok m ey (fun x hx => gT_right.1 (c1 x hx)) (fun x hx => gT_right.2 (c2 x hx))
end
theorem map_mirror {α β : Type} (f : α → β) (l : Array α) (i j : Nat) : mirror (l.map f) i j ((j - i) / 2) = (mirror l i j ((j - i) / 2)).map f := kas_swaps_map f (fun k => i + k) (fun k => j - 1 - k) _ l
theorem n_rev (h : t < c) : p + (p + c) - 1 - (p + t) = p + (c - 1 - t) := by omega
theorem app_r (P l : List Nat) (t : Nat) : (P ++ l)[P.length + t]? = l[t]? := by rw [List.getElem?_append_right (Nat.le_add_right ..), Nat.add_sub_cancel_left]
theorem mirror_list (P C R : List Nat) : mirror (P ++ (C ++ R)).toArray P.length (P.length + C.length) ((P.length + C.length - P.length) / 2) = (P ++ (C.reverse ++ R)).toArray := by
  apply Array.ext_getElem?
  intro k
  rw [getElem?_mirror_all (by rw [List.size_toArray, List.length_append, List.length_append, ← Nat.add_assoc]; exact Nat.le_add_right ..), List.getElem?_toArray, List.getElem?_toArray, List.getElem?_toArray]
  by_cases h1 : P.length ≤ k
  · obtain ⟨t, rfl⟩ := Nat.exists_eq_add_of_le h1
    by_cases h2 : t < C.length
    · rw [if_pos ⟨h1, Nat.add_lt_add_left h2 _⟩, app_at R (l2 := C.reverse) (by rw [List.length_reverse]; exact h2), n_rev h2, app_at R (Nat.lt_of_le_of_lt (Nat.sub_le ..) (Nat.sub_lt (Nat.zero_lt_of_lt h2) Nat.one_pos)), List.getElem?_reverse h2]
    · have h2' := Nat.le_of_not_lt h2
      rw [if_neg fun q => h2 (Nat.lt_of_add_lt_add_left q.2), app_r, app_r, List.getElem?_append_right h2', List.getElem?_append_right (by rw [List.length_reverse]; exact h2'), List.length_reverse]
  · have h := Nat.lt_of_not_le h1
    rw [if_neg fun q => h1 q.1, List.getElem?_append_left h, List.getElem?_append_left h]
theorem bubble_list (P L R : List Nat) (z : Nat) : bubble (P ++ (L ++ z :: R)).toArray (P.length + L.length) L.length = (P ++ (z :: L ++ R)).toArray := by
  apply Array.ext_getElem?
  intro k
  rw [getElem?_bubble (by rw [List.size_toArray, List.length_append, List.length_append]; exact Nat.add_lt_add_left (Nat.lt_add_of_pos_right (Nat.succ_pos _)) _) _ (Nat.le_add_left ..), List.getElem?_toArray, List.getElem?_toArray, List.getElem?_toArray, List.getElem?_toArray, Nat.add_sub_cancel]
  by_cases h1 : P.length ≤ k
  · obtain ⟨t, rfl⟩ := Nat.exists_eq_add_of_le h1
    rw [app_r, app_r, app_r]
    cases t with
    | zero => rw [if_pos (Nat.add_zero _), List.getElem?_append_right (Nat.le_refl _), Nat.sub_self]; rfl
    | succ t =>
      rw [if_neg fun q => Nat.succ_ne_zero t (Nat.add_left_cancel (q.trans (Nat.add_zero _).symm)), List.cons_append, List.getElem?_cons_succ, show P.length + (t + 1) - 1 = P.length + t from rfl, app_r]
      by_cases h2 : t < L.length
      · rw [if_pos ⟨Nat.lt_add_of_pos_right (Nat.succ_pos t), Nat.add_le_add_left h2 _⟩, List.getElem?_append_left h2, List.getElem?_append_left h2]
      · have h2' := Nat.le_of_not_lt h2
        rw [if_neg fun q => h2 (Nat.le_of_add_le_add_left q.2), List.getElem?_append_right h2', List.getElem?_append_right (Nat.le_succ_of_le h2'), Nat.succ_sub h2', List.getElem?_cons_succ]
  · have h := Nat.lt_of_not_le h1
    rw [if_neg fun q => h1 (Nat.le_of_eq q.symm), if_neg fun q => h1 (Nat.le_of_lt q.1), List.getElem?_append_left h, List.getElem?_append_left h]
section
variable {X : Sc} {st : SortSt} {pd : List (Nat × Nat × Nat)} {g : Nat}
theorem arr_map (l : List Nat) : X.arr l = l.toArray.map (kas_item X.it) := by unfold Sc.arr; rw [List.map_toArray]
theorem rev_ok {P C R : List Nat} {i j : Nat} {Q : SQ Unit} (hi : i = P.length) (hj : j = P.length + C.length) (h : Q () (X.st (P ++ (C.reverse ++ R)) pd g)) : X.W (reverseSlice' i j) Q (X.st (P ++ (C ++ R)) pd g) := by
  rw [reverseSlice'_eq]
  refine W.modify ?_
  show Q () (SortSt.mk' X.κ (mirror (X.arr (P ++ (C ++ R))) i j ((j - i) / 2)) pd.toArray g none)
  rw [arr_map, map_mirror, hi, hj, mirror_list, ← arr_map]
  exact h
theorem mv_ok {P L R : List Nat} {z i j : Nat} {Q : SQ Unit} (hi : i = P.length + L.length) (hj : j = P.length) (h : Q () (X.st (P ++ (z :: L ++ R)) pd g)) : X.W (moveDown' i j) Q (X.st (P ++ (L ++ z :: R)) pd g) := by
  rw [moveDown'_eq]
  refine W.modify ?_
  show Q () (SortSt.mk' X.κ (bubble (X.arr (P ++ (L ++ z :: R))) i (i - j)) pd.toArray g none)
  have e : bubble (X.arr (P ++ (L ++ z :: R))) i (i - j) = X.arr (P ++ (z :: L ++ R)) := by
    rw [arr_map, hi, hj, Nat.add_sub_cancel_left]
    exact (kas_swaps_map (kas_item X.it) (fun k => P.length + L.length - k) (fun k => P.length + L.length - k - 1) _ _).trans (by rw [arr_map]; exact congrArg (Array.map _) (bubble_list P L R z))
  rw [e]
  exact h
theorem W.ltAt (ei : p[i]? = some x) (ej : p[j]? = some y) (hp : X.In p) (h : Q (some (decide (X.r x < X.r y))) (X.st p pd g)) : X.W (ltAt' i j) Q (X.st p pd g) := by
  rw [ltAt'_eq]
  exact W.bind (W.get (W.bind (W.elem ei (W.bind (W.elem ej (W.lt (hp x (List.mem_of_getElem? ei)) (hp y (List.mem_of_getElem? ej)) h))))))
theorem W.loopA {β : Type} {a n : Nat} {f : Nat → β → SM (ForInStep β)} (I : Nat → β → SortSt → Prop) {Q : SQ β} (hn : a ≤ n)
    (hstep : ∀ i c st, i < n → I i c st → X.W (f i c) (Nx Q (I (i + 1))) st)
    (hend : ∀ c st, I n c st → Q c st) {c : β} (h : I a c st) : X.W (forIn [a:n] c f) Q st :=
  wpS_forRange I (fun i c st z_ hi h => W.mono (hstep i c st hi h) fun r st' h => by cases r <;> exact h) (fun c st h => hend c st (by rwa [Nat.max_eq_right hn] at h)) h
end
noncomputable def cAsc (lo n : Nat) : SM (ForInStep AscSt) := do
  let x ← ltAt' (lo + n) (lo + n - 1)
  match x with
  | some smaller => if smaller = true then pure (.done (none, n)) else pure (.yield (none, n + 1))
  | _ => pure (.done (some none, n))
noncomputable def cTail (lo n nrem : Nat) : SM (Option Nat) := do
  reverseSlice' lo (lo + n)
  let s ← forIn [n:nrem] ((none, n) : AscSt) fun z_ s => cAsc lo s.2
  match s.1 with
  | some r => pure r
  | none => pure (some s.2)
noncomputable def cDs (lo n q : Nat) : SM (ForInStep DescSt) := do
  let x ← ltAt' (lo + n) (lo + n - 1)
  match x with
  | some smaller =>
    if smaller = true then
      if q > 0 then do
        reverseSlice' (lo + n - (q + 1)) (lo + n)
        pure (.yield (none, n + 1, 0))
      else pure (.yield (none, n + 1, 0))
    else do
      let x ← ltAt' (lo + n - 1) (lo + n)
      match x with
      | some larger => if larger = true then pure (.done (none, n, q)) else pure (.yield (none, n + 1, q + 1))
      | _ => pure (.done (some none, n, q))
  | _ => pure (.done (some none, n, q))
noncomputable def cDesc (lo n nrem : Nat) : SM (Option Nat) := do
  liftM (rule "list.sort.descending-run")
  let s ← forIn [n + 1:nrem] ((none, n + 1, 0) : DescSt) fun z_ s => cDs lo s.2.1 s.2.2
  match s.1 with
  | some r => pure r
  | none => if s.2.2 > 0 then reverseSlice' (lo + s.2.1 - (s.2.2 + 1)) (lo + s.2.1) >>= fun z_ => cTail lo s.2.1 nrem else cTail lo s.2.1 nrem
noncomputable def cMid (lo nrem n : Nat) : SM (Option Nat) := do
  let x ← ltAt' lo (lo + n - 1)
  match x with
  | some rose => if rose = true then pure (some n) else reverseSlice' lo (lo + n) >>= fun z_ => cDesc lo n nrem
  | _ => pure none
noncomputable def cRun (lo nrem : Nat) : SM (Option Nat) := do
  let s ← forIn [1:nrem] ((none, 1) : AscSt) fun z_ s => cAsc lo s.2
  match s.1 with
  | some r => pure r
  | none => if (s.2 == nrem) = true then pure (some s.2) else if s.2 > 1 then cMid lo nrem s.2 else cDesc lo s.2 nrem
theorem cDesc_cut {lo n nrem : Nat} {f : DescSt → SM (Option Nat)} (h1 : ∀ r s, f (some r, s) = pure r)
    (h2 : ∀ n q, f (none, n, q) = if q > 0 then reverseSlice' (lo + n - (q + 1)) (lo + n) >>= fun z_ => cTail lo n nrem else cTail lo n nrem) :
    (liftM (rule "list.sort.descending-run") >>= fun z_ => (forIn [n + 1:nrem] ((none, n + 1, 0) : DescSt) fun z_ s => cDs lo s.2.1 s.2.2) >>= f) = cDesc lo n nrem := by
  refine congrArg (bind _) (funext fun z_ => congrArg (bind _) (funext fun s => ?_))
  obtain ⟨r, n, q⟩ := s
  cases r with
  | some r => exact h1 r _
  | none => exact h2 n q
theorem cTail_cut {lo n nrem : Nat} {f : AscSt → SM (Option Nat)} (h1 : ∀ r s, f (some r, s) = pure r) (h2 : ∀ n, f (none, n) = pure (some n)) :
    (reverseSlice' lo (lo + n) >>= fun z_ => (forIn [n:nrem] ((none, n) : AscSt) fun z_ s => cAsc lo s.2) >>= f) = cTail lo n nrem := by
  refine congrArg (bind _) (funext fun z_ => congrArg (bind _) (funext fun s => ?_))
  obtain ⟨r, n⟩ := s
  cases r with
  | some r => exact h1 r _
  | none => exact h2 n
theorem countRun'_cut (lo nrem : Nat) : countRun' lo nrem = cRun lo nrem := by
  rw [countRun'_eq]
  refine congrArg (bind _) (funext fun s => ?_)
  obtain ⟨r, n⟩ := s
  cases r with
  | some r => rfl
  | none =>
    show (if (n == nrem) = true then _ else if n > 1 then _ else _) = if (n == nrem) = true then _ else if n > 1 then _ else _
    refine congrArg (ite _ _) (congr (congrArg (ite _) (congrArg (bind _) (funext fun x => ?_))) ?_)
    · cases x with
      | none => rfl
      | some x =>
        cases x with
        | true => rfl
        | false => exact congrArg (bind _) (funext fun z_ => cDesc_cut (fun z_ z_ => rfl) (fun n q => by
          show (if q > 0 then _ else _) = _
          by_cases h : q > 0
          · rw [if_pos h, if_pos h]; exact congrArg (bind _) (funext fun z_ => cTail_cut (fun z_ z_ => rfl) (fun z_ => rfl))
          · rw [if_neg h, if_neg h]; exact cTail_cut (fun z_ z_ => rfl) (fun z_ => rfl)))
    · exact cDesc_cut (fun z_ z_ => rfl) (fun n q => by
          show (if q > 0 then _ else _) = _
          by_cases h : q > 0
          · rw [if_pos h, if_pos h]; exact congrArg (bind _) (funext fun z_ => cTail_cut (fun z_ z_ => rfl) (fun z_ => rfl))
          · rw [if_neg h, if_neg h]; exact cTail_cut (fun z_ z_ => rfl) (fun z_ => rfl))
section
variable {X : Sc} {pd : List (Nat × Nat × Nat)} {g : Nat} {P S : List Nat}
abbrev Sc.Dn (X : Sc) (l : List Nat) : Prop := l.Pairwise fun x y => X.r y ≤ X.r x
theorem pw_snoc {R : Nat → Nat → Prop} (tr : ∀ {a b c}, R a b → R b c → R a c) (h : (l ++ [y]).Pairwise R) (hz : R y z) : (l ++ [y] ++ [z]).Pairwise R := by
  refine List.pairwise_append.2 ⟨h, List.pairwise_singleton .., fun a ha b hb => ?_⟩
  cases List.mem_singleton.1 hb
  rcases List.mem_append.1 ha with ha | ha
  · exact tr ((List.pairwise_append.1 h).2.2 a ha y (List.mem_singleton.2 rfl)) hz
  · cases List.mem_singleton.1 ha; exact hz
theorem last_of (h : l ≠ []) : ∃ l' y, l = l' ++ [y] := ⟨l.dropLast, l.getLast h, (List.dropLast_concat_getLast h).symm⟩
theorem at_next (P L : List Nat) (z : Nat) (R : List Nat) : (P ++ (L ++ z :: R))[P.length + L.length]? = some z := by
  rw [← List.append_assoc, ← List.length_append, List.getElem?_append_right (Nat.le_refl _), Nat.sub_self]; rfl
theorem at_last (P L : List Nat) (y : Nat) (R : List Nat) (hn : n = (L ++ [y]).length) : (P ++ (L ++ [y] ++ R))[P.length + n - 1]? = some y := by
  rw [hn, List.length_append, List.append_assoc]
  exact at_next P L y R
theorem asc_loop (hin : X.In (P ++ S)) : ∀ {C R : List Nat} {y : Nat} {Q : SQ AscSt}, S = C ++ [y] ++ R → X.Up (C ++ [y]) →
    (∀ C y R, S = C ++ [y] ++ R → X.Up (C ++ [y]) → (∀ z ∈ R.head?, X.r z < X.r y) → Q (none, (C ++ [y]).length) (X.st (P ++ S) pd g)) → ∀ n, n = (C ++ [y]).length →
    X.W (forIn [n:S.length] ((none, n) : AscSt) fun z_ s => cAsc P.length s.2) Q (X.st (P ++ S) pd g) := fun {C R y Q} e u hq n hn => by
  have hle : n ≤ S.length := by rw [hn, e, List.length_append (as := C ++ [y])]; exact Nat.le_add_right ..
  refine W.loopA (fun x c st' => st' = X.st (P ++ S) pd g ∧ c = (none, x) ∧ ∃ C y R, S = C ++ [y] ++ R ∧ X.Up (C ++ [y]) ∧ x = (C ++ [y]).length) hle ?_ ?_ ⟨rfl, rfl, C, y, R, e, u, hn⟩
  · rintro x c st' hx ⟨rfl, rfl, C, y, R, e, u, rfl⟩
    cases R with
    | nil => rw [e, List.append_nil] at hx; exact absurd hx (Nat.lt_irrefl _)
    | cons z R =>
      have e1 : (P ++ S)[P.length + (C ++ [y]).length]? = some z := by rw [e]; exact at_next P _ z R
      have e2 : (P ++ S)[P.length + (C ++ [y]).length - 1]? = some y := by rw [e]; exact at_last P C y _ rfl
      unfold cAsc
      refine W.bind (W.ltAt e1 e2 hin ?_)
      dsimp only
      refine W.ite (fun c => W.pure (hq C y (z :: R) e u fun t ht => ?_)) (fun c => W.pure ⟨rfl, rfl, C ++ [y], z, R, by rw [e, List.append_assoc _ [z]]; rfl, ?_, by rw [List.length_append (as := C ++ [y])]; rfl⟩)
      · cases ht; exact of_decide_eq_true c
      · exact pw_snoc (R := fun a b => X.r a ≤ X.r b) Nat.le_trans u (Nat.le_of_not_lt fun h => c (decide_eq_true h))
  · rintro c st' ⟨rfl, rfl, C, y, R, e, u, h⟩
    have : R = [] := List.length_eq_zero_iff.1 (by rw [e, List.length_append (as := C ++ [y])] at h; omega)
    subst this
    rw [h]
    exact hq C y [] e u fun t ht => by cases ht
noncomputable def RC (X : Sc) (P S : List Nat) (pd : List (Nat × Nat × Nat)) (g : Nat) : SQ (Option Nat) := fun c st' => ∃ C R, c = some C.length ∧ 0 < C.length ∧ X.Up C ∧ (C ++ R).Perm S ∧ st' = X.st (P ++ (C ++ R)) pd g
theorem cTail_ok {C R S : List Nat} (hin : X.In (P ++ S)) (hp : (C ++ R).Perm S) (hc : C ≠ []) (hd : X.Dn C) {n : Nat} (hn : n = C.length) : X.W (cTail P.length n S.length) (RC X P S pd g) (X.st (P ++ (C ++ R)) pd g) := by
  unfold cTail
  have hr : (C.reverse ++ R).Perm S := ((List.reverse_perm C).append_right R).trans hp
  have hin' : X.In (P ++ (C.reverse ++ R)) := fun x hx => hin x ((hr.append_left P).mem_iff.1 hx)
  have hu : X.Up C.reverse := List.pairwise_reverse.2 hd
  refine W.bind (rev_ok rfl (by rw [hn]) ?_)
  obtain ⟨C', y, e⟩ := last_of (l := C.reverse) (by simpa using hc)
  have hl : S.length = (C.reverse ++ R).length := hr.length_eq.symm
  rw [hl]
  refine W.bind (asc_loop (S := C.reverse ++ R) hin' (C := C') (y := y) (R := R) (by rw [e]) (by rw [← e]; exact hu) (fun C1 y1 R1 e1 u1 z_ => W.pure ⟨C1 ++ [y1], R1, rfl, ?_, u1, by rw [← e1]; exact hr, by rw [← e1]⟩) n (by rw [← e, List.length_reverse]; exact hn))
  rw [List.length_append]; exact Nat.succ_pos _
structure DS (X : Sc) (S C1 C2 R : List Nat) : Prop where
  pm : (C1 ++ (C2 ++ R)).Perm S
  dn : X.Dn (C1 ++ C2)
  al : ∀ x ∈ C2, ∀ y ∈ C2, X.r x = X.r y
theorem DS.rev {C1 C2 R : List Nat} (h : DS X S C1 C2 R) : X.Dn (C1 ++ C2.reverse) ∧ (C1 ++ (C2.reverse ++ R)).Perm S := by
  obtain ⟨a1, a2, a3⟩ := List.pairwise_append.1 h.dn
  exact ⟨List.pairwise_append.2 ⟨a1, List.pairwise_reverse.2 (List.pairwise_of_forall_mem_list fun x hx y hy => Nat.le_of_eq (h.al x hx y hy)), fun x hx y hy => a3 x hx y (List.mem_reverse.1 hy)⟩,
    (((List.reverse_perm C2).append_right R).append_left C1).trans h.pm⟩
theorem desc_loop (hin : X.In (P ++ S)) {C1 C2 R : List Nat} {Q : SQ DescSt} (h0 : DS X S C1 C2 R) (h2 : C2.length = 1)
    (hq : ∀ C1 C2 R q, DS X S C1 C2 R → C2.length = q + 1 → Q (none, (C1 ++ C2).length, q) (X.st (P ++ (C1 ++ (C2 ++ R))) pd g)) {n : Nat} (hn : n = (C1 ++ C2).length) :
    X.W (forIn [n:S.length] ((none, n, 0) : DescSt) fun z_ s => cDs P.length s.2.1 s.2.2) Q (X.st (P ++ (C1 ++ (C2 ++ R))) pd g) := by
  have hle : n ≤ S.length := by rw [hn, ← h0.pm.length_eq, ← List.append_assoc, List.length_append (bs := R)]; exact Nat.le_add_right ..
  refine W.loopA (fun x c st' => ∃ C1 C2 R q, DS X S C1 C2 R ∧ C2.length = q + 1 ∧ x = (C1 ++ C2).length ∧ c = (none, x, q) ∧ st' = X.st (P ++ (C1 ++ (C2 ++ R))) pd g) hle ?_ ?_ ⟨C1, C2, R, 0, h0, h2, hn, rfl, rfl⟩
  · rintro x c st' hx ⟨C1, C2, R, q, h, h2, rfl, rfl, rfl⟩
    have hin' : X.In (P ++ (C1 ++ (C2 ++ R))) := fun x hx => hin x ((h.pm.append_left P).mem_iff.1 hx)
    cases R with
    | nil => rw [← h.pm.length_eq, List.append_nil] at hx; exact absurd hx (Nat.lt_irrefl _)
    | cons z R =>
      obtain ⟨L, y, e⟩ := last_of (l := C2) (by intro e; rw [e] at h2; cases h2)
      have ez : (P ++ (C1 ++ (C2 ++ z :: R)))[P.length + (C1 ++ C2).length]? = some z := by rw [← List.append_assoc C1]; exact at_next P _ z R
      have ey : (P ++ (C1 ++ (C2 ++ z :: R)))[P.length + (C1 ++ C2).length - 1]? = some y := by
        rw [e, ← List.append_assoc C1, ← List.append_assoc C1]; exact at_last P (C1 ++ L) y _ rfl
      have yC : y ∈ C2 := by rw [e]; exact List.mem_append_right _ (List.mem_singleton.2 rfl)
      have dz : X.r z ≤ X.r y → X.Dn (C1 ++ C2 ++ [z]) := fun hz => by
        have := h.dn
        rw [e, ← List.append_assoc] at this ⊢
        exact pw_snoc (R := fun a b => X.r b ≤ X.r a) (fun h1 h2 => Nat.le_trans h2 h1) this hz
      have len : (C1 ++ C2).length + 1 = (C1 ++ C2 ++ [z]).length := by rw [List.length_append (as := C1 ++ C2)]; rfl
      unfold cDs
      refine W.bind (W.ltAt ez ey hin' ?_)
      dsimp only
      refine W.ite (fun c => ?_) (fun c => ?_)
      · have dn := dz (Nat.le_of_lt (of_decide_eq_true c))
        refine W.ite (fun z_ => ?_) (fun z_ => ?_)
        · have e1 : P ++ (C1 ++ (C2 ++ z :: R)) = P ++ C1 ++ (C2 ++ z :: R) := by rw [List.append_assoc P]
          have lr : (C1 ++ C2).length = C1.length + (q + 1) := by rw [List.length_append, h2]
          rw [e1]
          refine W.bind (rev_ok (P := P ++ C1) (by rw [lr, List.length_append, ← Nat.add_assoc, Nat.add_sub_cancel]) (by rw [lr, List.length_append, h2, Nat.add_assoc]) (W.pure ⟨C1 ++ C2.reverse, [z], R, 0, ⟨?_, ?_, ?_⟩, rfl, ?_, rfl, ?_⟩))
          · rw [List.append_assoc]; exact h.rev.2
          · obtain ⟨a1, a2, a3⟩ := List.pairwise_append.1 dn
            exact List.pairwise_append.2 ⟨h.rev.1, a2, fun x hx => a3 x (((List.reverse_perm C2).append_left C1).mem_iff.1 hx)⟩
          · intro a ha b hb; rw [List.mem_singleton.1 ha, List.mem_singleton.1 hb]
          · rw [len]; simp only [List.length_append, List.length_reverse]
          · rw [List.append_assoc P, List.append_assoc C1]; rfl
        · exact W.pure ⟨C1 ++ C2, [z], R, 0, ⟨by rw [List.append_assoc]; exact h.pm, dn, fun a ha b hb => by rw [List.mem_singleton.1 ha, List.mem_singleton.1 hb]⟩, rfl, len, rfl, by rw [List.append_assoc C1]; rfl⟩
      · have hle := Nat.le_of_not_lt fun h => c (decide_eq_true h)
        refine W.bind (W.ltAt ey ez hin' ?_)
        dsimp only
        refine W.ite (fun c => W.pure (hq C1 C2 (z :: R) q h h2)) (fun c => ?_)
        have hz := Nat.le_of_not_lt fun h => c (decide_eq_true h)
        have heq := Nat.le_antisymm hz hle
        have al : ∀ x ∈ C2 ++ [z], X.r x = X.r y := fun x hx => by
          rcases List.mem_append.1 hx with hx | hx
          · exact h.al x hx y yC
          · rw [List.mem_singleton.1 hx]; exact heq
        exact W.pure ⟨C1, C2 ++ [z], R, q + 1, ⟨by rw [List.append_assoc C2]; exact h.pm, by rw [← List.append_assoc]; exact dz hz, fun a ha b hb => (al a ha).trans (al b hb).symm⟩, by rw [List.length_append, h2]; rfl, by rw [len, List.append_assoc], rfl, by rw [List.append_assoc C2]; rfl⟩
  · rintro c st' ⟨C1, C2, R, q, h, h2, hx, rfl, rfl⟩
    rw [hx]
    exact hq C1 C2 R q h h2
theorem cDesc_ok (hin : X.In (P ++ S)) {C : List Nat} {z : Nat} {R : List Nat} (hp : (C ++ z :: R).Perm S) (hd : X.Dn (C ++ [z])) {n : Nat} (hn : n = C.length) : X.W (cDesc P.length n S.length) (RC X P S pd g) (X.st (P ++ (C ++ z :: R)) pd g) := by
  unfold cDesc
  refine W.bind (W.rule (W.bind (desc_loop (C1 := C) (C2 := [z]) (R := R) hin ⟨hp, hd, fun a ha b hb => by rw [List.mem_singleton.1 ha, List.mem_singleton.1 hb]⟩ rfl (fun C1 C2 R q h h2 => ?_) (by rw [hn, List.length_append]; rfl))))
  have ne : C1 ++ C2 ≠ [] := fun e => by have := congrArg List.length e; rw [List.length_append, h2] at this; cases this
  refine W.ite (fun z_ => ?_) (fun z_ => ?_)
  · have lr : (C1 ++ C2).length = C1.length + (q + 1) := by rw [List.length_append, h2]
    rw [← List.append_assoc P]
    refine W.bind (rev_ok (P := P ++ C1) (by rw [lr, List.length_append, ← Nat.add_assoc, Nat.add_sub_cancel]) (by rw [lr, List.length_append, h2, Nat.add_assoc]) ?_)
    rw [List.append_assoc P, ← List.append_assoc C1]
    refine cTail_ok hin (by rw [List.append_assoc]; exact h.rev.2) (fun e => ne ?_) h.rev.1 (by simp only [List.length_append, List.length_reverse])
    rw [List.append_eq_nil_iff] at e ⊢; exact ⟨e.1, List.reverse_eq_nil_iff.1 e.2⟩
  · rw [← List.append_assoc C1]
    exact cTail_ok hin (by rw [List.append_assoc]; exact h.pm) ne h.dn rfl
theorem cRun_ok (hin : X.In (P ++ S)) (hs : 0 < S.length) : X.W (countRun' P.length S.length) (RC X P S pd g) (X.st (P ++ S) pd g) := by
  rw [countRun'_cut]
  unfold cRun
  cases S with
  | nil => cases hs
  | cons s0 S0 =>
  refine W.bind (asc_loop hin (C := []) (y := s0) (R := S0) rfl (List.pairwise_singleton ..) (fun C y R e u hlt => ?_) 1 rfl)
  have fin : RC X P (s0 :: S0) pd g (some (C ++ [y]).length) (X.st (P ++ (s0 :: S0)) pd g) := ⟨C ++ [y], R, rfl, by rw [List.length_append]; exact Nat.succ_pos _, u, by rw [e], by rw [e]⟩
  refine W.ite (fun z_ => W.pure fin) (fun c => ?_)
  cases R with
  | nil => exact absurd (by rw [e, List.append_nil]; exact beq_self_eq_true _) c
  | cons z R =>
    have lt := hlt z rfl
    rw [e] at fin hin ⊢
    refine W.ite (fun c => ?_) (fun c => ?_)
    · unfold cMid
      cases C with
      | nil => exact absurd c (Nat.lt_irrefl _)
      | cons x C =>
        refine W.bind (W.ltAt (x := x) (y := y) (by rw [List.getElem?_append_right (Nat.le_refl _), Nat.sub_self]; rfl) (at_last P _ y _ rfl) hin ?_)
        dsimp only
        refine W.ite (fun z_ => W.pure fin) (fun c => ?_)
        have hyx := Nat.le_of_not_lt fun h => c (decide_eq_true h)
        have all : ∀ t ∈ x :: C ++ [y], X.r t = X.r y := fun t ht => Nat.le_antisymm (up_last u (Nat.le_refl _) t ht) (Nat.le_trans hyx (up_head (x := x) (l := C ++ [y]) u (Nat.le_refl _) t ht))
        refine W.bind (rev_ok rfl rfl (cDesc_ok hin ((List.reverse_perm _).append_right _) ?_ (by rw [List.length_reverse])))
        refine List.pairwise_append.2 ⟨List.pairwise_reverse.2 (List.pairwise_of_forall_mem_list fun a ha b hb => Nat.le_of_eq ((all a ha).trans (all b hb).symm)), List.pairwise_singleton .., fun a ha b hb => ?_⟩
        cases List.mem_singleton.1 hb
        rw [all a (List.mem_reverse.1 ha)]; exact Nat.le_of_lt lt
    · have : C = [] := List.length_eq_zero_iff.1 (by rw [List.length_append] at c; exact Nat.eq_zero_of_not_pos fun h => c (Nat.succ_lt_succ h))
      subst this
      refine cDesc_ok hin (List.Perm.refl _) ?_ rfl
      exact List.pairwise_cons.2 ⟨fun t ht => by rw [List.mem_singleton.1 ht]; exact Nat.le_of_lt lt, List.pairwise_singleton ..⟩
end
abbrev BSt := Option Bool × Nat × Nat
noncomputable def bIn (lo k l r : Nat) : SM (ForInStep BSt) :=
  if l ≥ r then pure (.done (none, l, r)) else do
    let x ← ltAt' (lo + k) (lo + (l + r) / 2)
    match x with
    | some less => if less = true then pure (.yield (none, l, (l + r) / 2)) else pure (.yield (none, (l + r) / 2 + 1, r))
    | _ => pure (.done (some false, l, r))
noncomputable def bOut (lo k : Nat) : SM (ForInStep (Option Bool × Unit)) := do
  let s ← forIn [0:k] ((none, 0, k) : BSt) fun z_ s => bIn lo k s.2.1 s.2.2
  match s.1 with
  | some r => pure (.done (some r, ()))
  | none => do
    moveDown' (lo + k) (lo + s.2.1)
    pure (.yield (none, ()))
noncomputable def bAll (lo n ok : Nat) : SM Bool := do
  let s ← forIn [max ok 1:n] ((none, ()) : Option Bool × Unit) fun k z_ => bOut lo k
  match s.1 with
  | some r => pure r
  | none => pure true
theorem binarySort'_cut (lo n ok : Nat) : binarySort' lo n ok = bAll lo n ok := by
  rw [binarySort'_eq]
  refine congr (congrArg bind (congrArg (forIn _ _) (funext fun k => funext fun s => ?_))) (funext fun s => ?_)
  · refine congrArg (bind _) (funext fun s => ?_)
    obtain ⟨r, s⟩ := s
    cases r <;> rfl
  · obtain ⟨r, s⟩ := s
    cases r <;> rfl
section
variable {X : Sc} {pd : List (Nat × Nat × Nat)} {g : Nat} {P : List Nat}
theorem n_mid2 (h : ¬ l ≥ r) : l ≤ (l + r) / 2 ∧ (l + r) / 2 < r := by omega
theorem bIn_ok {C R : List Nat} {z : Nat} (hin : X.In (P ++ (C ++ z :: R))) (u : X.Up C) {Q : SQ BSt}
    (hq : ∀ C1 C2 r, Cut (gT X false z) C C1.length C1 C2 → Q (none, C1.length, r) (X.st (P ++ (C ++ z :: R)) pd g)) :
    X.W (forIn [0:C.length] ((none, 0, C.length) : BSt) fun z_ s => bIn P.length C.length s.2.1 s.2.2) Q (X.st (P ++ (C ++ z :: R)) pd g) := by
  have ez : (P ++ (C ++ z :: R))[P.length + C.length]? = some z := at_next P C z R
  have fin : ∀ l r, GIn (fun i => gT X false z (C.getD i 0)) C.length l r → l = r → Q (none, l, r) (X.st (P ++ (C ++ z :: R)) pd g) := fun l r gi e => by
    subst e
    have c : Cut (gT X false z) C l (C.take l) (C.drop l) := GOk.cut ⟨gi.hn, gi.lo, gi.hi⟩
    have := hq (C.take l) (C.drop l) l (by rw [c.len]; exact c)
    rwa [c.len] at this
  have mono : ∀ i j, i ≤ j → j < C.length → X.r (C.getD i 0) ≤ X.r (C.getD j 0) := fun i j hij hj => by
    rw [getD_at (Nat.lt_of_le_of_lt hij hj), getD_at hj]
    rcases Nat.lt_or_eq_of_le hij with hi | rfl
    · exact List.pairwise_iff_getElem.1 u i j _ hj hi
    · exact Nat.le_refl _
  refine W.loop (fun x c st' => st' = X.st (P ++ (C ++ z :: R)) pd g ∧ ∃ l r, c = (none, l, r) ∧ GIn (fun i => gT X false z (C.getD i 0)) C.length l r ∧ r - l ≤ C.length - x) ?_ ?_ ⟨rfl, 0, C.length, rfl, ⟨Nat.zero_le _, Nat.le_refl _, fun i hi => absurd hi (Nat.not_lt_zero _), fun i h1 h2 => absurd h2 (Nat.not_lt_of_le h1)⟩, Nat.le_refl _⟩
  · rintro x c st' hx ⟨rfl, l, r, rfl, gi, hm⟩
    unfold bIn
    dsimp only
    refine W.ite (fun h => W.pure (fin l r gi (Nat.le_antisymm gi.lh h))) (fun h => ?_)
    obtain ⟨m, em⟩ : ∃ m, (l + r) / 2 = m := ⟨_, rfl⟩
    rw [em]
    obtain ⟨h1, h2⟩ := n_mid2 h
    rw [em] at h1 h2
    have mn := Nat.lt_of_lt_of_le h2 gi.hn
    have ey : (P ++ (C ++ z :: R))[P.length + m]? = some (C.getD m 0) := by
      rw [app_at _ mn, getD_at mn, List.getElem?_eq_getElem mn]
    refine W.bind (W.ltAt ez ey hin ?_)
    dsimp only
    refine W.ite (fun c => W.pure ⟨rfl, l, m, rfl, ⟨h1, Nat.le_of_lt mn, gi.lo, fun i hi hn => ?_⟩, n_dec hm (Nat.sub_lt_sub_right h1 h2)⟩) (fun c => W.pure ⟨rfl, m + 1, r, rfl, ⟨h2, gi.hn, fun i hi => ?_, gi.hi⟩, n_dec hm (Nat.sub_lt_sub_left (Nat.lt_of_not_le h) (Nat.lt_succ_of_le h1))⟩)
    · have := Nat.lt_of_lt_of_le (of_decide_eq_true c) (mono m i hi hn)
      unfold gT
      rw [if_neg Bool.false_ne_true, decide_eq_true this]; rfl
    · have := Nat.le_trans (mono i m (Nat.le_of_lt_succ hi) mn) (Nat.le_of_not_lt fun h => c (decide_eq_true h))
      unfold gT
      rw [if_neg Bool.false_ne_true, decide_eq_false (Nat.not_lt_of_le this)]; rfl
  · rintro c st' ⟨rfl, l, r, rfl, gi, hm⟩
    exact fin l r gi (Nat.le_antisymm gi.lh (n_end hm))
theorem bin_ok {C R : List Nat} (hin : X.In (P ++ (C ++ R))) (u : X.Up C) (hc : 0 < C.length) {n : Nat} (h1 : C.length ≤ n) (hn : n ≤ (C ++ R).length) {Q : SQ Bool}
    (hq : ∀ C' R', X.Up C' → C'.length = n → (C' ++ R').Perm (C ++ R) → Q true (X.st (P ++ (C' ++ R')) pd g)) : X.W (binarySort' P.length n C.length) Q (X.st (P ++ (C ++ R)) pd g) := by
  rw [binarySort'_cut]
  unfold bAll
  rw [Nat.max_eq_left hc]
  refine W.bind (W.loopA (fun k c st' => c = (none, ()) ∧ ∃ C' R', X.Up C' ∧ C'.length = k ∧ (C' ++ R').Perm (C ++ R) ∧ st' = X.st (P ++ (C' ++ R')) pd g) h1 ?_ ?_ ⟨rfl, C, R, u, rfl, List.Perm.refl _, rfl⟩)
  · rintro k c st' hk ⟨rfl, C', R', u', rfl, p', rfl⟩
    have hl := p'.length_eq
    cases R' with
    | nil => rw [List.append_nil] at hl; exact absurd hk (Nat.not_lt_of_le (by rw [hl]; exact hn))
    | cons z R' =>
      have hin' : X.In (P ++ (C' ++ z :: R')) := fun x hx => hin x ((p'.append_left P).mem_iff.1 hx)
      unfold bOut
      refine W.bind (bIn_ok hin' u' fun C1 C2 r cut => ?_)
      obtain ⟨rfl, _, y1, y2⟩ := cut
      have e : P ++ (C1 ++ C2 ++ z :: R') = P ++ C1 ++ (C2 ++ z :: R') := by simp only [List.append_assoc]
      rw [e]
      refine W.bind (mv_ok (by rw [List.length_append, List.length_append, Nat.add_assoc]) List.length_append.symm (W.pure ⟨rfl, C1 ++ (z :: C2), R', ?_, ?_, ?_, ?_⟩))
      · obtain ⟨a1, a2, a3⟩ := List.pairwise_append.1 u'
        have zz : ∀ y ∈ C2, X.r z ≤ X.r y := fun y hy => Nat.le_of_lt (gT_right.2 (y2 y hy))
        refine List.pairwise_append.2 ⟨a1, List.pairwise_cons.2 ⟨zz, a2⟩, fun x hx y hy => ?_⟩
        rcases List.mem_cons.1 hy with rfl | hy
        · exact gT_right.1 (y1 x hx)
        · exact a3 x hx y hy
      · rw [List.length_append, List.length_append]; rfl
      · refine List.Perm.trans ?_ p'
        rw [List.append_assoc, List.append_assoc]
        exact List.Perm.append_left C1 List.perm_middle.symm
      · simp only [List.append_assoc, List.cons_append]
  · rintro c st' ⟨rfl, C', R', u', hk, p', rfl⟩
    exact W.pure (hq C' R' u' hk p')
end
inductive Runs (X : Sc) : Nat → List Nat → List (Nat × Nat × Nat) → Prop
  | nil (b : Nat) : Runs X b [] []
  | cons {b : Nat} {A P : List Nat} {pd : List (Nat × Nat × Nat)} (w : Nat) (u : X.Up A) (h : 0 < A.length) (t : Runs X (b + A.length) P pd) : Runs X b (A ++ P) ((b, A.length, w) :: pd)
section
variable {X : Sc}
theorem Runs.len (r : Runs X b P pd) : pd.length ≤ P.length := by
  induction r with
  | nil => exact Nat.le_refl _
  | cons w u h t ih => rw [List.length_append, List.length_cons, Nat.add_comm]; exact Nat.add_le_add h ih
theorem Runs.one (r : Runs X b P pd) (h : pd.length ≤ 1) : X.Up P := by
  cases r with
  | nil => exact List.Pairwise.nil
  | cons w u h0 t =>
    cases t with
    | nil => rw [List.append_nil]; exact u
    | cons => exact absurd h (by simp)
theorem Runs.push (r : Runs X b P pd) (u : X.Up C) (h : 0 < C.length) (w : Nat) : Runs X b (P ++ C) (pd ++ [(b + P.length, C.length, w)]) := by
  induction r with
  | nil b =>
    have := Runs.cons w u h (Runs.nil (X := X) (b + C.length))
    rwa [List.append_nil] at this
  | cons w' u' h' t ih =>
    rw [List.append_assoc, List.cons_append, List.length_append, ← Nat.add_assoc]
    exact .cons w' u' h' ih
theorem Runs.weigh (r : Runs X b P pd) (pw : Nat) : ∀ i, Runs X b P (pd.modify i fun x => (x.1, x.2.1, pw)) := by
  induction r with
  | nil b => intro i; rw [List.modify_nil]; exact .nil b
  | cons w u h t ih =>
    intro i
    cases i with
    | zero => exact .cons pw u h t
    | succ i => exact .cons w u h (ih i)
set_option tactic.hygienic true in
theorem Runs.split : ∀ {D1 : List (Nat × Nat × Nat)} {b : Nat} {P : List Nat}, Runs X b P (D1 ++ x :: y :: D2) →
    ∃ P0 A B R w w', P = P0 ++ (A ++ (B ++ R)) ∧ x = (b + P0.length, A.length, w) ∧ y = (b + P0.length + A.length, B.length, w') ∧ (X.Up A ∧ X.Up B ∧ 0 < A.length ∧ 0 < B.length) ∧
      ∀ C, X.Up C → C.length = A.length + B.length → Runs X b (P0 ++ (C ++ R)) (D1 ++ (b + P0.length, A.length + B.length, w) :: D2)
  | [], b, P, r => by
    cases r with
    | cons w u h t =>
      cases t with
      | cons w' u' h' t =>
        refine ⟨[], _, _, _, w, w', rfl, rfl, rfl, ⟨u, u', h, h'⟩, fun C uc e => ?_⟩
        have := Runs.cons (b := b) w uc (by rw [e]; exact Nat.lt_of_lt_of_le h (Nat.le_add_right _ _)) (by rw [e, ← Nat.add_assoc]; exact t)
        rw [e] at this
        exact this
  | d :: D1, b, P, r => by
    cases r with
    | cons w u h t =>
      rename_i A0 _
      obtain ⟨P0, A, B, R, w1, w2, rfl, rfl, rfl, a, c⟩ := Runs.split t
      refine ⟨A0 ++ P0, A, B, R, w1, w2, (List.append_assoc ..).symm, ?_, ?_, a, fun C uc e => ?_⟩
      · rw [List.length_append, Nat.add_assoc]
      · rw [List.length_append, Nat.add_assoc b]
      · have := Runs.cons w u h (c C uc e)
        rw [List.append_assoc, List.length_append, ← Nat.add_assoc]
        exact this
theorem two_at {α : Type} : ∀ {l : List α} {i : Nat}, i + 2 ≤ l.length → ∃ D1 x y D2, l = D1 ++ x :: y :: D2 ∧ D1.length = i
  | x :: y :: D2, 0, _ => ⟨[], x, y, D2, rfl, rfl⟩
  | d :: l, i + 1, h => by
    obtain ⟨D1, x, y, D2, e, e2⟩ := two_at (l := l) (i := i) (Nat.le_of_succ_le_succ (by rw [Nat.add_right_comm] at h; exact h))
    exact ⟨d :: D1, x, y, D2, by rw [e]; rfl, by rw [List.length_cons, e2]⟩
structure SRn (X : Sc) (L P S : List Nat) (pd : List (Nat × Nat × Nat)) : Prop where
  pm : (P ++ S).Perm L
  rn : Runs X 0 P pd
variable {L P S : List Nat} {pd : List (Nat × Nat × Nat)} {g : Nat}
theorem mergeAt_ok (hL : X.In L) (s : SRn X L P S pd) {i : Nat} (hi : i + 2 ≤ pd.length) {Q : SQ Bool} (hq : ∀ P' pd' g', SRn X L P' S pd' → P'.length = P.length → pd'.length + 1 = pd.length → Q true (X.st (P' ++ S) pd' g')) : X.W (mergeAt' i) Q (X.st (P ++ S) pd g) := by
  obtain ⟨pm, rn⟩ := s
  obtain ⟨D1, x, y, D2, rfl, rfl⟩ := two_at hi
  obtain ⟨P0, A, B, R, w, w', rfl, rfl, rfl, ⟨ua, ub, ha, hb⟩, go⟩ := rn.split
  rw [Nat.zero_add] at go ⊢
  have hin : X.In (P0 ++ (A ++ (B ++ R)) ++ S) := fun x hx => hL x (pm.mem_iff.1 hx)
  have e : P0 ++ (A ++ (B ++ R)) ++ S = P0 ++ (A ++ (B ++ (R ++ S))) := by simp only [List.append_assoc]
  rw [e] at hin ⊢
  refine W.mono (maAll_ok (R := R ++ S) ⟨fun x hx => hin x (by simp [hx]), fun x hx => hin x (by simp [hx]), ua, ub, ha, hb⟩) ?_
  rintro c st' ⟨rfl, C, g', uc, pc, rfl⟩
  have lc : C.length = A.length + B.length := by rw [pc.length_eq, List.length_append]
  have e2 : P0 ++ (C ++ (R ++ S)) = P0 ++ (C ++ R) ++ S := by simp only [List.append_assoc]
  rw [e2]
  refine hq _ _ _ ⟨List.Perm.trans ?_ pm, go C uc lc⟩ ?_ ?_
  · refine List.Perm.append_right S (List.Perm.append_left P0 ?_)
    rw [← List.append_assoc A]
    exact List.Perm.append_right R pc
  · rw [List.length_append, List.length_append, List.length_append, List.length_append, List.length_append, lc, Nat.add_assoc A.length]
  · rw [List.length_append, List.length_append]; rfl
end
abbrev RSt := Option Unit × Nat
abbrev USt := Option Unit × Unit
noncomputable def srP (pw : Nat) : SM (ForInStep USt) := do
  let s ← get
  match (if (pendingOf s).size > 1 then (pendingOf s)[(pendingOf s).size - 2]? else none) with
  | some (_, _, older) => if older ≤ pw then pure (.done (none, ())) else do
      let c ← mergeAt' ((pendingOf s).size - 2)
      if (!c) = true then pure (.done (some (), ())) else pure (.yield (none, ()))
  | _ => pure (.done (none, ()))
noncomputable def srEnd (lo n : Nat) : SM (ForInStep RSt) := do
  modify fun s => setPending s ((pendingOf s).push (lo, n, 0))
  pure (.yield (none, lo + n))
noncomputable def srD (size lo n s1 n1 : Nat) : SM (ForInStep RSt) := do
  let t ← forIn [0:size] ((none, ()) : USt) fun z_ z_ => srP (power' size (2 * s1 + n1) (2 * s1 + n1 + n1 + n) size)
  match t.1 with
  | some r => pure (.done (some r, lo))
  | none => do
    modify fun s => setPending s ((pendingOf s).modify ((pendingOf s).size - 1) fun x => (x.1, x.2.1, power' size (2 * s1 + n1) (2 * s1 + n1 + n1 + n) size))
    srEnd lo n
noncomputable def srC (size lo n : Nat) : SM (ForInStep RSt) := do
  let s ← get
  match (pendingOf s).back? with
  | some (s1, n1, _) => srD size lo n s1 n1
  | _ => srEnd lo n
noncomputable def srB (size minrun lo n : Nat) : SM (ForInStep RSt) :=
  if n < minrun then do
    liftM (rule "list.sort.binary-insertion")
    let c ← binarySort' lo (min (size - lo) minrun) n
    if (!c) = true then pure (.done (some (), lo)) else srC size lo (min (size - lo) minrun)
  else srC size lo n
noncomputable def srA (size minrun lo : Nat) : SM (ForInStep RSt) :=
  if lo ≥ size then pure (.done (none, lo)) else do
    let x ← countRun' lo (size - lo)
    match x with
    | some found => srB size minrun lo found
    | _ => pure (.done (some (), lo))
noncomputable def srF : SM (ForInStep USt) := do
  let s ← get
  if (pendingOf s).size ≤ 1 then pure (.done (none, ())) else do
    let c ← mergeAt' (if (if (pendingOf s).size - 2 > 0 then (pendingOf s)[(pendingOf s).size - 2 - 1]?.map (·.2.1) else none).any (· < ((pendingOf s)[(pendingOf s).size - 2 + 1]?.elim 0 (·.2.1))) = true then (pendingOf s).size - 2 - 1 else (pendingOf s).size - 2)
    if (!c) = true then pure (.done (some (), ())) else pure (.yield (none, ()))
noncomputable def srAll : SM Unit := do
  let s ← get
  let t ← forIn [0:(arrOf s).size] ((none, 0) : RSt) fun z_ c => srA (arrOf s).size (minRun' (arrOf s).size (arrOf s).size 0) c.2
  match t.1 with
  | some r => pure r
  | none => do
    let t ← forIn [0:(arrOf s).size] ((none, ()) : USt) fun z_ z_ => srF
    match t.1 with
    | some r => pure r
    | none => pure ()
theorem sortRuns'_cut : sortRuns' = srAll := by
  rw [sortRuns'_eq]
  refine congrArg (bind _) (funext fun s => ?_)
  refine congr (congrArg bind (congrArg (forIn _ _) (funext fun k => funext fun c => ?_))) (funext fun t => ?_)
  · refine congrArg (ite _ _) (congrArg (bind _) (funext fun x => ?_))
    cases x with
    | none => rfl
    | some found =>
      show (if found < minRun' (arrOf s).size (arrOf s).size 0 then _ else _) = (if found < minRun' (arrOf s).size (arrOf s).size 0 then _ else _)
      refine congr (congrArg (ite _) (congrArg (bind _) (funext fun z_ => congrArg (bind _) (funext fun b => ?_)))) ?_
      · show (if (!b) = true then _ else _) = (if (!b) = true then _ else _)
        refine congrArg (ite _ _) ?_
        refine congrArg (bind get) (funext fun s' => ?_)
        cases (pendingOf s').back? with
        | none => rfl
        | some v =>
          obtain ⟨s1, n1, w⟩ := v
          refine congr (congrArg bind (congrArg (forIn _ _) (funext fun k => funext fun c => ?_))) (funext fun t => ?_)
          · refine congrArg (bind get) (funext fun s' => ?_)
            show (match (if (pendingOf s').size > 1 then (pendingOf s')[(pendingOf s').size - 2]? else none) with | some (_, _, older) => _ | _ => _) = (match (if (pendingOf s').size > 1 then (pendingOf s')[(pendingOf s').size - 2]? else none) with | some (_, _, older) => _ | _ => _)
            cases (if (pendingOf s').size > 1 then (pendingOf s')[(pendingOf s').size - 2]? else none) <;> rfl
          · obtain ⟨r, t⟩ := t
            cases r <;> rfl
      · refine congrArg (bind get) (funext fun s' => ?_)
        cases (pendingOf s').back? with
        | none => rfl
        | some v =>
          obtain ⟨s1, n1, w⟩ := v
          refine congr (congrArg bind (congrArg (forIn _ _) (funext fun k => funext fun c => ?_))) (funext fun t => ?_)
          · refine congrArg (bind get) (funext fun s' => ?_)
            show (match (if (pendingOf s').size > 1 then (pendingOf s')[(pendingOf s').size - 2]? else none) with | some (_, _, older) => _ | _ => _) = (match (if (pendingOf s').size > 1 then (pendingOf s')[(pendingOf s').size - 2]? else none) with | some (_, _, older) => _ | _ => _)
            cases (if (pendingOf s').size > 1 then (pendingOf s')[(pendingOf s').size - 2]? else none) <;> rfl
          · obtain ⟨r, t⟩ := t
            cases r <;> rfl
  · obtain ⟨r, t⟩ := t
    cases r with
    | some r => rfl
    | none =>
      refine congrArg (bind _) (funext fun t => ?_)
      obtain ⟨r, t⟩ := t
      cases r <;> rfl
section
variable {X : Sc} {L P S : List Nat} {pd : List (Nat × Nat × Nat)} {g : Nat}
noncomputable def SIn (X : Sc) (L : List Nat) (x : Nat) : RSt → SortSt → Prop := fun c st => ∃ P S pd g, SRn X L P S pd ∧ c = (none, P.length) ∧ st = X.st (P ++ S) pd g ∧ x ≤ P.length
noncomputable def SDn (X : Sc) (L : List Nat) : RSt → SortSt → Prop := fun c st => ∃ P pd g m, SRn X L P [] pd ∧ c = (none, m) ∧ st = X.st P pd g
theorem srEnd_ok {C R : List Nat} {x lo : Nat} (s : SRn X L P (C ++ R) pd) (u : X.Up C) (h : 0 < C.length) (hlo : lo = P.length) (hx : x ≤ P.length) : X.W (srEnd lo C.length) (Nx (SDn X L) (SIn X L (x + 1))) (X.st (P ++ (C ++ R)) pd g) := by
  refine W.bind (W.modify (W.pure ?_))
  subst hlo
  have r := s.rn.push u h 0
  rw [Nat.zero_add] at r
  refine ⟨P ++ C, R, pd ++ [(P.length, C.length, 0)], g, ⟨by rw [List.append_assoc]; exact s.pm, r⟩, by rw [List.length_append], ?_, by rw [List.length_append]; exact Nat.add_le_add hx h⟩
  show SortSt.mk' X.κ (X.arr (P ++ (C ++ R))) (pd.toArray.push (P.length, C.length, 0)) g none = _
  rw [List.push_toArray, ← List.append_assoc]; rfl
theorem srP_ok (hL : X.In L) (s : SRn X L P S pd) {pw n : Nat} (hn : P.length = n) {Q : SQ USt} (hq : ∀ P' pd' g', SRn X L P' S pd' → P'.length = n → Q (none, ()) (X.st (P' ++ S) pd' g')) :
    X.W (srP pw) (Nx Q fun c st' => ∃ P' pd' g', SRn X L P' S pd' ∧ P'.length = n ∧ c = (none, ()) ∧ st' = X.st (P' ++ S) pd' g') (X.st (P ++ S) pd g) := by
  refine W.bind (W.get ?_)
  have dn : Nx Q (fun c st' => ∃ P' pd' g', SRn X L P' S pd' ∧ P'.length = n ∧ c = (none, ()) ∧ st' = X.st (P' ++ S) pd' g') (.done (none, ())) (X.st (P ++ S) pd g) := hq P pd g s hn
  have ep : pendingOf (X.st (P ++ S) pd g) = pd.toArray := rfl
  rw [ep, List.size_toArray]
  by_cases h1 : pd.length > 1
  · rw [if_pos h1]
    cases pd.toArray[pd.length - 2]? with
    | none => exact W.pure dn
    | some v =>
      obtain ⟨a, b, older⟩ := v
      refine W.ite (fun z_ => W.pure dn) (fun z_ => W.bind (mergeAt_ok hL s (Nat.le_of_eq (Nat.sub_add_cancel h1)) fun P' pd' g' s' l1 l2 => ?_))
      exact W.ite (fun c => absurd c (by decide)) (fun z_ => W.pure ⟨P', pd', g', s', l1.trans hn, rfl, rfl⟩)
  · rw [if_neg h1]; exact W.pure dn
theorem srC_ok (hL : X.In L) {C R : List Nat} {x lo size : Nat} (s : SRn X L P (C ++ R) pd) (u : X.Up C) (h : 0 < C.length) (hlo : lo = P.length) (hx : x ≤ P.length) : X.W (srC size lo C.length) (Nx (SDn X L) (SIn X L (x + 1))) (X.st (P ++ (C ++ R)) pd g) := by
  refine W.bind (W.get ?_)
  cases (pendingOf (X.st (P ++ (C ++ R)) pd g)).back? with
  | none => exact srEnd_ok s u h hlo hx
  | some v =>
    obtain ⟨s1, n1, w⟩ := v
    show X.W (srD size lo C.length s1 n1) _ _
    unfold srD
    generalize power' size (2 * s1 + n1) (2 * s1 + n1 + n1 + C.length) size = pw
    have fin : ∀ P' pd' g', SRn X L P' (C ++ R) pd' → P'.length = P.length → X.W (match ((none, ()) : USt).1 with
        | some r => pure (.done (some r, lo))
        | none => do
          modify fun s => setPending s ((pendingOf s).modify ((pendingOf s).size - 1) fun x => (x.1, x.2.1, pw))
          srEnd lo C.length) (Nx (SDn X L) (SIn X L (x + 1))) (X.st (P' ++ (C ++ R)) pd' g') := fun P' pd' g' s' l => by
      refine W.bind (W.modify ?_)
      have e : setPending (X.st (P' ++ (C ++ R)) pd' g') ((pendingOf (X.st (P' ++ (C ++ R)) pd' g')).modify ((pendingOf (X.st (P' ++ (C ++ R)) pd' g')).size - 1) fun x => (x.1, x.2.1, pw)) = X.st (P' ++ (C ++ R)) (pd'.modify (pd'.length - 1) fun x => (x.1, x.2.1, pw)) g' := by
        show SortSt.mk' X.κ (X.arr (P' ++ (C ++ R))) (pd'.toArray.modify (pd'.toArray.size - 1) fun x => (x.1, x.2.1, pw)) g' none = _
        rw [List.size_toArray, List.modify_toArray]; rfl
      rw [e]
      exact srEnd_ok ⟨s'.pm, s'.rn.weigh pw _⟩ u h (hlo.trans l.symm) (by rw [l]; exact hx)
    refine W.bind (W.loop (fun z_ c st' => ∃ P' pd' g', SRn X L P' (C ++ R) pd' ∧ P'.length = P.length ∧ c = (none, ()) ∧ st' = X.st (P' ++ (C ++ R)) pd' g') ?_ ?_ ⟨P, pd, g, s, rfl, rfl, rfl⟩)
    · rintro i c st' hi ⟨P', pd', g', s', l, rfl, rfl⟩
      exact srP_ok hL s' l fin
    · rintro c st' ⟨P', pd', g', s', l, rfl, rfl⟩
      exact fin P' pd' g' s' l
theorem srA_ok (hL : X.In L) (s : SRn X L P S pd) {x m : Nat} (hx : x ≤ P.length) : X.W (srA L.length m P.length) (Nx (SDn X L) (SIn X L (x + 1))) (X.st (P ++ S) pd g) := by
  have hl : P.length + S.length = L.length := by rw [← List.length_append]; exact s.pm.length_eq
  refine W.ite (fun c => ?_) (fun c => ?_)
  · have : S = [] := List.length_eq_zero_iff.1 (Nat.le_zero.1 (Nat.le_of_add_le_add_left (a := P.length) (by rw [hl]; exact c)))
    subst this
    exact W.pure ⟨P, pd, g, P.length, s, rfl, by rw [List.append_nil]⟩
  · have hs : L.length - P.length = S.length := by rw [← hl, Nat.add_sub_cancel_left]
    rw [hs]
    have hin : X.In (P ++ S) := fun y hy => hL y (s.pm.mem_iff.1 hy)
    refine W.bind (W.mono (cRun_ok hin (by rw [← hs]; exact Nat.sub_pos_of_lt (Nat.lt_of_not_le c))) ?_)
    rintro c st' ⟨C, R, rfl, c0, u, p, rfl⟩
    have s' : SRn X L P (C ++ R) pd := ⟨(List.Perm.append_left P p).trans s.pm, s.rn⟩
    have hin' : X.In (P ++ (C ++ R)) := fun y hy => hL y (s'.pm.mem_iff.1 hy)
    have lc : C.length ≤ S.length := by rw [← p.length_eq, List.length_append]; exact Nat.le_add_right _ _
    show X.W (srB L.length m P.length C.length) _ _
    refine W.ite (fun h => W.bind (W.rule (W.bind ?_))) (fun z_ => srC_ok hL s' u c0 rfl hx)
    rw [hs]
    refine bin_ok hin' u c0 (Nat.le_min.2 ⟨lc, Nat.le_of_lt h⟩) (by rw [p.length_eq]; exact Nat.min_le_left _ _) fun C' R' u' l' p' => ?_
    refine W.ite (fun c => absurd c (by decide)) (fun z_ => ?_)
    rw [← l']
    exact srC_ok hL ⟨(List.Perm.append_left P p').trans s'.pm, s.rn⟩ u' (by rw [l']; exact Nat.lt_of_lt_of_le c0 (Nat.le_min.2 ⟨lc, Nat.le_of_lt h⟩)) rfl hx
noncomputable def SZn (X : Sc) (L : List Nat) : SQ Unit := fun z_ st => ∃ p pd g, st = X.st p pd g ∧ p.Perm L ∧ X.Up p
theorem sort_all (hL : X.In L) : X.W sortRuns' (SZn X L) (X.st L [] g) := by
  rw [sortRuns'_cut]
  refine W.bind (W.get ?_)
  have ez : (arrOf (X.st L [] g)).size = L.length := arr_size L
  rw [ez]
  have fin : ∀ P pd g, SRn X L P [] pd → pd.length ≤ 1 → SZn X L () (X.st P pd g) := fun P pd g s h => ⟨P, pd, g, rfl, by rw [← List.append_nil P]; exact s.pm, s.rn.one h⟩
  have next : ∀ c st, SDn X L c st → X.W (match c.1 with
      | some r => pure r
      | none => do
        let t ← forIn [0:L.length] ((none, ()) : USt) fun z_ z_ => srF
        match t.1 with
        | some r => pure r
        | none => pure ()) (SZn X L) st := by
    rintro c st ⟨P, pd, g, m, s, rfl, rfl⟩
    have hl : P.length = L.length := by rw [← List.append_nil P]; exact s.pm.length_eq
    refine W.bind (W.loop (fun x c st' => ∃ P' pd' g', SRn X L P' [] pd' ∧ c = (none, ()) ∧ st' = X.st P' pd' g' ∧ pd'.length + x ≤ L.length) ?_ ?_ ⟨P, pd, g, s, rfl, rfl, by rw [Nat.add_zero, ← hl]; exact s.rn.len⟩)
    · rintro x c st' hx ⟨P', pd', g', s', rfl, rfl, hp⟩
      refine W.bind (W.get ?_)
      have ep : pendingOf (X.st P' pd' g') = pd'.toArray := rfl
      rw [ep, List.size_toArray]
      refine W.ite (fun c => W.pure (W.pure (fin P' pd' g' s' c))) (fun c => W.bind ?_)
      have s'' := s'
      rw [← List.append_nil P']
      refine mergeAt_ok hL s' ?_ fun P2 pd2 g2 s2 z_ l2 => W.ite (fun c => absurd c (by decide)) (fun z_ => W.pure ⟨P2, pd2, g2, s2, rfl, by rw [List.append_nil], by omega⟩)
      by_cases hb : (if pd'.length - 2 > 0 then pd'.toArray[pd'.length - 2 - 1]?.map (·.2.1) else none).any (· < (pd'.toArray[pd'.length - 2 + 1]?.elim 0 (·.2.1))) = true
      · rw [if_pos hb]; omega
      · rw [if_neg hb]; omega
    · rintro c st' ⟨P', pd', g', s', rfl, rfl, hp⟩
      exact W.pure (fin P' pd' g' s' (by omega))
  refine W.bind (W.loop (SIn X L) ?_ ?_ ⟨[], L, [], g, ⟨List.Perm.refl _, .nil 0⟩, rfl, rfl, Nat.le_refl _⟩)
  · rintro x c st' hx ⟨P, S, pd, g, s, rfl, rfl, hp⟩
    refine W.mono (srA_ok hL s hp) fun c st' h => ?_
    cases c with
    | done c => exact next c st' h
    | yield c => exact h
  · rintro c st' ⟨P, S, pd, g, s, rfl, rfl, hp⟩
    have : S = [] := by
      have e := s.pm.length_eq
      rw [List.length_append] at e
      exact List.length_eq_zero_iff.1 (Nat.le_zero.1 (Nat.le_of_add_le_add_left (a := P.length) (by rw [e]; exact hp)))
    subst this
    refine next _ _ ⟨P, pd, g, P.length, ?_, rfl, ?_⟩
    · exact s
    · rw [List.append_nil]
end
end Mine

namespace Mine
open PySem PySem.W PyProof.Rows PySem.MeetsSeq PySem.MeetsSeq3
open AutoSeq1 (wpAny_loadPart')
theorem ints_at (h : IntsAre xs is) : ∀ {i : Nat}, i < xs.length → ∃ n t, xs[i]? = some (.int n t) ∧ is.drop i = n :: is.drop (i + 1) := by
  induction h with
  | nil => intro i hi; simp at hi
  | @cons n t vs ns _ ih =>
    intro i hi
    cases i with
    | zero => exact ⟨n, t, rfl, rfl⟩
    | succ i =>
      obtain ⟨m, u, h1, h2⟩ := ih (i := i) (by simpa using hi)
      exact ⟨m, u, by simpa using h1, by simpa using h2⟩
theorem ints_len (h : IntsAre xs is) : is.length = xs.length := by
  induction h with
  | nil => rfl
  | cons _ _ _ ih => simp [ih]
theorem ints_end (h : IntsAre xs is) (hi : xs.length ≤ i) : is.drop i = [] := by
  have := ints_len h
  exact List.drop_of_length_le (by omega)
theorem lt_loop (l b : Addr) (d1 d2 : Option Addr) (s1 s2 : Array (Option Value)) (xs ys : List Value) (is js : List Int) (n n2 : Nat) (h1 : IntsAre xs is) (h2 : IntsAre ys js) (k : Nat) :
    ∀ i : Nat, i ≤ ys.length → i + k = xs.length → Meets (Builtin.«list.__eq__.loop» ⟨[.ref l, .ref b, rawInt i, rawInt 0], []⟩)
      (fun z_ R s => s.heap.get? l = some { cls := .type "list", dict := d1, data := .seq xs.toArray n, slots := s1 } ∧ s.heap.get? b = some { cls := .type "list", dict := d2, data := .seq ys.toArray n2, slots := s2 } ∧
        R (.ok (.ret (.bool (lexLt (is.drop i) (js.drop i))))) s) := by
  have fin : ∀ {R : Result → Shared → Prop} {s : Shared} {v : Bool}, R (.ok (.ret (.bool v))) s → v = decide (xs.length < ys.length) → R (.ok (.ret (.bool (decide (xs.toArray.size < ys.toArray.size))))) s := fun h e => by
    rw [List.size_toArray, List.size_toArray, ← e]; exact h
  induction k with
  | zero =>
    intro i hj hk prog w A R s h
    obtain ⟨hp, g, d, tk, os⟩ := s; obtain ⟨hl, hb, h⟩ := h
    wp_walk using wpAny_loadPart' hl, wpAny_loadPart' hb
    have hi1 : xs.toArray[((i : Nat) : Int).toNat]? = none := by simp; omega
    rw [hi1]
    rw [ints_end h1 (i := i) (by omega)] at h
    cases hy : ys.toArray[((i : Nat) : Int).toNat]? with
    | none =>
      have hy' : ys.length ≤ i := by simpa using hy
      wp_walk using wpAny_loadPart' hl, wpAny_loadPart' hb
      rw [ints_end h2 hy'] at h
      exact fin h (decide_eq_false (by omega)).symm
    | some y =>
      have hy' : i < ys.length := by
        have := (Array.getElem?_eq_some_iff.1 hy).1
        simpa using this
      obtain ⟨m, u, _, e2⟩ := ints_at h2 hy'
      rw [e2] at h
      wp_walk using wpAny_loadPart' hl, wpAny_loadPart' hb
      exact fin h (decide_eq_true (by omega)).symm
  | succ k ih =>
    intro i hj hk prog w A R s h
    obtain ⟨hp, g, d, tk, os⟩ := s; obtain ⟨hl, hb, h⟩ := h
    wp_walk using wpAny_loadPart' hl, wpAny_loadPart' hb
    obtain ⟨x, t, hx, ex⟩ := ints_at h1 (i := i) (by omega)
    have hi1 : xs.toArray[((i : Nat) : Int).toNat]? = some (.int x t) := by simpa using hx
    rw [hi1]
    rw [ex] at h
    rcases Nat.lt_or_ge i ys.length with hlt | hge
    · obtain ⟨y, u, hy, ey⟩ := ints_at h2 hlt
      have hi2 : ys.toArray[((i : Nat) : Int).toNat]? = some (.int y u) := by simpa using hy
      rw [hi2]
      rw [ey] at h
      refine wpAny_bind (wpAny_eqBool_int ?_)
      have hc : ((i : Int) + 1) = ((i + 1 : Nat) : Int) := by push_cast; rfl
      by_cases hxy : x = y
      · rw [if_pos (by simpa using hxy), hc]
        rw [lexLt, if_pos hxy] at h
        wp_walk
        exact ⟨plainId_quiet plain_eq_loop _, codeAny_builtin entry_eq_loop (by
          rw [Around.under_plainId plain_eq_loop _]
          exact ih (i + 1) (by omega) (by omega) prog w A R _ ⟨hl, hb, h⟩)⟩
      · rw [if_neg (by simpa using hxy)]
        rw [lexLt, if_neg hxy] at h
        wp_walk using wpAny_loadPart' hl, wpAny_loadPart' hb
        rw [hi1, hi2]
        refine wpAny_bind (PyProof.Rows.lt_int ?_)
        exact wpAny_pure h
    · have hi2 : ys.toArray[((i : Nat) : Int).toNat]? = none := by simpa using hge
      rw [hi2]
      wp_walk using wpAny_loadPart' hl, wpAny_loadPart' hb
      rw [ints_end h2 hge] at h
      exact fin h (decide_eq_false (by omega)).symm
end Mine

namespace Mine
open PySem PySem.W PyProof.Rows
section
variable {prog : Program} {w : World} {A : Around} {E : Value → Shared → Prop} {s : Shared}
theorem lt_meets (l b : Addr) (d1 d2 : Option Addr) (s1 s2 : Array (Option Value)) (xs ys : List Value) (is js : List Int) (n1 n2 : Nat) (I1 : IntsAre xs is) (I2 : IntsAre ys js) : Meets (Builtin.«list.__lt__» ⟨[.ref l, .ref b], []⟩)
    (fun z_ R s => s.heap.get? l = some ⟨.type "list", d1, .seq xs.toArray n1, s1⟩ ∧ s.heap.get? b = some ⟨.type "list", d2, .seq ys.toArray n2, s2⟩ ∧ R (.ok (.ret (.bool (lexLt is js)))) s) := by
  intro prog w A R s h
  obtain ⟨hp, g, d, tk, os⟩ := s; obtain ⟨hl, hb, h⟩ := h
  have f3 := AutoSeq1.sub_list_list
  wp_walk using AutoSeq1.wpAny_loadPart' hl, AutoSeq1.wpAny_loadPart' hb
  exact ⟨plainId_quiet MeetsSeq3.plain_eq_loop _, codeAny_builtin MeetsSeq3.entry_eq_loop (by
    rw [Around.under_plainId MeetsSeq3.plain_eq_loop _]
    exact lt_loop l b d1 d2 s1 s2 xs ys is js n1 n2 I1 I2 xs.length 0 (Nat.zero_le _) (by omega) prog w A R _ ⟨hl, hb, by simpa using h⟩)⟩
theorem oneLt_list {Q : Bool → Shared → Prop} (hu : A.units < cLine) (h1 : s.heap.IsList l xs.toArray) (h2 : s.heap.IsList b ys.toArray) (I1 : IntsAre xs is) (I2 : IntsAre ys js) (h : Q (lexLt is js) s) :
    wpAny (model prog w) A (keyLt' oneType' (.ref l) (.ref b)) Q E s := by
  obtain ⟨⟨k1, d1, u1, s1⟩, ho1, c1, n1, e1⟩ := h1
  obtain ⟨⟨k2, d2, u2, s2⟩, ho2, c2, n2, e2⟩ := h2
  simp only at c1 c2 e1 e2
  subst c1 c2 e1 e2
  rw [keyLt'_oneType, oneLt'_eq]
  simp only [if_true]
  refine wpAny_bind (wpAny_cRoomFor hu ?_)
  exact wpAny_bind (wpAny_callSpecialIfBound?_slot ⟨_, ho1, rfl⟩ F.slot_list_lt (call_meets F.slot_list_lt ⟨_, ho1, rfl⟩ F.entry_list_lt (F.args_list_lt_2 _ _) (lt_meets l b d1 d2 s1 s2 xs ys is js n1 n2 I1 I2) ⟨ho1, ho2, wpAny_truthy_bool h⟩))
theorem list_sort_any {κ : SortKind} {r : Nat → Nat} {P : PySem.Fin → Shared → Prop} (ho : s.heap.get? a = some (seqObj "list" vs.toArray n)) (h2 : 2 ≤ vs.length) (hle : vs.length ≤ sizeLine)
    (hk : ∀ {Q : SortKind → Shared → Prop}, Q κ { s with heap := ((s.heap.update a (Obj.mapSeq fun z_ => #[])).push (seqObj "tuple" vs.toArray 0)).push (seqObj "list" #[] 0) } → wpAny (model prog w) A (keyKind' vs.toArray) Q E { s with heap := ((s.heap.update a (Obj.mapSeq fun z_ => #[])).push (seqObj "tuple" vs.toArray 0)).push (seqObj "list" #[] 0) })
    (hc : ∀ i j C, i < vs.length → j < vs.length → C (decide (r i < r j)) { s with heap := ((s.heap.update a (Obj.mapSeq fun z_ => #[])).push (seqObj "tuple" vs.toArray 0)).push (seqObj "list" #[] 0) } → kas_ask prog w A κ vs i j C { s with heap := ((s.heap.update a (Obj.mapSeq fun z_ => #[])).push (seqObj "tuple" vs.toArray 0)).push (seqObj "list" #[] 0) })
    (h : ∀ p : List Nat, p.Perm (List.range vs.length) → (p.Pairwise fun x y => r x ≤ r y) → P (.done (.ret .none)) { s with heap := sortedHeap s.heap a vs (p.map fun i => vs.getD i Value.none).toArray }) :
    wpAny (model prog w) A (Builtin.«list.sort» ⟨[.ref a], []⟩) P E s := by
  rw [list_sort_plain]
  refine wpAny_bind (listItems_at ho rfl (wpAny_bind (listUpdate_at ho rfl ?_ (by rw [List.size_toArray]; exact hle) (Nat.zero_le _))))
  obtain ⟨e1, ho1⟩ : ∃ e1, (s.heap.update a (Obj.mapSeq fun z_ => #[])).get? a = some (seqObj "list" #[] e1) := ⟨_, get?_update_seq ho (fun z_ => #[])⟩
  refine wpAny_bind (seqEpoch_at ho1 rfl (wpAny_bind (wpAny_newTuple (wpAny_bind (wpAny_newList (wpAny_holding ?_) (Nat.zero_le _))) hle)))
  have ho6 : (((s.heap.update a (Obj.mapSeq fun z_ => #[])).push (seqObj "tuple" vs.toArray 0)).push (seqObj "list" #[] 0)).get? a = some (seqObj "list" #[] e1) :=
    Heap.get?_push_of_some _ (Heap.get?_push_of_some _ ho1)
  show wpAny (model prog w) A _ P E { s with heap := ((s.heap.update a (Obj.mapSeq fun z_ => #[])).push (seqObj "tuple" vs.toArray 0)).push (seqObj "list" #[] 0) }
  dsimp only
  have hn2 : ¬ vs.toArray.size < 2 := by rw [List.size_toArray]; omega
  rw [if_neg hn2, if_neg hn2]
  refine wpAny_bind (hk ?_)
  have run := sort_all (X := ⟨model prog w, A, E, { s with heap := ((s.heap.update a (Obj.mapSeq fun z_ => #[])).push (seqObj "tuple" vs.toArray 0)).push (seqObj "list" #[] 0) }, κ, pairsOf vs, vs.length, r, fun i j C hi hj hC => by rw [kas_item_eq, kas_item_eq]; exact hc i j C hi hj hC⟩) (L := List.range vs.length) (g := 7) fun x hx => List.mem_range.1 hx
  have est : SortSt.mk' κ (vs.toArray.zip vs.toArray) #[] 7 none = SortSt.mk' κ ((List.range vs.length).map (kas_item (pairsOf vs))).toArray (List.toArray []) 7 none := by
    have e := kas_range (pairsOf vs)
    rw [pairsOf_size, List.map_toArray] at e
    show SortSt.mk' κ (pairsOf vs) #[] 7 none = _
    rw [e]
  rw [est]
  refine wpAny_bind (wpAny_mono run ?_ fun z_ z_ e => e)
  rintro ⟨⟨⟩, st'⟩ s' ⟨rfl, p, pd, g, rfl, hp, hu⟩
  dsimp only
  have hout : ((p.map (kas_item (pairsOf vs))).toArray).map (·.2) = (p.map fun i => vs.getD i Value.none).toArray := by
    rw [List.map_toArray, List.map_map]
    exact congrArg List.toArray (List.map_congr_left fun i z_ => by show (kas_item (pairsOf vs) i).2 = _; rw [kas_item_eq])
  show wpAny _ _ ((seqEpoch a) >>= _) _ _ _
  refine wpAny_bind (seqEpoch_at ho6 rfl (wpAny_bind (listUpdate_at ho6 rfl ?_ (Nat.zero_le _) (by
    show (((p.map (kas_item (pairsOf vs))).toArray).map (·.2)).size ≤ _
    rw [hout, List.size_toArray, List.length_map, hp.length_eq, List.length_range]; exact Nat.le_succ_of_le hle))))
  simp only [bne_self_eq_false, Bool.false_eq_true, if_false]
  refine wpAny_pure ?_
  have := h p hp hu
  rw [← hout] at this
  exact this
end
end Mine

namespace Mine
structure Ord {α : Type} (lt : α → α → Bool) : Prop where
  irr : ∀ a, lt a a = false
  tr : ∀ a b c, lt a b = true → lt b c = true → lt a c = true
  tot : ∀ a b, lt a b = false → lt b a = false → a = b
theorem countP_lt {β : Type} {p q : β → Bool} : ∀ {l : List β}, (∀ x ∈ l, p x = true → q x = true) → (∃ x ∈ l, p x = false ∧ q x = true) → l.countP p < l.countP q
  | [], _, ⟨_, h, _⟩ => nomatch h
  | a :: l, hpq, ⟨x, hx, h1, h2⟩ => by
    have hl : ∀ x ∈ l, p x = true → q x = true := fun x hx => hpq x (List.mem_cons_of_mem _ hx)
    have hle : l.countP p ≤ l.countP q := List.countP_mono_left hl
    rw [List.countP_cons, List.countP_cons]
    rcases List.mem_cons.1 hx with rfl | hx
    · rw [h1, h2]; simp; omega
    · have := countP_lt hl ⟨x, hx, h1, h2⟩
      have ha := hpq a (List.mem_cons_self ..)
      cases hpa : p a with
      | true => rw [ha hpa]; omega
      | false => cases q a <;> simp <;> omega
section
variable {α : Type} {lt : α → α → Bool}
noncomputable def rank (lt : α → α → Bool) (key : Nat → α) (n i : Nat) : Nat := (List.range n).countP fun j => lt (key j) (key i)
theorem rank_lt (o : Ord lt) {key : Nat → α} (hi : i < n) (hj : j < n) : lt (key i) (key j) = decide (rank lt key n i < rank lt key n j) := by
  have up : ∀ i j, i < n → lt (key i) (key j) = true → rank lt key n i < rank lt key n j := fun i j hi h =>
    countP_lt (fun x z_ hx => o.tr _ _ _ hx h) ⟨i, List.mem_range.2 hi, o.irr _, h⟩
  cases h : lt (key i) (key j) with
  | true => exact (decide_eq_true (up i j hi h)).symm
  | false =>
    cases h' : lt (key j) (key i) with
    | true => exact (decide_eq_false (Nat.lt_asymm (up j i hj h'))).symm
    | false =>
      have := o.tot _ _ h h'
      refine (decide_eq_false ?_).symm
      unfold rank; rw [this]; exact Nat.lt_irrefl _
theorem ins_perm (x : α) : ∀ l : List α, (isort.insertBy' lt x l).Perm (x :: l)
  | [] => List.Perm.refl _
  | y :: ys => by
    rw [isort.insertBy']
    split
    · exact ((ins_perm x ys).cons y).trans (List.Perm.swap ..)
    · exact List.Perm.refl _
theorem isort_perm : ∀ l : List α, (isort lt l).Perm l
  | [] => List.Perm.refl _
  | x :: xs => (ins_perm x _).trans ((isort_perm xs).cons x)
set_option tactic.hygienic true in
theorem ins_up {le : α → α → Prop} (h1 : ∀ a b, lt a b = true → le a b) (h2 : ∀ a b, lt a b = false → le b a) (ht : ∀ a b c, le a b → le b c → le a c) (x : α) : ∀ l : List α, l.Pairwise le → (isort.insertBy' lt x l).Pairwise le
  | [], _ => List.pairwise_singleton ..
  | y :: ys, h => by
    obtain ⟨h3, h4⟩ := List.pairwise_cons.1 h
    rw [isort.insertBy']
    split
    · rename_i hc
      refine List.pairwise_cons.2 ⟨fun z hz => ?_, ins_up h1 h2 ht x ys h4⟩
      rcases List.mem_cons.1 ((ins_perm x ys).mem_iff.1 hz) with rfl | hz
      · exact h1 _ _ hc
      · exact h3 z hz
    · rename_i hc
      have hle := h2 y x (by simpa using hc)
      refine List.pairwise_cons.2 ⟨fun z hz => ?_, h⟩
      rcases List.mem_cons.1 hz with rfl | hz
      · exact hle
      · exact ht _ _ _ hle (h3 z hz)
theorem isort_up {le : α → α → Prop} (h1 : ∀ a b, lt a b = true → le a b) (h2 : ∀ a b, lt a b = false → le b a) (ht : ∀ a b c, le a b → le b c → le a c) : ∀ l : List α, (isort lt l).Pairwise le
  | [] => List.Pairwise.nil
  | x :: xs => ins_up h1 h2 ht x _ (isort_up h1 h2 ht xs)
theorem Ord.asymm (o : Ord lt) (h : lt a b = true) : lt b a = false := by
  cases h' : lt b a with
  | false => rfl
  | true => have := o.tr _ _ _ h h'; rw [o.irr] at this; cases this
theorem Ord.le_tr (o : Ord lt) (h1 : lt b a = false) (h2 : lt c b = false) : lt c a = false := by
  cases h : lt c a with
  | false => rfl
  | true =>
    cases h3 : lt a b with
    | true => have := o.tr _ _ _ h h3; rw [h2] at this; cases this
    | false => have e := o.tot _ _ h3 h1; subst e; rw [h2] at h; cases h
end
theorem ord_int : Ord fun a b : Int => decide (a < b) := ⟨fun a => decide_eq_false (Int.lt_irrefl a), fun a b c h1 h2 => by simp at h1 h2 ⊢; omega, fun a b h1 h2 => by simp at h1 h2; omega⟩
theorem lex_irr : ∀ a : List Int, lexLt a a = false
  | [] => rfl
  | x :: a => by rw [lexLt, if_pos rfl]; exact lex_irr a
theorem lex_tr : ∀ a b c : List Int, lexLt a b = true → lexLt b c = true → lexLt a c = true
  | [], [], _, h, _ => by cases h
  | [], _ :: _, [], _, h => by cases h
  | [], _ :: _, _ :: _, _, _ => rfl
  | _ :: _, [], _, h, _ => by cases h
  | _ :: _, _ :: _, [], _, h => by cases h
  | x :: a, y :: b, z :: c, h1, h2 => by
    rw [lexLt] at h1 h2 ⊢
    by_cases e1 : x = y
    · subst e1
      rw [if_pos rfl] at h1
      by_cases e2 : x = z
      · subst e2
        rw [if_pos rfl] at h2 ⊢
        exact lex_tr a b c h1 h2
      · rw [if_neg e2] at h2 ⊢; exact h2
    · rw [if_neg e1] at h1
      have h1 := of_decide_eq_true h1
      by_cases e2 : y = z
      · subst e2
        rw [if_neg e1]; exact decide_eq_true h1
      · rw [if_neg e2] at h2
        have h2 := of_decide_eq_true h2
        rw [if_neg (by omega)]; exact decide_eq_true (by omega)
theorem lex_tot : ∀ a b : List Int, lexLt a b = false → lexLt b a = false → a = b
  | [], [], _, _ => rfl
  | [], _ :: _, h, _ => by cases h
  | _ :: _, [], _, h => by cases h
  | x :: a, y :: b, h1, h2 => by
    rw [lexLt] at h1 h2
    by_cases e : x = y
    · subst e
      rw [if_pos rfl] at h1 h2
      rw [lex_tot a b h1 h2]
    · rw [if_neg e] at h1
      rw [if_neg (Ne.symm e)] at h2
      have h1 := of_decide_eq_false h1
      have h2 := of_decide_eq_false h2
      omega
theorem ord_lex : Ord lexLt := ⟨lex_irr, lex_tr, lex_tot⟩
end Mine

namespace Mine
open PySem PySem.W PyProof.Rows
section
variable {α : Type} {lt : α → α → Bool}
theorem sorted_unique (o : Ord lt) {β : Type} {L : List (α × β)} {d : α × β} (det : ∀ p ∈ L, ∀ q ∈ L, p.1 = q.1 → p.2 = q.2) {p : List Nat} (hp : p.Perm (List.range L.length)) (hu : p.Pairwise fun x y => rank lt (fun i => (L.getD i d).1) L.length x ≤ rank lt (fun i => (L.getD i d).1) L.length y) :
    p.map (fun i => L.getD i d) = isort (fun a b => lt a.1 b.1) L := by
  have pm : (p.map fun i => L.getD i d).Perm L := by
    have h2 := hp.map fun i => L.getD i d
    have h3 : (List.range L.length).map (fun i => L.getD i d) = L := List.ext_getElem (by simp) fun i h1 h2 => by simp [h2]
    rwa [h3] at h2
  refine List.Perm.eq_of_pairwise (le := fun a b => lt b.1 a.1 = false) (fun a b ha hb h1 h2 => ?_) ?_ (isort_up (lt := fun a b : α × β => lt a.1 b.1) (le := fun a b => lt b.1 a.1 = false) (fun a b h => o.asymm h) (fun a b h => h) (fun a b c h1 h2 => o.le_tr h1 h2) L) (pm.trans (isort_perm L).symm)
  · have ha := pm.mem_iff.1 ha
    have hb := (isort_perm L).mem_iff.1 hb
    have e1 := o.tot _ _ h2 h1
    exact Prod.ext e1 (det a ha b hb e1)
  · refine List.pairwise_map.2 (List.Pairwise.imp_of_mem (fun {x y} hx hy h => ?_) hu)
    have lx := List.mem_range.1 (hp.mem_iff.1 hx)
    have ly := List.mem_range.1 (hp.mem_iff.1 hy)
    rw [rank_lt o (key := fun i => (L.getD i d).1) ly lx]
    exact decide_eq_false (Nat.not_lt.2 h)
end
section
variable {prog : Program} {w : World} {A : Around} {E : Value → Shared → Prop} {s : Shared}
theorem list_sort_small {P : PySem.Fin → Shared → Prop} (ho : s.heap.get? a = some (seqObj "list" vs.toArray n)) (h2 : vs.length < 2)
    (h : P (.done (.ret .none)) { s with heap := sortedHeap s.heap a vs vs.toArray }) : wpAny (model prog w) A (Builtin.«list.sort» ⟨[.ref a], []⟩) P E s := by
  rw [list_sort_plain]
  have hle : vs.length ≤ sizeLine := by rw [sizeLine_eq]; omega
  refine wpAny_bind (listItems_at ho rfl (wpAny_bind (listUpdate_at ho rfl ?_ (by rw [List.size_toArray]; exact hle) (Nat.zero_le _))))
  obtain ⟨e1, ho1⟩ : ∃ e1, (s.heap.update a (Obj.mapSeq fun z_ => #[])).get? a = some (seqObj "list" #[] e1) := ⟨_, get?_update_seq ho (fun z_ => #[])⟩
  refine wpAny_bind (seqEpoch_at ho1 rfl (wpAny_bind (wpAny_newTuple (wpAny_bind (wpAny_newList (wpAny_holding ?_) (Nat.zero_le _))) hle)))
  have ho6 : (((s.heap.update a (Obj.mapSeq fun z_ => #[])).push (seqObj "tuple" vs.toArray 0)).push (seqObj "list" #[] 0)).get? a = some (seqObj "list" #[] e1) :=
    Heap.get?_push_of_some _ (Heap.get?_push_of_some _ ho1)
  show wpAny (model prog w) A _ P E { s with heap := ((s.heap.update a (Obj.mapSeq fun z_ => #[])).push (seqObj "tuple" vs.toArray 0)).push (seqObj "list" #[] 0) }
  dsimp only
  have hn2 : vs.toArray.size < 2 := by rw [List.size_toArray]; omega
  rw [if_pos hn2, if_pos hn2]
  refine wpAny_bind (wpAny_pure ?_)
  rw [StateT.run_pure]
  refine wpAny_bind (wpAny_pure ?_)
  dsimp only
  have hout : (vs.toArray.zip vs.toArray).map (·.2) = vs.toArray := by
    apply Array.toList_inj.mp
    rw [Array.toList_map]
    show List.map _ (pairsOf vs).toList = vs
    rw [pairsOf_toList]
    exact List.map_snd_zip (Nat.le_refl _)
  rw [show arrOf (SortSt.mk' general' (vs.toArray.zip vs.toArray) #[] 7 none) = vs.toArray.zip vs.toArray from rfl, hout]
  refine wpAny_bind (seqEpoch_at ho6 rfl (wpAny_bind (listUpdate_at ho6 rfl ?_ (Nat.zero_le _) (by show vs.toArray.size ≤ _; rw [List.size_toArray]; omega))))
  simp only [bne_self_eq_false, Bool.false_eq_true, if_false]
  exact wpAny_pure h
theorem sorted_any {κ : SortKind} {r : Nat → Nat} {Q : Value → Shared → Prop} (hl : s.heap.IsList l vs.toArray) (hle : vs.length ≤ sizeLine)
    (hk : 2 ≤ vs.length → ∀ {A : Around} {E : Value → Shared → Prop} {h' : Heap} {Q : SortKind → Shared → Prop}, (∀ b o, s.heap.get? b = some o → h'.get? b = some o) → Q κ { s with heap := h' } → wpAny (model prog w) A (keyKind' vs.toArray) Q E { s with heap := h' })
    (hc : ∀ i j C h', i < vs.length → j < vs.length → (∀ b o, s.heap.get? b = some o → h'.get? b = some o) → C (decide (r i < r j)) { s with heap := h' } → kas_ask prog w A.in1.in1 κ vs i j C { s with heap := h' })
    (h1 : vs.length < 2 → Q (.ref (s.heap.objs.size + 1)) { s with heap := sortedAll s.heap vs vs.toArray })
    (h : ∀ p : List Nat, p.Perm (List.range vs.length) → (p.Pairwise fun x y => r x ≤ r y) → Q (.ref (s.heap.objs.size + 1)) { s with heap := sortedAll s.heap vs (p.map fun i => vs.getD i Value.none).toArray }) :
    wpAny (model prog w) A (call (.builtin "sorted") [.ref l]) Q E s := by
  refine Calls.call_function_entry kind_sorted plain_sorted entry_sorted (args_sorted1 _) ?_
  unfold Builtin.«sorted»
  refine wpAny_bind (m := checkCount "sorted" 1 1 _) (wpAny_pure (wpAny_bind (collect_list hl (wpAny_bind (wpAny_newList ?_ hle)) hle)))
  have hsz : ((s.heap.push (seqObj "list" #[] 0)).update s.heap.objs.size (Obj.mapSeq (· ++ vs.toArray))).objs.size = s.heap.objs.size + 1 := by
    rw [Heap.size_update, size_push']
  have hoL : (((s.heap.push (seqObj "list" #[] 0)).update s.heap.objs.size (Obj.mapSeq (· ++ vs.toArray))).push (seqObj "list" vs.toArray 0)).get? (s.heap.objs.size + 1) = some (seqObj "list" vs.toArray 0) := by
    rw [← hsz]; exact Heap.get?_push_size _ rfl
  have keep : ∀ b o, s.heap.get? b = some o → (((s.heap.push (seqObj "list" #[] 0)).update s.heap.objs.size (Obj.mapSeq (· ++ vs.toArray))).push (seqObj "list" vs.toArray 0)).get? b = some o := fun b o q => by
    have hlt : b < s.heap.objs.size := Heap.lt_size q
    refine Heap.get?_push_of_some _ ?_
    rw [Heap.get?_update_ne _ _ _ _ (Nat.ne_of_lt hlt)]
    exact Heap.get?_push_of_some _ q
  show wpAny _ _ _ _ _ { s with heap := ((s.heap.push (seqObj "list" #[] 0)).update s.heap.objs.size (Obj.mapSeq (· ++ vs.toArray))).push (seqObj "list" vs.toArray 0) }
  rw [hsz]
  refine wpAny_bind (wpAny_holding (wpAny_call_entry slot_list_sort ⟨_, hoL, rfl⟩ entry_list_sort ?_ (args_list_sort _)))
  have keep2 : ∀ b o, s.heap.get? b = some o → ((((((s.heap.push (seqObj "list" #[] 0)).update s.heap.objs.size (Obj.mapSeq (· ++ vs.toArray))).push (seqObj "list" vs.toArray 0)).update (s.heap.objs.size + 1) (Obj.mapSeq fun z_ => #[])).push (seqObj "tuple" vs.toArray 0)).push (seqObj "list" #[] 0)).get? b = some o := fun b o q => by
    have hlt : b < s.heap.objs.size := Heap.lt_size q
    refine Heap.get?_push_of_some _ (Heap.get?_push_of_some _ ?_)
    rw [Heap.get?_update_ne _ _ _ _ (Nat.ne_of_lt (Nat.lt_succ_of_lt hlt))]
    exact keep b o q
  rcases Nat.lt_or_ge vs.length 2 with h2 | h2
  · exact list_sort_small (s := { s with heap := ((s.heap.push (seqObj "list" #[] 0)).update s.heap.objs.size (Obj.mapSeq (· ++ vs.toArray))).push (seqObj "list" vs.toArray 0) }) hoL h2 ⟨_, rfl, wpAny_pure ⟨_, rfl, h1 h2⟩⟩
  · exact list_sort_any (s := { s with heap := ((s.heap.push (seqObj "list" #[] 0)).update s.heap.objs.size (Obj.mapSeq (· ++ vs.toArray))).push (seqObj "list" vs.toArray 0) }) hoL h2 hle (fun hq => hk h2 keep2 hq) (fun i j C hi hj hC => hc i j C _ hi hj keep2 hC)
      fun p hp hu => ⟨_, rfl, wpAny_pure ⟨_, rfl, h p hp hu⟩⟩
end
theorem keyed_get {α : Type} {f : V → Option α} : ∀ {vs : List V} {L : List (α × V)}, keyed f vs = some L → L.length = vs.length ∧ ∀ (i : Nat) (v : V), vs[i]? = some v → ∃ a, L[i]? = some (a, v) ∧ f v = some a
  | [], L, h => by cases h; exact ⟨rfl, fun i v h => by simp at h⟩
  | v :: vs, L, h => by
    simp only [keyed, Option.bind_eq_some_iff, Option.map_eq_some_iff] at h
    obtain ⟨a, ha, L', hL, rfl⟩ := h
    obtain ⟨h1, h2⟩ := keyed_get hL
    refine ⟨by simp [h1], fun i w hw => ?_⟩
    cases i with
    | zero => simp only [List.getElem?_cons_zero, Option.some.injEq] at hw; subst hw; exact ⟨a, rfl, ha⟩
    | succ i => exact h2 i w (by simpa using hw)
theorem VRs_idx (hv : VRs am π h vs xs) : ∀ (is : List Nat), (∀ i ∈ is, i < vs.length) → VRs am π h (is.map fun i => vs.getD i .none) (is.map fun i => xs.getD i Value.none)
  | [], _ => rfl
  | i :: is, hi => by
    have h1 := hi i (List.mem_cons_self ..)
    have e : vs[i]? = some (vs.getD i .none) := by simp [h1]
    obtain ⟨x, hx, hvx⟩ := hv.get i _ e
    have ex : xs.getD i Value.none = x := by simp [List.getD_eq_getElem?_getD, hx]
    exact ⟨x, _, by rw [List.map_cons, ex], hvx, VRs_idx hv is fun j hj => hi j (List.mem_cons_of_mem _ hj)⟩
theorem isort_small {α : Type} (lt : α → α → Bool) : ∀ (L : List α), L.length < 2 → isort lt L = L
  | [], _ => rfl
  | [_], _ => rfl
  | _ :: _ :: _, h => absurd h (by simp)
section
variable {am : Amb} {stack : List Env} {A : Around} {π : List Addr} {s : Shared} {Hc : H}
theorem newL_sorted {vs : List V} {xs : List Value} {ws : List V} {out : List Value} (hv : VRs am π s.heap ws out) : NewL am π s ws (.ref (s.heap.objs.size + 1)) { s with heap := sortedAll s.heap xs out.toArray } := by
  obtain ⟨e, he⟩ := sortedAll_at s.heap xs out.toArray
  have hn : s.heap.get? (s.heap.objs.size + 1) = none := Heap.get?_none_of_le (Nat.le_succ _)
  exact ⟨_, out, _, s.toks, rfl, rfl, fun b o h => sortedAll_old h, hn, ⟨_, _, he, rfl, rfl, rfl⟩, (hv.held hn).keeps fun b o h => sortedAll_old h⟩
set_option tactic.hygienic true in
theorem wp_sortBy {α : Type} [DecidableEq α] {lt : α → α → Bool} (o : Ord lt) {f : V → Option α} {l : Addr} {vs ws : List V} {xs : List Value} {L : List (α × V)} {T : Value} (dflt : α) (hl : s.heap.IsList l xs.toArray) (hv : VRs am π s.heap vs xs) (hL : keyed f vs = some L) (hw : sortBy lt L = some ws)
    (hT : ∀ v ∈ xs, ∀ h', (∀ b o, s.heap.get? b = some o → h'.get? b = some o) → Looks am.M h' (typeOf v) T) (hT1 : (T != Value.type "tuple") = true) (hT2 : (T == T) = true)
    (hc : ∀ v x u y a b h', VR am π s.heap v x → VR am π s.heap u y → f v = some a → f u = some b → (∀ b o, s.heap.get? b = some o → h'.get? b = some o) → ∀ C : Bool → Shared → Prop, C (lt a b) { s with heap := h' } → wpAny am.M A.in1.in1 (keyLt' oneType' x y) C (fun z_ z_ => False) { s with heap := h' })
    {Q : Value → Shared → Prop} {E : Value → Shared → Prop} (h : ∀ y s', NewL am π s ws y s' → Q y s') : wpAny am.M A (call (.builtin "sorted") [.ref l]) Q E s := by
  obtain ⟨hlen, hget⟩ := keyed_get hL
  have hx := hv.len
  unfold sortBy at hw
  split at hw
  · rename_i hcond
    simp only [Bool.and_eq_true, decide_eq_true_eq, List.all_eq_true] at hcond
    obtain ⟨h64, det⟩ := hcond
    cases hw
    have at' : ∀ i, i < xs.length → ∃ v a, vs[i]? = some v ∧ L[i]? = some (a, v) ∧ f v = some a ∧ VR am π s.heap v (xs.getD i Value.none) ∧ (L.getD i (dflt, .none)).1 = a := fun i hi => by
      have e : vs[i]? = some (vs.getD i .none) := by
        have : i < vs.length := by omega
        simp [this]
      obtain ⟨a, e1, e2⟩ := hget i _ e
      obtain ⟨x, e3, e4⟩ := hv.get i _ e
      have ex : xs.getD i Value.none = x := by simp [List.getD_eq_getElem?_getD, e3]
      exact ⟨_, a, e, e1, e2, by rw [ex]; exact e4, by simp [List.getD_eq_getElem?_getD, e1]⟩
    refine sorted_any (κ := oneType') (r := rank lt (fun i => (L.getD i (dflt, .none)).1) xs.length) hl (by rw [sizeLine_eq]; omega) (fun h2 A' E' h' Q' k hq => kas_kind h2 (fun v hv => hT v hv h' k) hT1 hT2 hq) ?_ ?_ ?_
    · intro i j C h' hi hj k hC
      obtain ⟨v, a, _, _, e3, e4, e5⟩ := at' i hi
      obtain ⟨u, b, _, _, f3, f4, f5⟩ := at' j hj
      refine hc v _ u _ a b h' e4 f4 e3 f3 k C ?_
      rw [← rank_lt o hi hj, e5, f5] at hC
      exact hC
    · intro h2
      refine h _ _ (newL_sorted (vs := vs) ?_)
      have : (isort (fun a b => lt a.1 b.1) L).map (·.2) = vs := by
        have e : L.map (·.2) = vs := List.ext_getElem? fun i => by
          rw [List.getElem?_map]
          cases hvi : vs[i]? with
          | none => rw [List.getElem?_eq_none (by rw [hlen]; simpa using hvi)]; rfl
          | some v => obtain ⟨a, e1, _⟩ := hget i v hvi; rw [e1]; rfl
        rw [isort_small _ L (by omega), e]
      rw [this]; exact hv
    · intro p hp hu
      refine h _ _ (newL_sorted (vs := vs) ?_)
      have exl : xs.length = L.length := by omega
      rw [exl] at hp hu
      have pm : ∀ i ∈ p, i < L.length := fun i hi => List.mem_range.1 (hp.mem_iff.1 hi)
      rw [← sorted_unique o (d := (dflt, V.none)) (fun p hp q hq => det p hp q hq) hp hu, List.map_map]
      have e := VRs_idx hv p (fun i hi => by have := pm i hi; omega)
      have e2 : (p.map ((fun x : α × V => x.2) ∘ fun i => L.getD i (dflt, V.none))) = p.map fun i => vs.getD i .none := List.map_congr_left fun i hi => by
        have := pm i hi
        obtain ⟨v, a, e1, e2, _⟩ := at' i (by omega)
        simp [List.getD_eq_getElem?_getD, e1, e2]
      rw [e2]; exact e
  · cases hw
end
section
variable {am : Amb} {stack : List Env} {A : Around} {π : List Addr} {s : Shared} {Hc : H}
theorem asInts_are : ∀ {vs : List V} {is : List Int} {xs : List Value}, asInts vs = some is → VRs am π h vs xs → IntsAre xs is
  | [], is, xs, e, hv => by cases e; simp only [VRs] at hv; subst hv; exact .nil
  | v :: vs, is, xs, e, hv => by
    cases v <;> first | (cases e; done) | skip
    simp only [asInts, Option.map_eq_some_iff] at e
    obtain ⟨js, e, rfl⟩ := e
    obtain ⟨x, xs', rfl, ⟨t, rfl⟩, r⟩ := hv
    exact .cons _ _ (asInts_are e r)
theorem keyL_at (hr : HR am stack π Hc s.heap) (hvx : VR am π s.heap v x) (hk : keyL Hc v = some is) : ∃ b ys, x = .ref b ∧ s.heap.IsList b ys.toArray ∧ IntsAre ys is := by
  unfold keyL at hk
  obtain ⟨us, e1, e2⟩ := Option.bind_eq_some_iff.1 hk
  obtain ⟨b, ys, rfl, hb, _, hvs⟩ := litems_at hr hvx e1
  exact ⟨b, ys, rfl, hb, asInts_are e2 hvs⟩
theorem wp_sorted (as : AS n stack A) (hr : HR am stack π Hc s.heap) (ha : VR am π s.heap a x) (hi : litems Hc a = some vs) (hs : sortVs Hc vs = some ws)
    {Q : Value → Shared → Prop} {E : Value → Shared → Prop} (h : ∀ y s', NewL am π s ws y s' → Q y s') : wpAny am.M A (call (.builtin "sorted") [x]) Q E s := by
  obtain ⟨l, xs, rfl, hl, hz, hv⟩ := litems_at hr ha hi
  have hu : (A.in1.in1).units < cLine := by
    have := as.units
    show A.units + 1 + 1 < 9900
    omega
  unfold sortVs at hs
  cases h1 : keyed keyI vs with
  | some L =>
    rw [h1] at hs
    refine wp_sortBy ord_int 0 (T := .type "int") hl hv h1 hs (fun v hm h' k => ?_) rfl rfl ?_ h
    · obtain ⟨i, hi⟩ := List.mem_iff_getElem?.1 hm
      have hlt := (List.getElem?_eq_some_iff.1 hi).1
      have hlen := hv.len
      have e : vs[i]? = some (vs.getD i .none) := by simp [show i < vs.length by omega]
      obtain ⟨k', _, e2⟩ := (keyed_get h1).2 i _ e
      obtain ⟨y, e3, e4⟩ := hv.get i _ e
      rw [hi] at e3; cases e3
      cases hv' : vs.getD i .none <;> rw [hv'] at e2 e4 <;> first | (cases e2; done) | skip
      obtain ⟨t, rfl⟩ := e4
      exact Looks.of_pure rfl
    · intro v x u y a b h' e1 e2 f1 f2 k C hC
      cases v <;> first | (cases f1; done) | skip
      cases u <;> first | (cases f2; done) | skip
      cases f1; cases f2
      obtain ⟨t, rfl⟩ := e1
      obtain ⟨t', rfl⟩ := e2
      rw [keyLt'_oneType]
      exact oneLt_int hC
  | none =>
    rw [h1] at hs
    cases h2 : keyed (keyL Hc) vs with
    | none => rw [h2] at hs; cases hs
    | some L =>
      rw [h2] at hs
      refine wp_sortBy ord_lex [] (T := .type "list") hl hv h2 hs (fun v hm h' k => ?_) rfl rfl ?_ h
      · obtain ⟨i, hi⟩ := List.mem_iff_getElem?.1 hm
        have hlt := (List.getElem?_eq_some_iff.1 hi).1
        have hlen := hv.len
        have e : vs[i]? = some (vs.getD i .none) := by simp [show i < vs.length by omega]
        obtain ⟨k', _, e2⟩ := (keyed_get h2).2 i _ e
        obtain ⟨y, e3, e4⟩ := hv.get i _ e
        rw [hi] at e3; cases e3
        obtain ⟨b, ys, rfl, ⟨o, ho, hc, r⟩, _⟩ := keyL_at hr e4 e2
        exact fun A' Q' E' s' k' q => wpAny_typeOf ⟨o, k' _ _ (k _ _ ho), hc⟩ q
      · intro v x u y a b h' e1 e2 f1 f2 k C hC
        obtain ⟨l1, ys, rfl, ⟨o, ho, r⟩, i1⟩ := keyL_at hr e1 f1
        obtain ⟨l2, zs, rfl, ⟨o', ho', r'⟩, i2⟩ := keyL_at hr e2 f2
        exact oneLt_list hu ⟨o, k _ _ ho, r⟩ ⟨o', k _ _ ho', r'⟩ i1 i2 hC
set_option tactic.hygienic true in
theorem sortVs_len (e : sortVs h vs = some ws) : ws.length ≤ 1000000 := by
  have by' : ∀ {α : Type} [DecidableEq α] {lt : α → α → Bool} {L : List (α × V)}, sortBy lt L = some ws → ws.length ≤ 1000000 := fun {α _ lt L} e => by
    unfold sortBy at e
    split at e
    · rename_i hc
      simp only [Bool.and_eq_true, decide_eq_true_eq] at hc
      cases e
      rw [List.length_map, (isort_perm L).length_eq]; omega
    · cases e
  unfold sortVs at e
  cases h1 : keyed keyI vs with
  | some L => rw [h1] at e; exact by' e
  | none =>
    rw [h1] at e
    cases h2 : keyed (keyL h) vs with
    | some L => rw [h2] at e; exact by' e
    | none => rw [h2] at e; cases e
theorem op_sorted (as : AS n stack A) (hr : HR am stack π Hc s.heap) (ha : VR am π s.heap a x) :
    JAt am stack A (call (.builtin "sorted") [x]) (R.opt (bf .sorted Hc a) Hc) (VR am) π s := by
  unfold bf
  dsimp only
  cases hi : litems Hc a with
  | none => exact .inl rfl
  | some vs =>
    rw [Option.bind_some]
    cases hs : sortVs Hc vs with
    | none => exact .inl rfl
    | some ws => exact .inr (wp_sorted as hr ha hi hs fun y s' hn => hn.lst hr (sortVs_len hs))
end
end Mine

namespace Mine
open PySem PySem.W
noncomputable def Amb.at (am : Amb) (res : List Addr) : Amb := { am with res := res }
noncomputable def bTab : List (Str × Value) :=
  [("len", .builtin "len"), ("all", .builtin "all"), ("any", .builtin "any"), ("isinstance", .builtin "isinstance"), ("sorted", .builtin "sorted"), ("min", .builtin "min"), ("sum", .builtin "sum"),
   ("list", .type "list"), ("tuple", .type "tuple"), ("int", .type "int"), ("str", .type "str"), ("bool", .type "bool"), ("range", .type "range"), ("reversed", .type "reversed"),
   ("enumerate", .type "enumerate"), ("ValueError", .type "ValueError")]
noncomputable def btOk : Value → Bool
  | .builtin _ => true
  | .type _ => true
  | _ => false
theorem bt_all : bTab.all (fun p => btOk p.2) = true := by kernel_rfl
theorem btOk_inv (h : btOk v = true) : (∃ id, v = .builtin id) ∨ ∃ T, v = .type T := by
  cases v <;> first | exact .inl ⟨_, rfl⟩ | exact .inr ⟨_, rfl⟩ | exact noB h
theorem bt_kind (h : (x, v) ∈ bTab) : (∃ id, v = .builtin id) ∨ ∃ T, v = .type T := btOk_inv (List.all_eq_true.mp bt_all _ h)
theorem bt_mem (h : bTab.contains (x, v) = true) : (x, v) ∈ bTab := List.contains_iff_mem.mp h
structure ExcCls (am : Amb) (c : String) (C : Addr) : Prop where
  name : am.mg (Str.ofString c) = some (.ref C)
  get : findIn am.K (.ref C) "__getattribute__" = some (some (.builtin "BaseException.__getattribute__")) ∧ findIn am.K (.ref C) "__getattr__" = some none
  cls : (clsIn am.K C).isSome = true
  find : findIn am.K (.ref C) "__class__" = some (some (.builtin "object.__class__"))
  spec : specialIn am.K (.builtin "object.__class__") "__get__" = some (some (.builtin "getset_descriptor.__get__"))
  takes : takesIn am.K (.builtin "object.__class__") = some true
  mro : mroIn am.K C (.type "object") = some true
  val : kitOne am.K (.ref C) (.type "ValueError") = some true
noncomputable def RaiseAt (B : Heap) (C : Addr) : Prop := ∃ nm q N bs bm hdct sn sub ab col dd k0 k1 k2 k3 k5 mN,
  B.get? C = some (excClassObj nm q C N bs bm hdct sn sub ab col dd k0 k1 k2 k3 k5 "ValueError.__new__") ∧ B.Ns N mN ∧ (∀ n ∈ quietNames, mN n = none) ∧
    OwnTailQ B [.type "ValueError", .type "Exception", .type "BaseException", .type "object"] bm
structure AmbX (am : Amb) : Prop extends AmbOK am where
  K : Frag.In am.K am.B
  bt : ∀ p ∈ bTab, am.mg p.1 = none ∧ am.mb p.1 = some p.2
  exc : ∀ c ∈ excNames, ∃ C, ExcCls am c C
  sub : ∀ c ∈ excNames, ∀ d ∈ excNames, ∀ C D, am.mg (Str.ofString c) = some (.ref C) → am.mg (Str.ofString d) = some (.ref D) → kitOne am.K (.ref C) (.ref D) = some (c == d || d == "RingError")
  exm : ∀ c ∈ excNames, ∀ C D, am.mg (Str.ofString c) = some (.ref C) → am.mg (Str.ofString "RingError") = some (.ref D) → exmOne am.K (.ref C) (.ref D) = some true
  rs : ∀ c ∈ excNames, ∀ C, am.mg (Str.ofString c) = some (.ref C) → RaiseAt am.B C
theorem AmbX.at (x : AmbX am) (res : List Addr) : AmbX (am.at res) := ⟨⟨x.g, x.b, x.nolimit, x.noseer, x.tree⟩, x.K, x.bt, fun c hc => let ⟨C, e⟩ := x.exc c hc; ⟨C, e.name, e.get, e.cls, e.find, e.spec, e.takes, e.mro, e.val⟩, x.sub, x.exm, x.rs⟩
noncomputable def FunAt (am : Amb) (f : String) (a : Addr) : Prop := am.mg (Str.ofString f) = some (.ref a) ∧ ∃ o fd, am.B.get? a = some o ∧ o.data = .func fd
structure CkR (am : Amb) (c : Ck) (cx : Cx) : Prop where
  ctx : cx.ctx = c.ctx
  names : cx.env.scope.names = c.names
  fns : ∀ f ∈ c.fns, ∃ a, FunAt am f a
  nums : ∀ p ∈ c.nums, ∃ t, am.mg (Str.ofString p.1) = some (.int p.2 t)
noncomputable def ArgR (am : Amb) (q : Bool) (π : List Addr) (h : Heap) (vs : List V) (xs : List Value) : Prop :=
  VRs am π h vs xs ∨ (q = false ∧ ∃ c a, vs = [.exc c] ∧ xs = [.ref a] ∧ a ∉ π ∧ ExcAt am h c a)
structure FnOK (am : Amb) (n : Nat) (F : Fn) : Prop where
  call : ∀ res q f a vs xs stack A π Hc s, FunAt am f a → AS n stack A → HR (am.at res) stack π Hc s.heap → Hd q A π (Fs stack) s.heap → ArgR (am.at res) q π s.heap vs xs →
    JAt (am.at res) stack A (PySem.call (.ref a) xs []) (F q f vs Hc) (VR (am.at res)) π s
structure Base (am : Amb) (n : Nat) (q : Bool) (F : Fn) (c : Ck) (cx : Cx) (ρ : List V) (A : Around) : Prop where
  ok : AmbX am
  fn : FnOK am n F
  ck : CkR am c cx
  cxk : CxOK cx
  as : AS n cx.stack A
  ne : q = true → NoExc ρ
section
variable {am : Amb} {n : Nat} {q : Bool} {F : Fn} {c : Ck} {cx : Cx} {ρ : List V} {A : Around} {res π : List Addr} {Hc : H} {s : Shared}
theorem ns_stays {B h : Heap} (k : B.StaysIn h) {a : Addr} {m : Str → Option Value} (hn : B.Ns a m) : h.Ns a m := let ⟨o, es, ep, ho, r⟩ := hn; ⟨o, es, ep, k a o ho, r⟩
theorem HR.gns {am : Amb} {stack : List Env} (ok : AmbX am) (hr : HR (am.at res) stack π Hc s.heap) : s.heap.Ns mainGlobals am.mg := ns_stays hr.base ok.g
theorem HR.bns {am : Amb} {stack : List Env} (ok : AmbX am) (hr : HR (am.at res) stack π Hc s.heap) : s.heap.Ns builtinsNs am.mb := ns_stays hr.base ok.b
theorem kind_is (b : CkR am c cx) (x : Str) : cx.env.kindOf x = c.names.lookup x := by unfold Env.kindOf; rw [b.names]
theorem wp_glob (b : Base am n q F c cx ρ A) (hr : HR (am.at res) cx.stack π Hc s.heap) {Q : Value → Shared → Prop} {E : Value → Shared → Prop} (hx : c.glob x = true) (hv : am.mg x = some v) (h : Q v s) :
    wpAny am.M A (eval (.Name x p) cx.env) Q E s := by
  unfold Ck.glob at hx
  simp only [Bool.and_eq_true, beq_iff_eq, Bool.not_eq_true'] at hx
  refine Calls.Name_function_global b.cxk.kind (by rw [kind_is b.ck]; exact hx.1) (Calls.loadGlobal_global (mg := am.mg) ?_ hv h) hx.2
  rw [b.cxk.globals]; exact HR.gns b.ok hr
theorem wp_bt (b : Base am n q F c cx ρ A) (hr : HR (am.at res) cx.stack π Hc s.heap) {Q : Value → Shared → Prop} {E : Value → Shared → Prop} (hx : c.glob x = true) (hv : (x, v) ∈ bTab) (h : Q v s) :
    wpAny am.M A (eval (.Name x p) cx.env) Q E s := by
  unfold Ck.glob at hx
  simp only [Bool.and_eq_true, beq_iff_eq, Bool.not_eq_true'] at hx
  obtain ⟨h1, h2⟩ := b.ok.bt _ hv
  refine Calls.Name_function_global b.cxk.kind (by rw [kind_is b.ck]; exact hx.1) (Calls.loadGlobal_builtin (mg := am.mg) (mb := am.mb) ?_ h1 ?_ h2 h) hx.2
  · rw [b.cxk.globals]; exact HR.gns b.ok hr
  · rw [b.cxk.builtins]; exact HR.bns b.ok hr
theorem wp_var (b : Base am n q F c cx ρ A) (st : St (am.at res) q cx ρ π Hc A s) {Q : Value → Shared → Prop} {E : Value → Shared → Prop} (hx : c.var x i = true) (hv : ρ[i]? = some v) (hu : v ≠ .undef)
    (h : ∀ v', SR (am.at res) π s.heap v v' → Q v' s) : wpAny am.M A (eval (.Name x p) cx.env) Q E s := by
  unfold Ck.var at hx
  simp only [Bool.and_eq_true, beq_iff_eq, Bool.not_eq_true'] at hx
  refine hold fun z_ k_ => ?_
  obtain ⟨⟨⟨h1, h2⟩, h3⟩, h4⟩ := hx
  refine k_ ?_
  have hvis : Vis cx.env x := by
    unfold Vis; rw [kind_is b.ck]
    unfold visible at h2
    simp only [Bool.or_eq_true, beq_iff_eq] at h2
    rcases h2 with (h2 | h2) | h2 <;> simp [h2]
  obtain ⟨v', h5, h6⟩ := st.er.var x i v (by rw [b.ck.ctx]; exact h1) hv hu hvis
  refine wpAny_Name ?_ h3
  rcases h5 with ⟨k, m, h7, h8⟩ | ⟨k, cc, h7, h8⟩
  · exact wpAny_loadName_local b.cxk.kind k h7 h8 (h v' h6)
  · rcases k with k | k
    · exact wpAny_loadName_cell b.cxk.kind k h7 h8 (h v' h6)
    · exact wpAny_loadName_free b.cxk.kind k h7 h8 (h v' h6) h4
theorem ev_var (b : Base am n q F c cx ρ A) (st : St (am.at res) q cx ρ π Hc A s) (hx : c.var x i = true) :
    JAt (am.at res) cx.stack A (eval (.Name x p) cx.env) (evE q F ρ (.var i) Hc) (VR (am.at res)) π s := by
  simp only [qE_1, qE_2, qE_3, qE_4, qE_5, qE_6, qE_7, qE_8, qE_9, qE_10, qE_11, qE_12, qE_13, qE_14, qE_15, qE_16, qE_17, qE_18, qE_19, qE_20, qE_21, qE_22, qE_23, qE_24, qE_25, qE_26, qE_27, qE_28, qE_29, qE_30, qE_31, qE_32, qE_33, qE_34, qE_35, qE_36, qE_37, qE_38]
  cases hv : ρ[i]? with
  | none => exact .inl rfl
  | some v =>
    have go : (∀ c, v ≠ .exc c) → v ≠ .undef → JAt (am.at res) cx.stack A (eval (.Name x p) cx.env) (.ok v Hc) (VR (am.at res)) π s :=
      fun h1 h2 => .inr (wp_var b st hx hv h2 fun v' h => OkP.here st.hr (h.vr h1))
    cases v with
    | undef => exact .inl rfl
    | exc c => exact .inl rfl
    | _ => exact go (by simp) (by simp)
noncomputable def tr (r : R V) : R Bool := r.bind fun x h => match truthy x with
  | some b => .ok b h
  | none => .bad
noncomputable def BR (_ : List Addr) (_ : Heap) (b : Bool) (a : Bool) : Prop := b = a
theorem wp_truthy {am : Amb} {stack : List Env} {x : Value} {v : V} (hr : HR am stack π Hc s.heap) (hv : VR am π s.heap v x) :
    JAt am stack A (PySem.truthy x) ((match truthy v with | some b => R.ok b Hc | none => R.bad)) BR π s := by
  cases v with
  | bool b => simp only [VR] at hv; subst hv; exact .inr (wpAny_truthy_bool (OkP.here hr rfl))
  | _ => exact .inl rfl
theorem bind_tr {α : Type} (r : R α) (f : α → H → R V) : tr (r.bind f) = r.bind fun a h => tr (f a h) := by cases r <;> rfl
theorem tr_bind {α : Type} (r : R V) (f : Bool → H → R α) : (tr r).bind f = r.bind fun x h => match truthy x with
  | some b => f b h
  | none => .bad := by
  cases r with
  | ok v h => simp only [tr, R.bind]; cases truthy v <;> rfl
  | _ => rfl
end
end Mine

namespace Mine
open PySem PySem.W PyProof.Rows
section
variable {am : Amb} {stack : List Env} {A : Around} {α β γ δ : Type} {Rel : List Addr → Heap → β → α → Prop} {Rel' : List Addr → Heap → δ → γ → Prop} {π : List Addr} {s : Shared}
theorem JAt.seqP {m : Sem α} {t : Sem γ} {f : α → Sem γ} {r : R β} {g : β → H → R δ} {P : α → Shared → Prop}
    (K : ∀ (Q : γ → Shared → Prop) (E : Value → Shared → Prop), wpAny am.M A m (fun a s₁ => P a s₁ ∧ wpAny am.M A (f a) Q E s₁) E s → wpAny am.M A t Q E s) (h1 : JAt am stack A m r Rel π s)
    (h2 : ∀ a b H' π' s', r = .ok b H' → Step (Fs stack) π s π' s' → HR am stack π' H' s'.heap → Rel π' s'.heap b a → P a s' ∧ JAt am stack A (f a) (g b H') Rel' π' s') :
    JAt am stack A t (r.bind g) Rel' π s := by
  rcases h1 with rfl | h1
  · exact .inl rfl
  · cases r with
    | bad => exact .inl rfl
    | err c H' =>
      refine .inr (K _ _ (wpAny_mono h1 (fun a s' h => ?_) fun e s' h => ?_))
      · obtain ⟨_, _, _, h, _⟩ := h; cases h
      · refine hold fun z_ k_ => ?_
        obtain ⟨c', H'', π', e', C, fl, h, r2, r3, r4, r5, r6⟩ := h
        refine k_ ?_
        cases h
        exact ⟨c, H', π', e', C, fl, rfl, r2, r3, r4, r5, r6⟩
    | ok b H' =>
      by_cases hb : g b H' = .bad
      · exact .inl hb
      · refine .inr (K _ _ (wpAny_mono h1 (fun a s' h => ?_) fun e s' h => ?_))
        · refine hold fun z_ k_ => ?_
          obtain ⟨b', H'', π', h, h3, h4, h5⟩ := h
          refine k_ ?_
          cases h
          obtain ⟨hp, h2⟩ := h2 a b H' π' s' rfl h3 h4 h5
          rcases h2 with h6 | h6
          · exact absurd h6 hb
          · exact ⟨hp, wpAny_mono h6 (fun z_ z_ y => OkP.step h3 y) fun z_ z_ y => ErP.step h3 y⟩
        · obtain ⟨_, _, _, _, _, _, h, _⟩ := h; cases h
theorem JAt.seq {f : α → Sem γ} {g : β → H → R δ}
    (K : ∀ (Q : γ → Shared → Prop) (E : Value → Shared → Prop), wpAny am.M A m (fun a s₁ => wpAny am.M A (f a) Q E s₁) E s → wpAny am.M A t Q E s) (h1 : JAt am stack A m r Rel π s)
    (h2 : ∀ a b H' π' s', r = .ok b H' → Step (Fs stack) π s π' s' → HR am stack π' H' s'.heap → Rel π' s'.heap b a → JAt am stack A (f a) (g b H') Rel' π' s') :
    JAt am stack A t (r.bind g) Rel' π s :=
  JAt.seqP (P := fun z_ z_ => True) (fun Q E h => K Q E (wpAny_mono h (fun z_ z_ x => x.2) fun z_ z_ x => x)) h1 fun a b H' π' s' e1 e2 e3 e4 => ⟨trivial, h2 a b H' π' s' e1 e2 e3 e4⟩
end
section
variable (am : Amb) (n : Nat) (q : Bool) (F : Fn) (c : Ck)
noncomputable def EJ (e : PE) (ex : Expr) : Prop := ∀ {cx : Cx} {ρ : List V} {A : Around} {res π : List Addr} {Hc : H} {s : Shared}, Base am n q F c cx ρ A → St (am.at res) q cx ρ π Hc A s →
  JAt (am.at res) cx.stack A (eval ex cx.env) (evE q F ρ e Hc) (VR (am.at res)) π s
noncomputable def TJ (e : PE) (ex : Expr) : Prop := ∀ {cx : Cx} {ρ : List V} {A : Around} {res π : List Addr} {Hc : H} {s : Shared}, Base am n q F c cx ρ A → St (am.at res) q cx ρ π Hc A s →
  JAt (am.at res) cx.stack A (isTrue ex cx.env (eval ex cx.env)) (tr (evE q F ρ e Hc)) BR π s
noncomputable def AllJ : List PE → List Expr → Prop
  | [], [] => True
  | e :: es, x :: xs => (isStar x = false ∧ EJ am n q F c e x ∧ TJ am n q F c e x) ∧ AllJ es xs
  | _, _ => False
end
noncomputable def plainTest (e : Expr) : Bool := @Expr.casesOn (fun z_ => Bool) e (fun z_ z_ z_ => false) (fun z_ z_ z_ => true) (fun z_ z_ z_ z_ => true) (fun o z_ z_ => decide (o ≠ .Not)) (fun z_ z_ z_ z_ => true) (fun z_ z_ z_ z_ => false) (fun z_ z_ z_ => true) (fun z_ z_ z_ => true) (fun z_ z_ z_ z_ => true) (fun z_ z_ z_ z_ => true) (fun z_ z_ z_ z_ z_ => true) (fun z_ z_ z_ z_ => true) (fun z_ z_ => true) (fun z_ z_ => true) (fun z_ z_ => true) (fun z_ z_ z_ z_ => false) (fun z_ z_ z_ z_ => true) (fun z_ z_ z_ z_ => true) (fun z_ z_ => true) (fun z_ z_ z_ => true) (fun z_ z_ z_ => true) (fun z_ z_ z_ => true) (fun z_ z_ => true) (fun z_ z_ => true) (fun z_ z_ => true) (fun z_ z_ z_ => true) (fun z_ z_ z_ z_ => true)
set_option tactic.hygienic true in
theorem isTrue_plain (h : plainTest ex = true) (env : Env) (whole : Sem Value) : isTrue ex env whole = (do let v ← whole; standAt ex.pos; holding [v] (PySem.truthy v)) := by
  cases ex <;> first | rfl | exact noB h | skip
  rename_i op x pos
  cases op <;> first | rfl | exact noB h
section
variable {am : Amb} {n : Nat} {q : Bool} {F : Fn} {c : Ck}
theorem EJ.test (h : EJ am n q F c e ex) (hp : plainTest ex = true) : TJ am n q F c e ex := by
  intro cx ρ A res π Hc s b st
  refine JAt.congr (isTrue_plain hp _ _) rfl ?_
  unfold tr
  refine JAt.bind (h b st) fun x v H1 π1 s1 z_ hs1 hr1 hv1 => JAt.standAt (JAt.holding (wp_truthy hr1 hv1))
theorem bop_of (h : bopIs op o = true) : o = bopM op := (of_decide_eq_true h).symm
theorem cop_of (h : copIs op o = true) : o = copM op := (of_decide_eq_true h).symm
theorem ej_none : EJ am n q F c .none (.Constant .none k p) := fun z_ st => by
  simp only [qE_1, qE_2, qE_3, qE_4, qE_5, qE_6, qE_7, qE_8, qE_9, qE_10, qE_11, qE_12, qE_13, qE_14, qE_15, qE_16, qE_17, qE_18, qE_19, qE_20, qE_21, qE_22, qE_23, qE_24, qE_25, qE_26, qE_27, qE_28, qE_29, qE_30, qE_31, qE_32, qE_33, qE_34, qE_35, qE_36, qE_37, qE_38]; exact .inr (wpAny_Constant_none (OkP.here st.hr rfl))
theorem ej_bool : EJ am n q F c (.bool b) (.Constant (.bool b) k p) := fun z_ st => by
  simp only [qE_1, qE_2, qE_3, qE_4, qE_5, qE_6, qE_7, qE_8, qE_9, qE_10, qE_11, qE_12, qE_13, qE_14, qE_15, qE_16, qE_17, qE_18, qE_19, qE_20, qE_21, qE_22, qE_23, qE_24, qE_25, qE_26, qE_27, qE_28, qE_29, qE_30, qE_31, qE_32, qE_33, qE_34, qE_35, qE_36, qE_37, qE_38]; exact .inr (wpAny_Constant_bool (OkP.here st.hr rfl))
theorem ej_int : EJ am n q F c (.int i) (.Constant (.int i) k p) := fun z_ st => by
  simp only [qE_1, qE_2, qE_3, qE_4, qE_5, qE_6, qE_7, qE_8, qE_9, qE_10, qE_11, qE_12, qE_13, qE_14, qE_15, qE_16, qE_17, qE_18, qE_19, qE_20, qE_21, qE_22, qE_23, qE_24, qE_25, qE_26, qE_27, qE_28, qE_29, qE_30, qE_31, qE_32, qE_33, qE_34, qE_35, qE_36, qE_37, qE_38]; exact .inr (wpAny_Constant_int (OkP.tok st.hr ⟨_, rfl⟩))
theorem ej_str : EJ am n q F c (.str t) (.Constant (.str (Str.ofString t)) k p) := fun z_ st => by
  simp only [qE_1, qE_2, qE_3, qE_4, qE_5, qE_6, qE_7, qE_8, qE_9, qE_10, qE_11, qE_12, qE_13, qE_14, qE_15, qE_16, qE_17, qE_18, qE_19, qE_20, qE_21, qE_22, qE_23, qE_24, qE_25, qE_26, qE_27, qE_28, qE_29, qE_30, qE_31, qE_32, qE_33, qE_34, qE_35, qE_36, qE_37, qE_38]; exact .inr (wpAny_Constant_str (OkP.tok st.hr ⟨_, rfl⟩))
theorem ej_var (h : c.var x i = true) : EJ am n q F c (.var i) (.Name x p) := fun b st => ev_var b st h
theorem ej_glob (h : c.glob (Str.ofString g) = true) (hm : (g, i) ∈ c.nums) : EJ am n q F c (.glob g i) (.Name (Str.ofString g) p) := fun b st => by
  simp only [qE_1, qE_2, qE_3, qE_4, qE_5, qE_6, qE_7, qE_8, qE_9, qE_10, qE_11, qE_12, qE_13, qE_14, qE_15, qE_16, qE_17, qE_18, qE_19, qE_20, qE_21, qE_22, qE_23, qE_24, qE_25, qE_26, qE_27, qE_28, qE_29, qE_30, qE_31, qE_32, qE_33, qE_34, qE_35, qE_36, qE_37, qE_38]
  obtain ⟨t, ht⟩ := b.ck.nums _ hm
  exact .inr (wp_glob b st.hr h ht (OkP.here st.hr ⟨t, rfl⟩))
theorem ej_neg {i : Int} {k : Nat} {p p' : Pos} : EJ am n q F c (.neg i) (.UnaryOp .USub (.Constant (.int i) k p) p') := fun {cx ρ A res π Hc s} b st => by
  simp only [qE_1, qE_2, qE_3, qE_4, qE_5, qE_6, qE_7, qE_8, qE_9, qE_10, qE_11, qE_12, qE_13, qE_14, qE_15, qE_16, qE_17, qE_18, qE_19, qE_20, qE_21, qE_22, qE_23, qE_24, qE_25, qE_26, qE_27, qE_28, qE_29, qE_30, qE_31, qE_32, qE_33, qE_34, qE_35, qE_36, qE_37, qE_38]
  refine .inr (wpAny_UnaryOp (wpAny_Constant_int ?_))
  exact neg_int (OkP.step (Step.tok _) (OkP.tok (st.hr.keeps fun z_ z_ e => e) ⟨_, rfl⟩))
theorem ej_bin {op : Bop} {o : Operator} {a b : PE} {l r : Expr} {p : Pos} (ho : bopIs op o = true) (ha : EJ am n q F c a l) (hb : EJ am n q F c b r) : EJ am n q F c (.bin op a b) (.BinOp l o r p) := fun {cx ρ A res π Hc s} B st => by
  rw [bop_of ho]
  simp only [qE_1, qE_2, qE_3, qE_4, qE_5, qE_6, qE_7, qE_8, qE_9, qE_10, qE_11, qE_12, qE_13, qE_14, qE_15, qE_16, qE_17, qE_18, qE_19, qE_20, qE_21, qE_22, qE_23, qE_24, qE_25, qE_26, qE_27, qE_28, qE_29, qE_30, qE_31, qE_32, qE_33, qE_34, qE_35, qE_36, qE_37, qE_38]
  refine JAt.congr (arm_eval_BinOp ..) rfl (JAt.bind (ha B st) fun x v H1 π1 s1 z_ hs1 hr1 hv1 => ?_)
  refine JAt.bind (JAt.holding (hb B (st.step hs1 hr1))) fun y w H2 π2 s2 z_ hs2 hr2 hv2 => ?_
  exact JAt.standAt (JAt.operate (op_bin (B.ok.at res).toAmbOK B.cxk.stackOK B.as hr2 (hv1.step hs2) hv2))
theorem ej_not (ha : EJ am n q F c a x) : EJ am n q F c (.not a) (.UnaryOp .Not x p) := fun {cx ρ A res π Hc s} B st => by
  simp only [qE_1, qE_2, qE_3, qE_4, qE_5, qE_6, qE_7, qE_8, qE_9, qE_10, qE_11, qE_12, qE_13, qE_14, qE_15, qE_16, qE_17, qE_18, qE_19, qE_20, qE_21, qE_22, qE_23, qE_24, qE_25, qE_26, qE_27, qE_28, qE_29, qE_30, qE_31, qE_32, qE_33, qE_34, qE_35, qE_36, qE_37, qE_38]
  refine JAt.congr (arm_eval_UnaryOp ..) rfl (JAt.bind (ha B st) fun x v H1 π1 s1 z_ hs1 hr1 hv1 => ?_)
  exact JAt.standAt (JAt.holding (op_not hr1 hv1))
theorem tj_not (ha : TJ am n q F c a x) : TJ am n q F c (.not a) (.UnaryOp .Not x p) := fun {cx ρ A res π Hc s} B st => by
  have e : tr (evE q F ρ (.not a) Hc) = (tr (evE q F ρ a Hc)).bind fun b h => .ok (!b) h := by
    simp only [qE_1, qE_2, qE_3, qE_4, qE_5, qE_6, qE_7, qE_8, qE_9, qE_10, qE_11, qE_12, qE_13, qE_14, qE_15, qE_16, qE_17, qE_18, qE_19, qE_20, qE_21, qE_22, qE_23, qE_24, qE_25, qE_26, qE_27, qE_28, qE_29, qE_30, qE_31, qE_32, qE_33, qE_34, qE_35, qE_36, qE_37, qE_38, tr]
    cases evE q F ρ a Hc with
    | ok v h => simp only [R.bind_ok]; cases truthy v <;> rfl
    | _ => rfl
  rw [e]
  refine JAt.congr (arm_isTrue_UnaryOp ..) rfl (JAt.bind (ha B st) fun x v H1 π1 s1 z_ hs1 hr1 hv1 => ?_)
  exact JAt.pure hr1 (congrArg _ hv1)
theorem marks_of (h : isSet r = false) (t : Sem Value) : markedBehindIn op r t = t := by
  have : behindInMarks op r = false := by cases r <;> first | rfl | exact noB h.symm
  unfold markedBehindIn; rw [this]
theorem ej_cmp {op : Cop} {o : CmpOp} {a b : PE} {l r : Expr} {p : Pos} (ho : copIs op o = true) (hs : isSet r = false) (ha : EJ am n q F c a l) (hb : EJ am n q F c b r) : EJ am n q F c (.cmp op a b) (.Compare l [o] [r] p) := fun {cx ρ A res π Hc s} B st => by
  rw [cop_of ho]
  simp only [qE_1, qE_2, qE_3, qE_4, qE_5, qE_6, qE_7, qE_8, qE_9, qE_10, qE_11, qE_12, qE_13, qE_14, qE_15, qE_16, qE_17, qE_18, qE_19, qE_20, qE_21, qE_22, qE_23, qE_24, qE_25, qE_26, qE_27, qE_28, qE_29, qE_30, qE_31, qE_32, qE_33, qE_34, qE_35, qE_36, qE_37, qE_38]
  refine JAt.congr (eval_Compare1 ..) rfl (JAt.bind (ha B st) fun x v H1 π1 s1 z_ hs1 hr1 hv1 => ?_)
  rw [marks_of hs]
  refine JAt.bind (JAt.holding (hb B (st.step hs1 hr1))) fun y w H2 π2 s2 z_ hs2 hr2 hv2 => ?_
  exact JAt.standAt (JAt.operate (op_cmp B.as hr2 (hv1.step hs2) hv2))
theorem tj_cmp {op : Cop} {o : CmpOp} {a b : PE} {l r : Expr} {p : Pos} (ho : copIs op o = true) (hs : isSet r = false) (ha : EJ am n q F c a l) (hb : EJ am n q F c b r) : TJ am n q F c (.cmp op a b) (.Compare l [o] [r] p) := fun {cx ρ A res π Hc s} B st => by
  rw [cop_of ho]
  simp only [qE_1, qE_2, qE_3, qE_4, qE_5, qE_6, qE_7, qE_8, qE_9, qE_10, qE_11, qE_12, qE_13, qE_14, qE_15, qE_16, qE_17, qE_18, qE_19, qE_20, qE_21, qE_22, qE_23, qE_24, qE_25, qE_26, qE_27, qE_28, qE_29, qE_30, qE_31, qE_32, qE_33, qE_34, qE_35, qE_36, qE_37, qE_38, bind_tr]
  refine JAt.congr (isTrue_Compare1 ..) rfl (JAt.bind (ha B st) fun x v H1 π1 s1 z_ hs1 hr1 hv1 => ?_)
  rw [marks_of hs]
  refine JAt.bind (JAt.holding (hb B (st.step hs1 hr1))) fun y w H2 π2 s2 z_ hs2 hr2 hv2 => ?_
  refine JAt.standAt ?_
  unfold tr
  exact JAt.bind (JAt.operate (op_cmp B.as hr2 (hv1.step hs2) hv2)) fun x v H3 π3 s3 z_ hs3 hr3 hv3 => JAt.holding (wp_truthy hr3 hv3)
theorem JAt.release {am : Amb} {stack : List Env} {A : Around} {α β : Type} {Rel : List Addr → Heap → β → α → Prop} {π : List Addr} {s : Shared} {vs keep : List Value} {f : Unit → Sem α} {r : R β} (h : JAt am stack A (f ()) r Rel π s) : JAt am stack A (PySem.release vs keep >>= f) r Rel π s :=
  h.rule fun z_ z_ x => wpAny_bind (release_wp x)
theorem ej_cmp2 {op1 op2 : Cop} {o1 o2 : CmpOp} {a b d : PE} {l r1 r2 : Expr} {p : Pos} (ho1 : copIs op1 o1 = true) (ho2 : copIs op2 o2 = true) (hs : isSet r2 = false) (ha : EJ am n q F c a l) (hb : EJ am n q F c b r1) (hd : EJ am n q F c d r2) :
    EJ am n q F c (.cmp2 op1 op2 a b d) (.Compare l [o1, o2] [r1, r2] p) := fun {cx ρ A res π Hc s} B st => by
  rw [cop_of ho1, cop_of ho2]
  simp only [qE_1, qE_2, qE_3, qE_4, qE_5, qE_6, qE_7, qE_8, qE_9, qE_10, qE_11, qE_12, qE_13, qE_14, qE_15, qE_16, qE_17, qE_18, qE_19, qE_20, qE_21, qE_22, qE_23, qE_24, qE_25, qE_26, qE_27, qE_28, qE_29, qE_30, qE_31, qE_32, qE_33, qE_34, qE_35, qE_36, qE_37, qE_38]
  refine JAt.congr (arm_eval_Compare ..) rfl (JAt.bind (ha B st) fun x v H1 π1 s1 z_ hs1 hr1 hv1 => ?_)
  have st1 := st.step hs1 hr1
  show JAt _ _ _ (compareChain p x [copM op1, copM op2] [eval r1 cx.env, markedBehindIn (copM op2) r2 (eval r2 cx.env)]) _ _ _ _
  rw [marks_of hs]
  refine JAt.bind (JAt.holding (hb B st1)) fun y w H2 π2 s2 z_ hs2 hr2 hv2 => JAt.standAt ?_
  have st2 := st1.step hs2 hr2
  have hv1' := hv1.step hs2
  have e : ∀ (k : H → R V), (match pyCmp op1 H2 v w with | some true => k H2 | some false => .ok (.bool false) H2 | none => .bad) = (R.opt ((pyCmp op1 H2 v w).map V.bool) H2).bind fun x h => match truthy x with | some true => k h | some false => .ok (.bool false) h | none => .bad := by
    intro k
    cases pyCmp op1 H2 v w with
    | none => rfl
    | some b => cases b <;> rfl
  refine JAt.congr rfl (e fun h => (evE q F ρ d h).bind fun z h => R.opt ((pyCmp op2 h w z).map V.bool) h) ?_
  refine JAt.bind (JAt.holding (op_cmp B.as hr2 hv1' hv2)) fun z u H3 π3 s3 z_ hs3 hr3 hv3 => JAt.release ?_
  have st3 := st2.step hs3 hr3
  cases u with
  | bool t =>
    simp only [VR] at hv3; subst hv3
    refine JAt.rule (fun Q E h => wpAny_bind (wpAny_holding (wpAny_truthy_bool h))) ?_
    cases t with
    | false => exact JAt.pure hr3 rfl
    | true =>
      refine JAt.bind (JAt.holding (hd B st3)) fun y' w' H4 π4 s4 z_ hs4 hr4 hv4 => ?_
      exact JAt.standAt (JAt.operate (op_cmp B.as hr4 ((hv2.step hs3).step hs4) hv4))
  | _ => exact .inl rfl
theorem tj_cmp2 {op1 op2 : Cop} {o1 o2 : CmpOp} {a b d : PE} {l r1 r2 : Expr} {p : Pos} (ho1 : copIs op1 o1 = true) (ho2 : copIs op2 o2 = true) (hs : isSet r2 = false) (ha : EJ am n q F c a l) (hb : EJ am n q F c b r1) (hd : EJ am n q F c d r2) :
    TJ am n q F c (.cmp2 op1 op2 a b d) (.Compare l [o1, o2] [r1, r2] p) := fun {cx ρ A res π Hc s} B st => by
  rw [cop_of ho1, cop_of ho2]
  simp only [qE_1, qE_2, qE_3, qE_4, qE_5, qE_6, qE_7, qE_8, qE_9, qE_10, qE_11, qE_12, qE_13, qE_14, qE_15, qE_16, qE_17, qE_18, qE_19, qE_20, qE_21, qE_22, qE_23, qE_24, qE_25, qE_26, qE_27, qE_28, qE_29, qE_30, qE_31, qE_32, qE_33, qE_34, qE_35, qE_36, qE_37, qE_38, bind_tr]
  refine JAt.congr (arm_isTrue_Compare ..) rfl (JAt.bind (ha B st) fun x v H1 π1 s1 z_ hs1 hr1 hv1 => ?_)
  have st1 := st.step hs1 hr1
  show JAt _ _ _ (testChain p x [copM op1, copM op2] [eval r1 cx.env, markedBehindIn (copM op2) r2 (eval r2 cx.env)]) _ _ _ _
  rw [marks_of hs]
  refine JAt.bind (JAt.holding (hb B st1)) fun y w H2 π2 s2 z_ hs2 hr2 hv2 => JAt.standAt ?_
  have st2 := st1.step hs2 hr2
  have hv1' := hv1.step hs2
  have e : ∀ (k : H → R V), tr (match pyCmp op1 H2 v w with | some true => k H2 | some false => .ok (.bool false) H2 | none => .bad) = (R.opt ((pyCmp op1 H2 v w).map V.bool) H2).bind fun x h => match truthy x with | some true => tr (k h) | some false => .ok false h | none => .bad := by
    intro k
    cases pyCmp op1 H2 v w with
    | none => rfl
    | some b => cases b <;> rfl
  refine JAt.congr rfl (e fun h => (evE q F ρ d h).bind fun z h => R.opt ((pyCmp op2 h w z).map V.bool) h) ?_
  refine JAt.bind (JAt.holding (op_cmp B.as hr2 hv1' hv2)) fun z u H3 π3 s3 z_ hs3 hr3 hv3 => JAt.release ?_
  have st3 := st2.step hs3 hr3
  cases u with
  | bool t =>
    simp only [VR] at hv3; subst hv3
    refine JAt.rule (fun Q E h => wpAny_bind (wpAny_holding (wpAny_truthy_bool h))) ?_
    cases t with
    | false => exact JAt.pure hr3 rfl
    | true =>
      simp only [Mine.truthy, bind_tr]
      refine JAt.bind (JAt.holding (hd B st3)) fun y' w' H4 π4 s4 z_ hs4 hr4 hv4 => ?_
      refine JAt.standAt ?_
      unfold tr
      exact JAt.bind (JAt.operate (op_cmp B.as hr4 ((hv2.step hs3).step hs4) hv4)) fun x v H5 π5 s5 z_ hs5 hr5 hv5 => JAt.holding (wp_truthy hr5 hv5)
  | _ => exact .inl rfl
end
abbrev PT (γ : Type) := (γ → Shared → Prop) → (Value → Shared → Prop) → Shared → Prop
noncomputable def PT.Mono {γ : Type} (T : PT γ) : Prop := ∀ Q Q' E E' s, (∀ a s, Q a s → Q' a s) → (∀ e s, E e s → E' e s) → T Q E s → T Q' E' s
noncomputable def JT (am : Amb) (stack : List Env) {α β : Type} (T : PT α) (r : R β) (Rel : List Addr → Heap → β → α → Prop) (π : List Addr) (s : Shared) : Prop :=
  r = .bad ∨ T (OkP am stack Rel π s r) (ErP am stack π s r) s
section
variable {am : Amb} {stack : List Env} {A : Around} {α β γ δ : Type} {Rel : List Addr → Heap → β → α → Prop} {Rel' : List Addr → Heap → δ → γ → Prop} {π : List Addr} {s : Shared}
theorem PT.wp (M : Model) (m : Sem α) : PT.Mono (fun Q E s => wpAny M A m Q E s) := fun z_ z_ z_ z_ z_ h1 h2 h => wpAny_mono h h1 h2
theorem PT.seq (M : Model) (m : Sem α) {T : α → PT γ} (hT : ∀ a, PT.Mono (T a)) : PT.Mono (fun Q E s => wpAny M A m (fun a s₁ => T a Q E s₁) E s) :=
  fun Q Q' E E' z_ h1 h2 h => wpAny_mono h (fun a s₁ x => hT a Q Q' E E' s₁ h1 h2 x) h2
theorem JT.bind {m : Sem α} {T : α → PT γ} (hT : ∀ a, PT.Mono (T a)) {r : R β} {g : β → H → R δ} (h1 : JAt am stack A m r Rel π s)
    (h2 : ∀ a b H' π' s', r = .ok b H' → Step (Fs stack) π s π' s' → HR am stack π' H' s'.heap → Rel π' s'.heap b a → JT am stack (T a) (g b H') Rel' π' s') :
    JT am stack (fun Q E s => wpAny am.M A m (fun a s₁ => T a Q E s₁) E s) (r.bind g) Rel' π s := by
  rcases h1 with rfl | h1
  · exact .inl rfl
  · cases r with
    | bad => exact .inl rfl
    | err c H' =>
      refine .inr (wpAny_mono h1 (fun a s' h => ?_) fun e s' h => ?_)
      · obtain ⟨_, _, _, h, _⟩ := h; cases h
      · refine hold fun z_ k_ => ?_
        obtain ⟨c', H'', π', e', C, fl, h, r2, r3, r4, r5, r6⟩ := h
        refine k_ ?_
        cases h
        exact ⟨c, H', π', e', C, fl, rfl, r2, r3, r4, r5, r6⟩
    | ok b H' =>
      by_cases hb : g b H' = .bad
      · exact .inl hb
      · refine .inr (wpAny_mono h1 (fun a s' h => ?_) fun e s' h => ?_)
        · refine hold fun z_ k_ => ?_
          obtain ⟨b', H'', π', h, h3, h4, h5⟩ := h
          refine k_ ?_
          cases h
          rcases h2 a b H' π' s' rfl h3 h4 h5 with h6 | h6
          · exact absurd h6 hb
          · exact hT a _ _ _ _ _ (fun z_ z_ y => OkP.step h3 y) (fun z_ z_ y => ErP.step h3 y) h6
        · obtain ⟨_, _, _, _, _, _, h, _⟩ := h; cases h
theorem JT.rule (h : JT am stack T r Rel π s) (k : ∀ Q E, T Q E s → T' Q E s) : JT am stack T' r Rel π s := by
  rcases h with h | h
  · exact .inl h
  · exact .inr (k _ _ h)
theorem JT.at (h : JT am stack T r Rel π s) (k : ∀ Q E, T Q E s → wpAny am.M A m Q E s) : JAt am stack A m r Rel π s := by
  rcases h with h | h
  · exact .inl h
  · exact .inr (k _ _ h)
theorem JAt.pt (h : JAt am stack A m r Rel π s) : JT am stack (fun Q E s => wpAny am.M A m Q E s) r Rel π s := h
end
theorem ck_star (c : Ck) (e : PE) (x : Expr) (p : Pos) : ckE c e (.Starred x p) = false := by
  cases e with
  | own a =>
    cases a with
    | bf f b => cases f <;> rfl
    | bin op a b => cases op <;> rfl
    | _ => rfl
  | none => rfl
  | bool b => rfl
  | int b => rfl
  | str b => rfl
  | _ => rfl
theorem ck_isStar (h : ckE c e x = true) : isStar x = false := by
  cases x <;> first | rfl | (rw [ck_star] at h; cases h)
noncomputable def plainArgs (xs : List Expr) (env : Env) : List (Bool × Sem Value) := xs.map fun e => (false, eval e env)
theorem starEach_plain (env : Env) : ∀ {xs : List Expr}, (∀ x ∈ xs, isStar x = false) → ∀ pos : Pos, backTo pos (starEach xs env) = plainArgs xs env
  | [], _, _ => rfl
  | x :: xs, h, pos => by
    have ih := starEach_plain env (fun y hy => h y (List.mem_cons_of_mem _ hy)) pos
    have hx := h x List.mem_cons_self
    have e : starEach (x :: xs) env = (false, eval x env) :: starEach xs env := by
      cases x <;> first | rfl | exact noB hx.symm
    rw [e]
    show (false, eval x env) :: backTo pos (starEach xs env) = _
    rw [ih]; rfl
section
variable {am : Amb} {n : Nat} {q : Bool} {F : Fn} {c : Ck}
theorem AllJ.stars : ∀ {es : List PE} {xs : List Expr}, AllJ am n q F c es xs → ∀ x ∈ xs, isStar x = false
  | [], [], _ => by simp
  | e :: es, x :: xs, h => by
    intro y hy
    rcases List.mem_cons.mp hy with rfl | hy
    · exact h.1.1
    · exact AllJ.stars h.2 y hy
  | [], _ :: _, h => h.elim
  | _ :: _, [], h => h.elim
theorem AllJ.args : ∀ {es : List PE} {xs : List Expr} {π : List Addr} {Hc : H} {s : Shared}, AllJ am n q F c es xs → Base am n q F c cx ρ A → St (am.at res) q cx ρ π Hc A s →
    JAt (am.at res) cx.stack A (spliced (plainArgs xs cx.env)) (evEs q F ρ es Hc) (VRs (am.at res)) π s
  | [], [], π, Hc, s, _, _, st => by
    simp only [qEs_1, qEs_2]
    exact .inr (wpAny_pure (OkP.here st.hr (by simp [VRs])))
  | e :: es, x :: xs, π, Hc, s, h, B, st => by
    simp only [qEs_1, qEs_2]
    refine JAt.congr (m' := eval x cx.env >>= fun v => (pure [v] : Sem (List Value)) >>= fun here => holding here (spliced (plainArgs xs cx.env)) >>= fun tl => pure (here ++ tl)) (by
      show spliced ((false, eval x cx.env) :: plainArgs xs cx.env) = _
      rw [spliced]; rfl) rfl ?_
    refine JAt.bind (h.1.2.1 B st) fun x v H1 π1 s1 z_ hs1 hr1 hv1 => ?_
    refine JAt.rule (fun Q E h => wpAny_bind (wpAny_pure h)) ?_
    refine JAt.bind (JAt.holding (AllJ.args h.2 B (st.step hs1 hr1))) fun ys ws H2 π2 s2 z_ hs2 hr2 hv2 => ?_
    exact JAt.pure hr2 (by simp only [VRs]; exact ⟨_, _, rfl, hv1.step hs2, hv2⟩)
  | [], _ :: _, _, _, _, h, _, _ => h.elim
  | _ :: _, [], _, _, _, h, _, _ => h.elim
theorem ej_and : ∀ {es : List PE} {xs : List Expr} {p : Pos}, AllJ am n q F c es xs → EJ am n q F c (.and es) (.BoolOp .And xs p)
  | [], [], _, _, cx, ρ, A, res, π, Hc, s, _, _ => .inl rfl
  | [e], [x], _, h, cx, ρ, A, res, π, Hc, s, B, st => by
    simp only [qE_1, qE_2, qE_3, qE_4, qE_5, qE_6, qE_7, qE_8, qE_9, qE_10, qE_11, qE_12, qE_13, qE_14, qE_15, qE_16, qE_17, qE_18, qE_19, qE_20, qE_21, qE_22, qE_23, qE_24, qE_25, qE_26, qE_27, qE_28, qE_29, qE_30, qE_31, qE_32, qE_33, qE_34, qE_35, qE_36, qE_37, qE_38, qA_1, qA_2, qA_3]
    exact h.1.2.1 B st
  | e :: e2 :: es, x :: x2 :: xs, p, h, cx, ρ, A, res, π, Hc, s, B, st => by
    simp only [qE_1, qE_2, qE_3, qE_4, qE_5, qE_6, qE_7, qE_8, qE_9, qE_10, qE_11, qE_12, qE_13, qE_14, qE_15, qE_16, qE_17, qE_18, qE_19, qE_20, qE_21, qE_22, qE_23, qE_24, qE_25, qE_26, qE_27, qE_28, qE_29, qE_30, qE_31, qE_32, qE_33, qE_34, qE_35, qE_36, qE_37, qE_38, qA_1, qA_2, qA_3]
    refine JAt.congr (m' := eval x cx.env >>= fun v => standAt p >>= fun z_ => holding [v] (PySem.truthy v) >>= fun t => (match BoolOp.And, t with | .And, false | .Or, true => pure v | _, _ => boolOp p .And (evalEach (x2 :: xs) cx.env))) rfl rfl ?_
    refine JAt.bind (h.1.2.1 B st) fun y v H1 π1 s1 z_ hs1 hr1 hv1 => JAt.standAt ?_
    cases v with
    | bool b =>
      simp only [VR] at hv1; subst hv1
      refine JAt.rule (fun Q E h => wpAny_bind (wpAny_holding (wpAny_truthy_bool h))) ?_
      cases b with
      | false => exact JAt.pure hr1 rfl
      | true =>
        have := ej_and (p := p) h.2 B (st.step hs1 hr1)
        simp only [qE_1, qE_2, qE_3, qE_4, qE_5, qE_6, qE_7, qE_8, qE_9, qE_10, qE_11, qE_12, qE_13, qE_14, qE_15, qE_16, qE_17, qE_18, qE_19, qE_20, qE_21, qE_22, qE_23, qE_24, qE_25, qE_26, qE_27, qE_28, qE_29, qE_30, qE_31, qE_32, qE_33, qE_34, qE_35, qE_36, qE_37, qE_38] at this
        exact this
    | _ => exact .inl rfl
  | [], _ :: _, _, h, _, _, _, _, _, _, _, _, _ => h.elim
  | _ :: _, [], _, h, _, _, _, _, _, _, _, _, _ => h.elim
  | [_], _ :: _ :: _, _, h, _, _, _, _, _, _, _, _, _ => h.2.elim
  | _ :: _ :: _, [_], _, h, _, _, _, _, _, _, _, _, _ => h.2.elim
theorem ej_or : ∀ {es : List PE} {xs : List Expr} {p : Pos}, AllJ am n q F c es xs → EJ am n q F c (.or es) (.BoolOp .Or xs p)
  | [], [], _, _, cx, ρ, A, res, π, Hc, s, _, _ => .inl rfl
  | [e], [x], _, h, cx, ρ, A, res, π, Hc, s, B, st => by
    simp only [qE_1, qE_2, qE_3, qE_4, qE_5, qE_6, qE_7, qE_8, qE_9, qE_10, qE_11, qE_12, qE_13, qE_14, qE_15, qE_16, qE_17, qE_18, qE_19, qE_20, qE_21, qE_22, qE_23, qE_24, qE_25, qE_26, qE_27, qE_28, qE_29, qE_30, qE_31, qE_32, qE_33, qE_34, qE_35, qE_36, qE_37, qE_38, qR_1, qR_2, qR_3]
    exact h.1.2.1 B st
  | e :: e2 :: es, x :: x2 :: xs, p, h, cx, ρ, A, res, π, Hc, s, B, st => by
    simp only [qE_1, qE_2, qE_3, qE_4, qE_5, qE_6, qE_7, qE_8, qE_9, qE_10, qE_11, qE_12, qE_13, qE_14, qE_15, qE_16, qE_17, qE_18, qE_19, qE_20, qE_21, qE_22, qE_23, qE_24, qE_25, qE_26, qE_27, qE_28, qE_29, qE_30, qE_31, qE_32, qE_33, qE_34, qE_35, qE_36, qE_37, qE_38, qR_1, qR_2, qR_3]
    refine JAt.congr (m' := eval x cx.env >>= fun v => standAt p >>= fun z_ => holding [v] (PySem.truthy v) >>= fun t => (match BoolOp.Or, t with | .And, false | .Or, true => pure v | _, _ => boolOp p .Or (evalEach (x2 :: xs) cx.env))) rfl rfl ?_
    refine JAt.bind (h.1.2.1 B st) fun y v H1 π1 s1 z_ hs1 hr1 hv1 => JAt.standAt ?_
    cases v with
    | bool b =>
      simp only [VR] at hv1; subst hv1
      refine JAt.rule (fun Q E h => wpAny_bind (wpAny_holding (wpAny_truthy_bool h))) ?_
      cases b with
      | true => exact JAt.pure hr1 rfl
      | false =>
        have := ej_or (p := p) h.2 B (st.step hs1 hr1)
        simp only [qE_1, qE_2, qE_3, qE_4, qE_5, qE_6, qE_7, qE_8, qE_9, qE_10, qE_11, qE_12, qE_13, qE_14, qE_15, qE_16, qE_17, qE_18, qE_19, qE_20, qE_21, qE_22, qE_23, qE_24, qE_25, qE_26, qE_27, qE_28, qE_29, qE_30, qE_31, qE_32, qE_33, qE_34, qE_35, qE_36, qE_37, qE_38] at this
        exact this
    | _ => exact .inl rfl
  | [], _ :: _, _, h, _, _, _, _, _, _, _, _, _ => h.elim
  | _ :: _, [], _, h, _, _, _, _, _, _, _, _, _ => h.elim
  | [_], _ :: _ :: _, _, h, _, _, _, _, _, _, _, _, _ => h.2.elim
  | _ :: _ :: _, [_], _, h, _, _, _, _, _, _, _, _, _ => h.2.elim
theorem tr_and2 (ρ : List V) (e e2 : PE) (es : List PE) (Hc : H) : tr (evAnd q F ρ (e :: e2 :: es) Hc) = (tr (evE q F ρ e Hc)).bind fun b h => if b then tr (evAnd q F ρ (e2 :: es) h) else .ok false h := by
  simp only [qA_1, qA_2, qA_3, bind_tr]; rw [tr_bind]; congr 1; funext x h
  cases hx : truthy x with
  | none => rfl
  | some b =>
    cases b with
    | true => rfl
    | false => simp [tr, hx]
theorem tr_or2 (ρ : List V) (e e2 : PE) (es : List PE) (Hc : H) : tr (evOr q F ρ (e :: e2 :: es) Hc) = (tr (evE q F ρ e Hc)).bind fun b h => if b then .ok true h else tr (evOr q F ρ (e2 :: es) h) := by
  simp only [qR_1, qR_2, qR_3, bind_tr]; rw [tr_bind]; congr 1; funext x h
  cases hx : truthy x with
  | none => rfl
  | some b =>
    cases b with
    | false => rfl
    | true => simp [tr, hx]
theorem tj_and : ∀ {es : List PE} {xs : List Expr} {p : Pos}, AllJ am n q F c es xs → TJ am n q F c (.and es) (.BoolOp .And xs p)
  | [], [], _, _, cx, ρ, A, res, π, Hc, s, _, _ => .inl rfl
  | [e], [x], p, h, cx, ρ, A, res, π, Hc, s, B, st => by
    simp only [qE_1, qE_2, qE_3, qE_4, qE_5, qE_6, qE_7, qE_8, qE_9, qE_10, qE_11, qE_12, qE_13, qE_14, qE_15, qE_16, qE_17, qE_18, qE_19, qE_20, qE_21, qE_22, qE_23, qE_24, qE_25, qE_26, qE_27, qE_28, qE_29, qE_30, qE_31, qE_32, qE_33, qE_34, qE_35, qE_36, qE_37, qE_38, qA_1, qA_2, qA_3]
    have := h.1.2.2 B st
    refine JAt.rule (m' := isTrue x cx.env (eval x cx.env)) (fun Q E h => wpAny_isTrue_BoolOp (wpAny_allTrue_And_cons (wpAny_mono h (fun b s1 h1 => ?_) fun z_ z_ x => x))) this
    cases b with
    | true => exact wpAny_allTrue_And_nil h1
    | false => exact h1
  | e :: e2 :: es, x :: x2 :: xs, p, h, cx, ρ, A, res, π, Hc, s, B, st => by
    simp only [qE_1, qE_2, qE_3, qE_4, qE_5, qE_6, qE_7, qE_8, qE_9, qE_10, qE_11, qE_12, qE_13, qE_14, qE_15, qE_16, qE_17, qE_18, qE_19, qE_20, qE_21, qE_22, qE_23, qE_24, qE_25, qE_26, qE_27, qE_28, qE_29, qE_30, qE_31, qE_32, qE_33, qE_34, qE_35, qE_36, qE_37, qE_38]
    rw [tr_and2]
    refine JAt.congr (m' := isTrue x cx.env (eval x cx.env) >>= fun b => (match BoolOp.And, b with | .And, false => pure false | .Or, true => pure true | _, _ => allTrue .And (x2 :: xs) cx.env)) rfl rfl ?_
    refine JAt.bind (h.1.2.2 B st) fun y v H1 π1 s1 z_ hs1 hr1 hv1 => ?_
    unfold BR at hv1; subst hv1
    cases v with
    | false => exact JAt.pure hr1 rfl
    | true =>
      have := tj_and (p := p) h.2 B (st.step hs1 hr1)
      simp only [qE_1, qE_2, qE_3, qE_4, qE_5, qE_6, qE_7, qE_8, qE_9, qE_10, qE_11, qE_12, qE_13, qE_14, qE_15, qE_16, qE_17, qE_18, qE_19, qE_20, qE_21, qE_22, qE_23, qE_24, qE_25, qE_26, qE_27, qE_28, qE_29, qE_30, qE_31, qE_32, qE_33, qE_34, qE_35, qE_36, qE_37, qE_38] at this
      exact this
  | [], _ :: _, _, h, _, _, _, _, _, _, _, _, _ => h.elim
  | _ :: _, [], _, h, _, _, _, _, _, _, _, _, _ => h.elim
  | [_], _ :: _ :: _, _, h, _, _, _, _, _, _, _, _, _ => h.2.elim
  | _ :: _ :: _, [_], _, h, _, _, _, _, _, _, _, _, _ => h.2.elim
theorem tj_or : ∀ {es : List PE} {xs : List Expr} {p : Pos}, AllJ am n q F c es xs → TJ am n q F c (.or es) (.BoolOp .Or xs p)
  | [], [], _, _, cx, ρ, A, res, π, Hc, s, _, _ => .inl rfl
  | [e], [x], p, h, cx, ρ, A, res, π, Hc, s, B, st => by
    simp only [qE_1, qE_2, qE_3, qE_4, qE_5, qE_6, qE_7, qE_8, qE_9, qE_10, qE_11, qE_12, qE_13, qE_14, qE_15, qE_16, qE_17, qE_18, qE_19, qE_20, qE_21, qE_22, qE_23, qE_24, qE_25, qE_26, qE_27, qE_28, qE_29, qE_30, qE_31, qE_32, qE_33, qE_34, qE_35, qE_36, qE_37, qE_38, qR_1, qR_2, qR_3]
    have := h.1.2.2 B st
    refine JAt.rule (m' := isTrue x cx.env (eval x cx.env)) (fun Q E h => wpAny_isTrue_BoolOp (wpAny_allTrue_Or_cons (wpAny_mono h (fun b s1 h1 => ?_) fun z_ z_ x => x))) this
    cases b with
    | true => exact h1
    | false => exact wpAny_allTrue_Or_nil h1
  | e :: e2 :: es, x :: x2 :: xs, p, h, cx, ρ, A, res, π, Hc, s, B, st => by
    simp only [qE_1, qE_2, qE_3, qE_4, qE_5, qE_6, qE_7, qE_8, qE_9, qE_10, qE_11, qE_12, qE_13, qE_14, qE_15, qE_16, qE_17, qE_18, qE_19, qE_20, qE_21, qE_22, qE_23, qE_24, qE_25, qE_26, qE_27, qE_28, qE_29, qE_30, qE_31, qE_32, qE_33, qE_34, qE_35, qE_36, qE_37, qE_38]
    rw [tr_or2]
    refine JAt.congr (m' := isTrue x cx.env (eval x cx.env) >>= fun b => (match BoolOp.Or, b with | .And, false => pure false | .Or, true => pure true | _, _ => allTrue .Or (x2 :: xs) cx.env)) rfl rfl ?_
    refine JAt.bind (h.1.2.2 B st) fun y v H1 π1 s1 z_ hs1 hr1 hv1 => ?_
    unfold BR at hv1; subst hv1
    cases v with
    | true => exact JAt.pure hr1 rfl
    | false =>
      have := tj_or (p := p) h.2 B (st.step hs1 hr1)
      simp only [qE_1, qE_2, qE_3, qE_4, qE_5, qE_6, qE_7, qE_8, qE_9, qE_10, qE_11, qE_12, qE_13, qE_14, qE_15, qE_16, qE_17, qE_18, qE_19, qE_20, qE_21, qE_22, qE_23, qE_24, qE_25, qE_26, qE_27, qE_28, qE_29, qE_30, qE_31, qE_32, qE_33, qE_34, qE_35, qE_36, qE_37, qE_38] at this
      exact this
  | [], _ :: _, _, h, _, _, _, _, _, _, _, _, _ => h.elim
  | _ :: _, [], _, h, _, _, _, _, _, _, _, _, _ => h.elim
  | [_], _ :: _ :: _, _, h, _, _, _, _, _, _, _, _, _ => h.2.elim
  | _ :: _ :: _, [_], _, h, _, _, _, _, _, _, _, _, _ => h.2.elim
theorem ej_idx (ha : EJ am n q F c a v) (hi : EJ am n q F c i t) : EJ am n q F c (.idx a i) (.Subscript v t p) := fun {cx ρ A res π Hc s} B st => by
  simp only [qE_1, qE_2, qE_3, qE_4, qE_5, qE_6, qE_7, qE_8, qE_9, qE_10, qE_11, qE_12, qE_13, qE_14, qE_15, qE_16, qE_17, qE_18, qE_19, qE_20, qE_21, qE_22, qE_23, qE_24, qE_25, qE_26, qE_27, qE_28, qE_29, qE_30, qE_31, qE_32, qE_33, qE_34, qE_35, qE_36, qE_37, qE_38]
  refine JAt.congr (m' := eval v cx.env >>= fun o => holding [o] (eval t cx.env) >>= fun i => standAt p >>= fun z_ => subscriptTail v t o i) rfl rfl ?_
  refine JAt.bind (ha B st) fun x v' H1 π1 s1 z_ hs1 hr1 hv1 => ?_
  refine JAt.bind (JAt.holding (hi B (st.step hs1 hr1))) fun y w H2 π2 s2 z_ hs2 hr2 hv2 => ?_
  exact JAt.standAt (op_idx B.as hr2 (hv1.step hs2) hv2)
noncomputable def OptJ (am : Amb) (n : Nat) (q : Bool) (F : Fn) (c : Ck) : Option PE → Option Expr → Prop
  | none, none => True
  | some e, some x => EJ am n q F c e x
  | _, _ => False
noncomputable def OVR (am : Amb) (π : List Addr) (h : Heap) : Option V → Value → Prop
  | none, x => x = .none
  | some v, x => VR am π h v x
theorem OVR.step {am : Amb} {Fs π π' : List Addr} {s s' : Shared} (x : Step Fs π s π' s') {v : Option V} {y : Value} (e : OVR am π s.heap v y) : OVR am π' s'.heap v y := by
  cases v with
  | none => exact e
  | some v => exact VR.step x e
theorem OptJ.ev (h : OptJ am n q F c e x) (B : Base am n q F c cx ρ A) (st : St (am.at res) q cx ρ π Hc A s) :
    JAt (am.at res) cx.stack A (valueOrNone (evalOpt x cx.env)) (evO q F ρ e Hc) (OVR (am.at res)) π s := by
  cases e with
  | none => cases x with
    | none => simp only [qO_1, qO_2]; exact .inr (wpAny_pure (OkP.here st.hr rfl))
    | some x => exact h.elim
  | some e => cases x with
    | none => exact h.elim
    | some x =>
      simp only [qO_1, qO_2]
      have h1 : JAt (am.at res) cx.stack A (eval x cx.env) (evE q F ρ e Hc) (VR (am.at res)) π s := h B st
      rcases h1 with h1 | h1
      · exact .inl (by rw [h1]; rfl)
      · refine .inr (wpAny_mono h1 (fun a s' h2 => ?_) fun a s' h2 => ?_)
        · refine hold fun z_ k_ => ?_
          obtain ⟨b, H', π', h3, h4, h5, h6⟩ := h2
          refine k_ ?_
          exact ⟨some b, H', π', by rw [h3]; rfl, h4, h5, h6⟩
        · refine hold fun z_ k_ => ?_
          obtain ⟨c', H'', π', e', C, fl, h, r2, r3, r4, r5, r6⟩ := h2
          refine k_ ?_
          exact ⟨c', H'', π', e', C, fl, by rw [h]; rfl, r2, r3, r4, r5, r6⟩
end
section
variable {am : Amb} {n : Nat} {q : Bool} {F : Fn} {c : Ck}
theorem HR.unhold {am : Amb} {stack : List Env} {π : List Addr} {Hc : H} {h : Heap} {l : Addr} (x : HR (am.hold l) stack π Hc h) : HR am stack π Hc h :=
  ⟨x.base, x.frames, x.len, x.nodup, fun a ha => x.res a (List.mem_cons_of_mem _ ha), x.off, fun i c a h1 h2 => by
    obtain ⟨o, xs, e0, e1, e2, e3⟩ := x.cell i c a h1 h2
    exact ⟨o, xs, e0, e1, e2, e3.reserve.2⟩⟩
noncomputable def FrP (am : Amb) (stack : List Env) (π : List Addr) (s : Shared) (r : R V) (x : Value) (s' : Shared) : Prop :=
  ∃ vs H1 π1 l xs, r = .ok (.lst vs) H1 ∧ x = .ref l ∧ vs.length ≤ 1000000 ∧ s.heap.get? l = none ∧ (l ∉ π1 ∧ l ∉ Fs stack ∧ l ∉ am.res ∧ am.B.get? l = none) ∧ Step (Fs stack) π s π1 s' ∧ HR (am.hold l) stack π1 H1 s'.heap ∧ PL s'.heap l xs ∧ VRs (am.hold l) π1 s'.heap vs xs
theorem HR.held {am : Amb} {stack : List Env} {π : List Addr} {Hc : H} {h h' : Heap} {l : Addr} (hr : HR am stack π Hc h) (hl : h.get? l = none) (k : ∀ b o, h.get? b = some o → h'.get? b = some o) (ho : ∃ o, h'.get? l = some o ∧ ∀ us, o.data ≠ .fields us) :
    HR (am.hold l) stack π Hc h' := by
  have hr' := hr.keeps k
  refine ⟨hr'.base, hr'.frames, hr'.len, hr'.nodup, fun a ha => ?_, hr'.off, fun i c a h1 h2 => ?_⟩
  · rcases List.mem_cons.mp ha with rfl | ha
    · exact ho
    · exact hr'.res a ha
  · obtain ⟨o, xs, e0, e1, e2, e3⟩ := hr.cell i c a h1 h2
    exact ⟨o, xs, k _ _ e0, e1, e2, (e3.held hl).keeps k⟩
theorem FrP.new {am : Amb} {stack : List Env} {π : List Addr} {s : Shared} {r : R V} {x : Value} {s1 s' : Shared} {vs : List V} {H1 : H} {π1 : List Addr} (h1 : r = .ok (.lst vs) H1) (h2 : Step (Fs stack) π s π1 s1) (h3 : HR am stack π1 H1 s1.heap) (h4 : vs.length ≤ 1000000) (h5 : NewL am π1 s1 vs x s') :
    FrP am stack π s r x s' := by
  refine hold fun z_ k_ => ?_
  obtain ⟨l, xs, h', tk, rfl, rfl, k, e1, e2, e3⟩ := h5
  refine k_ ?_
  refine ⟨vs, H1, π1, l, xs, h1, rfl, h4, ?_, ⟨fresh_pi h3 e1, fresh_fs h3 e1, fresh_res h3 e1, none_of_stays h3.base e1⟩, h2.trans (Step.keeps k), ?_, e2, e3⟩
  · cases hq : s.heap.get? l with
    | none => rfl
    | some o => obtain ⟨o', h6⟩ := h2.ext.alive l o hq; rw [e1] at h6; cases h6
  · refine h3.held e1 k ?_
    refine hold fun z_ k_ => ?_
    obtain ⟨o, n, ho, _, _, hd⟩ := e2
    refine k_ ?_
    exact ⟨o, ho, fun us q => by rw [hd] at q; cases q⟩
theorem FrP.lst {am : Amb} {stack : List Env} {π : List Addr} {s : Shared} {r : R V} {x : Value} {s' : Shared} (h : FrP am stack π s r x s') : OkP am stack (VR am) π s r x s' := by
  refine hold fun z_ k_ => ?_
  obtain ⟨vs, H1, π1, l, xs, rfl, rfl, h3, h4, h5, h6, h7, h8, h9⟩ := h
  refine k_ ?_
  refine ⟨_, H1, π1, rfl, h6, h7.unhold, ?_⟩
  simp only [VR]
  exact ⟨l, xs, rfl, ⟨h5.1, h5.2.2.1⟩, h8.is, h3, h9.reserve.2⟩
theorem FrP.cell {am : Amb} {stack : List Env} {π : List Addr} {s : Shared} {r : R V} {x : Value} {s' : Shared} (h : FrP am stack π s r x s') :
    OkP am stack (VR am) π s (r.bind fun x h => match x with | .lst vs => .ok (.ref h.length) (h ++ [.list vs]) | _ => .bad) x s' := by
  refine hold fun z_ k_ => ?_
  obtain ⟨vs, H1, π1, l, xs, rfl, rfl, h3, h4, h5, h6, h7, h8, h9⟩ := h
  refine k_ ?_
  refine ⟨_, _, π1 ++ [l], rfl, ⟨h6.same, h6.ext, ?_⟩, ⟨h7.base, h7.frames, by simp [h7.len], ?_, h7.unhold.res, ?_, ?_⟩, ?_⟩
  · obtain ⟨δ, rfl, hδ⟩ := h6.grow
    refine ⟨δ ++ [l], by simp, fun a ha => ?_⟩
    rcases List.mem_append.mp ha with ha | ha
    · exact hδ a ha
    · rw [List.mem_singleton.mp ha]; exact h4
  · rw [List.nodup_append]
    exact ⟨h7.nodup, by simp, fun a ha b hb => by rw [List.mem_singleton.mp hb]; exact fun q => h5.1 (q ▸ ha)⟩
  · intro a ha
    rcases List.mem_append.mp ha with ha | ha
    · exact h7.off a ha
    · rw [List.mem_singleton.mp ha]; exact ⟨h5.2.2.2, h5.2.1⟩
  · intro i c a hi ha
    by_cases hlt : i < H1.length
    · rw [List.getElem?_append_left hlt] at hi
      rw [List.getElem?_append_left (by rw [h7.len]; exact hlt)] at ha
      obtain ⟨o, ys, q0, q1, q2, q3⟩ := h7.cell i c a hi ha
      exact ⟨o, ys, q0, q1, q2, q3.reserve.1⟩
    · have hi' : i = H1.length := by
        have := (List.getElem?_eq_some_iff.mp hi).1
        simp only [List.length_append, List.length_singleton] at this
        omega
      subst hi'
      simp only [List.getElem?_concat_length, Option.some.injEq] at hi
      rw [← h7.len] at ha
      simp only [List.getElem?_concat_length, Option.some.injEq] at ha
      subst hi ha
      exact .ofList h8 h3 h9.reserve.1
  · simp only [VR]
    exact ⟨l, rfl, by rw [← h7.len]; simp⟩
noncomputable def JF (am : Amb) (stack : List Env) (T : PT Value) (r : R V) (π : List Addr) (s : Shared) : Prop := r = .bad ∨ T (FrP am stack π s r) (ErP am stack π s r) s
theorem FrP.step {am : Amb} {stack : List Env} {π π₁ : List Addr} {s s₁ : Shared} {r : R V} {a : Value} {s' : Shared}
    (x : Step (Fs stack) π s π₁ s₁) (y : FrP am stack π₁ s₁ r a s') : FrP am stack π s r a s' := by
  refine hold fun z_ k_ => ?_
  obtain ⟨vs, H1, π1, l, xs, h1, h2, h3, h4, h5, h6, h7⟩ := y
  refine k_ ?_
  refine ⟨vs, H1, π1, l, xs, h1, h2, h3, ?_, h5, x.trans h6, h7⟩
  cases hq : s.heap.get? l with
  | none => rfl
  | some o => obtain ⟨o', h6⟩ := x.ext.alive l o hq; rw [h4] at h6; cases h6
section
variable {am : Amb} {stack : List Env} {A : Around} {α β γ δ : Type} {Rel : List Addr → Heap → β → α → Prop} {π : List Addr} {s : Shared}
theorem JF.bind {T : α → PT Value} (hT : ∀ a, PT.Mono (T a)) {g : β → H → R V} (h1 : JAt am stack A m r Rel π s)
    (h2 : ∀ a b H' π' s', r = .ok b H' → Step (Fs stack) π s π' s' → HR am stack π' H' s'.heap → Rel π' s'.heap b a → JF am stack (T a) (g b H') π' s') :
    JF am stack (fun Q E s => wpAny am.M A m (fun a s₁ => T a Q E s₁) E s) (r.bind g) π s := by
  rcases h1 with rfl | h1
  · exact .inl rfl
  · cases r with
    | bad => exact .inl rfl
    | err c H' =>
      refine .inr (wpAny_mono h1 (fun a s' h => ?_) fun e s' h => ?_)
      · obtain ⟨_, _, _, h, _⟩ := h; cases h
      · refine hold fun z_ k_ => ?_
        obtain ⟨c', H'', π', e', C, fl, h, r2, r3, r4, r5, r6⟩ := h
        refine k_ ?_
        cases h
        exact ⟨c, H', π', e', C, fl, rfl, r2, r3, r4, r5, r6⟩
    | ok b H' =>
      by_cases hb : g b H' = .bad
      · exact .inl hb
      · refine .inr (wpAny_mono h1 (fun a s' h => ?_) fun e s' h => ?_)
        · refine hold fun z_ k_ => ?_
          obtain ⟨b', H'', π', h, h3, h4, h5⟩ := h
          refine k_ ?_
          cases h
          rcases h2 a b H' π' s' rfl h3 h4 h5 with h6 | h6
          · exact absurd h6 hb
          · exact hT a _ _ _ _ _ (fun z_ z_ y => FrP.step h3 y) (fun z_ z_ y => ErP.step h3 y) h6
        · obtain ⟨_, _, _, _, _, _, h, _⟩ := h; cases h
theorem JF.rule (h : JF am stack T r π s) (k : ∀ Q E, T Q E s → T' Q E s) : JF am stack T' r π s := by
  rcases h with h | h
  · exact .inl h
  · exact .inr (k _ _ h)
theorem JF.lst (h : JF am stack T r π s) (k : ∀ Q E, T Q E s → wpAny am.M A m Q E s) : JAt am stack A m r (VR am) π s := by
  rcases h with h | h
  · exact .inl h
  · refine .inr (wpAny_mono (k _ _ h) (fun a s' h => ?_) fun z_ z_ h => h)
    exact h.lst
theorem JF.cell (h : JF am stack T r π s) (k : ∀ Q E, T Q E s → wpAny am.M A m Q E s) :
    JAt am stack A m (r.bind fun x h => match x with | .lst vs => .ok (.ref h.length) (h ++ [.list vs]) | _ => .bad) (VR am) π s := by
  rcases h with rfl | h
  · exact .inl rfl
  · refine .inr (wpAny_mono (k _ _ h) (fun a s' h => ?_) fun z_ z_ h => ?_)
    · exact h.cell
    · refine hold fun z_ k_ => ?_
      obtain ⟨c', H'', π', e', C, fl, rfl, r2, r3, r4, r5, r6⟩ := h
      refine k_ ?_
      exact ⟨c', H'', π', e', C, fl, rfl, r2, r3, r4, r5, r6⟩
end
noncomputable def FJ (am : Amb) (n : Nat) (q : Bool) (F : Fn) (c : Ck) (e : PE) (ex : Expr) : Prop := ∀ {cx : Cx} {ρ : List V} {A : Around} {res π : List Addr} {Hc : H} {s : Shared}, Base am n q F c cx ρ A → St (am.at res) q cx ρ π Hc A s →
  JF (am.at res) cx.stack (fun Q E s => wpAny am.M A (eval ex cx.env) Q E s) (evE q F ρ e Hc) π s
theorem FJ.ej (h : FJ am n q F c e ex) : EJ am n q F c e ex := fun {cx ρ A res π Hc s} B st => (h B st).lst fun z_ z_ x => x
theorem FJ.own (h : FJ am n q F c e ex) : EJ am n q F c (.own e) ex := fun {cx ρ A res π Hc s} B st => by
  simp only [qE_1, qE_2, qE_3, qE_4, qE_5, qE_6, qE_7, qE_8, qE_9, qE_10, qE_11, qE_12, qE_13, qE_14, qE_15, qE_16, qE_17, qE_18, qE_19, qE_20, qE_21, qE_22, qE_23, qE_24, qE_25, qE_26, qE_27, qE_28, qE_29, qE_30, qE_31, qE_32, qE_33, qE_34, qE_35, qE_36, qE_37, qE_38]
  exact (h B st).cell fun z_ z_ x => x
set_option tactic.hygienic true in
theorem fj_list {es : List PE} {xs : List Expr} {p : Pos} (h : AllJ am n q F c es xs) : FJ am n q F c (.list es) (.List xs p) := fun {cx ρ A res π Hc s} B st => by
  simp only [qE_1, qE_2, qE_3, qE_4, qE_5, qE_6, qE_7, qE_8, qE_9, qE_10, qE_11, qE_12, qE_13, qE_14, qE_15, qE_16, qE_17, qE_18, qE_19, qE_20, qE_21, qE_22, qE_23, qE_24, qE_25, qE_26, qE_27, qE_28, qE_29, qE_30, qE_31, qE_32, qE_33, qE_34, qE_35, qE_36, qE_37, qE_38]
  refine JF.rule (T := fun Q E s => wpAny am.M A (spliced (plainArgs xs cx.env)) (fun ys s₁ => wpAny am.M A (newList ys) Q E s₁) E s)
    (JF.bind (fun z_ => PT.wp _ _) (h.args B st) fun ys vs H1 π1 s1 z_ hs1 hr1 hv1 => ?_) fun Q E h' => ?_
  · unfold mkL
    split
    · rename_i hle
      exact .inr (wpAny_newList (FrP.new rfl (.refl ..) hr1 hle (NewL.push (n := 0) (tk := s1.toks) hv1 rfl rfl rfl)) (by rw [hv1.len]; have := mil_le_line; omega))
    · exact .inl rfl
  · rw [arm_eval_List, starEach_plain _ h.stars]
    exact wpAny_bind (wpAny_standAt (wpAny_bind h'))
theorem OVR.part {am : Amb} {π : List Addr} {h : Heap} {w : Option V} {lo : Option Int} {y : Value} (h1 : OVR am π h w y) (h2 : w.mapM asInt? = some lo) : IsPart y lo := by
  cases w with
  | none => cases h1; cases h2; exact .none
  | some v =>
    cases v with
    | int i => obtain ⟨t, rfl⟩ := h1; cases h2; exact .int i t
    | _ => cases h2
theorem fj_slice {a : PE} {lo hi : Option PE} {v : Expr} {l u : Option Expr} {p p' : Pos} (ha : EJ am n q F c a v) (hl : OptJ am n q F c lo l) (hu : OptJ am n q F c hi u) : FJ am n q F c (.slice a lo hi) (.Subscript v (.Slice l u none p') p) := fun {cx ρ A res π Hc s} B st => by
  simp only [qE_1, qE_2, qE_3, qE_4, qE_5, qE_6, qE_7, qE_8, qE_9, qE_10, qE_11, qE_12, qE_13, qE_14, qE_15, qE_16, qE_17, qE_18, qE_19, qE_20, qE_21, qE_22, qE_23, qE_24, qE_25, qE_26, qE_27, qE_28, qE_29, qE_30, qE_31, qE_32, qE_33, qE_34, qE_35, qE_36, qE_37, qE_38]
  refine JF.rule (T := fun Q E s => wpAny am.M A (eval v cx.env) (fun x s₀ => wpAny am.M A (valueOrNone (evalOpt l cx.env)) (fun a s₁ => wpAny am.M A (valueOrNone (evalOpt u cx.env)) (fun b s₂ => wpAny am.M A (newFields "slice" [a, b, .none]) (fun i s₃ => wpAny am.M A (subscriptTail v (.Slice l u none p') x i) Q E s₃) E s₂) E s₁) E s₀) E s)
    (JF.bind (fun x => PT.seq _ _ fun a => PT.seq _ _ fun b => PT.seq _ _ fun i => PT.wp _ _) (ha B st) fun x v' H1 π1 s1 z_ hs1 hr1 hv1 => ?_) fun Q E h => ?_
  · have st1 := st.step hs1 hr1
    refine JF.bind (fun a => PT.seq _ _ fun b => PT.seq _ _ fun i => PT.wp _ _) (hl.ev B st1) fun y w H2 π2 s2 z_ hs2 hr2 hv2 => ?_
    have st2 := st1.step hs2 hr2
    refine JF.bind (fun a => PT.seq _ _ fun i => PT.wp _ _) (hu.ev B st2) fun z w2 H3 π3 s3 z_ hs3 hr3 hv3 => ?_
    unfold pySlice
    cases hlo : w.mapM asInt? with
    | none => exact .inl rfl
    | some lo => cases hhi : w2.mapM asInt? with
      | none => exact .inl rfl
      | some hi =>
        dsimp only
        cases hi' : litems H3 v' with
        | none => exact .inl rfl
        | some vs => exact .inr (wp_slice (am := am.at res) hr3 ((hv1.step hs2).step hs3) hi' ((hv2.step hs3).part hlo) (hv3.part hhi) fun y s1 s' h1 h2 h3 h4 => FrP.new rfl h1 h2 h3 h4)
  · have e : eval (.Subscript v (.Slice l u none p') p) cx.env = (eval v cx.env >>= fun o => holding [o] (valueOrNone (evalOpt l cx.env) >>= fun a => holding [a] (valueOrNone (evalOpt u cx.env)) >>= fun b => holding [a, b] (pure .none) >>= fun d => newFields "slice" [a, b, d]) >>= fun i => standAt p >>= fun z_ => subscriptTail v (.Slice l u none p') o i) := rfl
    rw [e]
    exact wpAny_bind (wpAny_mono h (fun o s0 h0 => wpAny_bind (wpAny_holding (wpAny_bind (wpAny_mono h0 (fun a s1 h1 => wpAny_bind (wpAny_holding (wpAny_mono h1 (fun b s2 h2 => wpAny_bind (wpAny_holding (wpAny_pure (wpAny_mono h2 (fun i s3 h3 => wpAny_bind (wpAny_standAt h3)) fun z_ z_ x => x)))) fun z_ z_ x => x))) fun z_ z_ x => x)))) fun z_ z_ x => x)
set_option tactic.hygienic true in
theorem ej_tup {es : List PE} {xs : List Expr} {k : Nat} {p : Pos} (h : AllJ am n q F c es xs) : EJ am n q F c (.tup es) (.Tuple xs k p) := fun {cx ρ A res π Hc s} B st => by
  simp only [qE_1, qE_2, qE_3, qE_4, qE_5, qE_6, qE_7, qE_8, qE_9, qE_10, qE_11, qE_12, qE_13, qE_14, qE_15, qE_16, qE_17, qE_18, qE_19, qE_20, qE_21, qE_22, qE_23, qE_24, qE_25, qE_26, qE_27, qE_28, qE_29, qE_30, qE_31, qE_32, qE_33, qE_34, qE_35, qE_36, qE_37, qE_38]
  refine JAt.congr (arm_eval_Tuple ..) rfl (JAt.standAt ?_)
  rw [starEach_plain _ h.stars]
  refine JAt.bind (h.args B st) fun ys vs H1 π1 s1 z_ hs1 hr1 hv1 => ?_
  unfold mkT
  split
  · rename_i hle
    exact .inr (wpAny_newTuple (OkP.tup (n := 0) hr1 hv1 hle rfl rfl) (by rw [hv1.len]; have := mil_le_line; omega))
  · exact .inl rfl
theorem ej_dict0 : EJ am n q F c .dict0 (.Dict [] [] p) := fun {cx ρ A res π Hc s} B st => by
  simp only [qE_1, qE_2, qE_3, qE_4, qE_5, qE_6, qE_7, qE_8, qE_9, qE_10, qE_11, qE_12, qE_13, qE_14, qE_15, qE_16, qE_17, qE_18, qE_19, qE_20, qE_21, qE_22, qE_23, qE_24, qE_25, qE_26, qE_27, qE_28, qE_29, qE_30, qE_31, qE_32, qE_33, qE_34, qE_35, qE_36, qE_37, qE_38]
  refine .inr (wpAny_Dict_empty ?_)
  have k : ∀ b o', s.heap.get? b = some o' → (s.heap.push { cls := .type "dict", data := .dict #[] }).get? b = some o' := fun z_ z_ e => Heap.get?_push_of_some _ e
  refine OkP.keeps (tk := s.toks) st.hr k ?_
  simp only [VR]
  exact ⟨_, _, _, _, rfl, ⟨fresh_pi st.hr (size_none _), fresh_res st.hr (size_none _)⟩, Heap.get?_push_size _ rfl, rfl, rfl⟩
theorem wp_call_bt (B : Base am n q F c cx ρ A) (hr : HR (am.at res) cx.stack π Hc s.heap) {Q : Value → Shared → Prop} {E : Value → Shared → Prop} (hx : c.glob x = true)
    (hv : (x, v) ∈ bTab) (hs : ∀ z ∈ y :: ys, isStar z = false)
    (h : wpAny am.M A (spliced (plainArgs (y :: ys) cx.env)) (fun vs s₁ => wpAny am.M A (PySem.call v vs []) Q E s₁) E s) : wpAny am.M A (eval (.Call (.Name x p) (y :: ys) [] p') cx.env) Q E s := by
  have hp : (plainArgs (y :: ys) cx.env).any (·.1) = false := by
    simp [plainArgs, List.any_eq_false]
  refine wpAny_Call_Name_kw (wp_bt B hr hx hv ?_)
  rw [starEach_plain _ hs]
  have h' : wpAny am.M A (evalArgs v true (plainArgs (y :: ys) cx.env) []) (fun a s₁ => wpAny am.M A (PySem.call v ([] ++ a.pos) a.kw) Q E s₁) E s := Calls.evalArgs_plain h
  rcases bt_kind hv with ⟨id, rfl⟩ | ⟨T, rfl⟩
  · exact Calls.callWith_builtin hp h'
  · exact PySem.callWith_type hp h'
end
theorem mapRefs_len (g : Nat → Option V) : ∀ {vs ws : List V}, V.mapRefs g vs = some ws → ws.length = vs.length
  | [], ws, h => by simp only [V.mapRefs, Option.some.injEq] at h; subst h; rfl
  | v :: vs, ws, h => by
    simp only [V.mapRefs, Option.bind_eq_some_iff, Option.map_eq_some_iff] at h
    refine hold fun z_ k_ => ?_
    obtain ⟨v', _, ws', h2, rfl⟩ := h
    refine k_ ?_
    simp [mapRefs_len g h2]
section
variable {am : Amb} {π δ : List Addr} {h : Heap}
mutual
theorem VR.mapRef {g : Nat → Option V} (hg : ∀ i a w, (π ++ δ)[i]? = some a → g i = some w → VR am π h w (.ref a)) :
    ∀ {v v' : V} {x : Value}, VR am (π ++ δ) h v x → V.mapRef g v = some v' → VR am π h v' x
  | .undef, _, _, e, _ => e.elim
  | .none, _, _, e, k => by simp only [V.mapRef, Option.some.injEq] at k; subst k; exact e
  | .bool _, _, _, e, k => by simp only [V.mapRef, Option.some.injEq] at k; subst k; exact e
  | .int _, _, _, e, k => by simp only [V.mapRef, Option.some.injEq] at k; subst k; exact e
  | .str _, _, _, e, k => by simp only [V.mapRef, Option.some.injEq] at k; subst k; exact e
  | .tup vs, _, x, e, k => by
    simp only [V.mapRef, Option.map_eq_some_iff] at k
    obtain ⟨ws, k, rfl⟩ := k
    simp only [VR] at e ⊢
    refine hold fun z_ k_ => ?_
    obtain ⟨a, xs, h1, h2, h3, h4, h5⟩ := e
    refine k_ ?_
    exact ⟨a, xs, h1, ⟨fun hm => h2.1 (List.mem_append_left _ hm), h2.2⟩, h3, by rw [mapRefs_len g k]; exact h4, VRs.mapRefs hg h5 k⟩
  | .lst vs, _, x, e, k => by
    simp only [V.mapRef, Option.map_eq_some_iff] at k
    obtain ⟨ws, k, rfl⟩ := k
    simp only [VR] at e ⊢
    refine hold fun z_ k_ => ?_
    obtain ⟨a, xs, h1, h2, h3, h4, h5⟩ := e
    refine k_ ?_
    exact ⟨a, xs, h1, ⟨fun hm => h2.1 (List.mem_append_left _ hm), h2.2⟩, h3, by rw [mapRefs_len g k]; exact h4, VRs.mapRefs hg h5 k⟩
  | .ref i, _, x, e, k => by
    simp only [V.mapRef] at k
    simp only [VR] at e
    obtain ⟨a, rfl, h2⟩ := e
    exact hg i a _ h2 k
  | .exc _, _, _, e, _ => e.elim
  | .dct, _, _, e, k => by
    simp only [V.mapRef, Option.some.injEq] at k; subst k
    simp only [VR] at e ⊢
    refine hold fun z_ k_ => ?_
    obtain ⟨a, o, es, ep, h1, h2, r⟩ := e
    refine k_ ?_
    exact ⟨a, o, es, ep, h1, ⟨fun hm => h2.1 (List.mem_append_left _ hm), h2.2⟩, r⟩
theorem VRs.mapRefs {g : Nat → Option V} (hg : ∀ i a w, (π ++ δ)[i]? = some a → g i = some w → VR am π h w (.ref a)) :
    ∀ {vs ws : List V} {xs : List Value}, VRs am (π ++ δ) h vs xs → V.mapRefs g vs = some ws → VRs am π h ws xs
  | [], _, _, e, k => by simp only [V.mapRefs, Option.some.injEq] at k; subst k; exact e
  | v :: vs, ws, xs, e, k => by
    simp only [V.mapRefs, Option.bind_eq_some_iff, Option.map_eq_some_iff] at k
    refine hold fun z_ k_ => ?_
    obtain ⟨v', k1, ws', k2, rfl⟩ := k
    refine k_ ?_
    simp only [VRs] at e ⊢
    refine hold fun z_ k_ => ?_
    obtain ⟨x, xs', rfl, h1, h2⟩ := e
    refine k_ ?_
    exact ⟨x, xs', rfl, VR.mapRef hg h1 k1, VRs.mapRefs hg h2 k2⟩
end
set_option tactic.hygienic true in
theorem VR.frzAt {stack : List Env} {H' : H} (hr : HR am stack (π ++ δ) H' h) (hres : ∀ a ∈ δ, a ∉ am.res) :
    ∀ (k : Nat) (i : Nat) (a : Addr) (w : V), (π ++ δ)[i]? = some a → Mine.frzAt k π.length H' i = some w → VR am π h w (.ref a) := by
  have low : ∀ i a, (π ++ δ)[i]? = some a → i < π.length → VR am π h (.ref i) (.ref a) := fun i a h1 h2 => by
    simp only [VR]
    rw [List.getElem?_append_left h2] at h1
    exact ⟨a, rfl, h1⟩
  intro k
  induction k with
  | zero =>
    intro i a w h1 h2
    unfold Mine.frzAt at h2
    split at h2
    · cases h2; exact low i a h1 ‹_›
    · cases h2
  | succ k ih =>
    intro i a w h1 h2
    unfold Mine.frzAt at h2
    split at h2
    · cases h2; exact low i a h1 ‹_›
    · rename_i hi
      split at h2
      · rename_i vs hv
        simp only [Option.map_eq_some_iff] at h2
        obtain ⟨ws, h2, rfl⟩ := h2
        refine hold fun z_ k_ => ?_
        obtain ⟨xs, h3, h4, h5⟩ := (hr.cell i _ a hv h1).list
        refine k_ ?_
        simp only [VR]
        have hd : a ∈ δ := by
          rw [List.getElem?_append_right (by omega)] at h1
          exact List.mem_of_getElem? h1
        have hn := hr.nodup
        rw [List.nodup_append] at hn
        exact ⟨a, xs, rfl, ⟨fun hm => hn.2.2 a hm a hd rfl, hres a hd⟩, h3.is, by rw [mapRefs_len _ h2]; exact h4, VRs.mapRefs ih h5 h2⟩
      · cases h2
mutual
theorem VR.cut : ∀ {v : V} {x x₀ : Value}, VR am (π ++ δ) h v x → VR am π h₀ v x₀ → VR am π h v x
  | .undef, _, _, e, _ => e
  | .none, _, _, e, _ => e
  | .bool _, _, _, e, _ => e
  | .int _, _, _, e, _ => e
  | .str _, _, _, e, _ => e
  | .tup vs, x, x₀, e, f => by
    simp only [VR] at e f ⊢
    refine hold fun z_ k_ => ?_
    obtain ⟨a, xs, h1, h2, h3, h4, h5⟩ := e
    refine k_ ?_
    refine hold fun z_ k_ => ?_
    obtain ⟨_, ys, _, _, _, _, f5⟩ := f
    refine k_ ?_
    exact ⟨a, xs, h1, ⟨fun hm => h2.1 (List.mem_append_left _ hm), h2.2⟩, h3, h4, VRs.cut h5 f5⟩
  | .lst vs, x, x₀, e, f => by
    simp only [VR] at e f ⊢
    refine hold fun z_ k_ => ?_
    obtain ⟨a, xs, h1, h2, h3, h4, h5⟩ := e
    refine k_ ?_
    refine hold fun z_ k_ => ?_
    obtain ⟨_, ys, _, _, _, _, f5⟩ := f
    refine k_ ?_
    exact ⟨a, xs, h1, ⟨fun hm => h2.1 (List.mem_append_left _ hm), h2.2⟩, h3, h4, VRs.cut h5 f5⟩
  | .ref i, x, x₀, e, f => by
    simp only [VR] at e f ⊢
    obtain ⟨a, h1, h2⟩ := e
    obtain ⟨b, _, f2⟩ := f
    rw [List.getElem?_append_left (List.getElem?_eq_some_iff.mp f2).1] at h2
    exact ⟨a, h1, h2⟩
  | .exc _, _, _, e, _ => e
  | .dct, _, _, e, _ => by
    simp only [VR] at e ⊢
    refine hold fun z_ k_ => ?_
    obtain ⟨a, o, es, ep, h1, h2, r⟩ := e
    refine k_ ?_
    exact ⟨a, o, es, ep, h1, ⟨fun hm => h2.1 (List.mem_append_left _ hm), h2.2⟩, r⟩
theorem VRs.cut : ∀ {vs : List V} {xs xs₀ : List Value}, VRs am (π ++ δ) h vs xs → VRs am π h₀ vs xs₀ → VRs am π h vs xs
  | [], _, _, e, _ => e
  | v :: vs, xs, xs₀, e, f => by
    simp only [VRs] at e f ⊢
    refine hold fun z_ k_ => ?_
    obtain ⟨x, xs', rfl, h1, h2⟩ := e
    refine k_ ?_
    refine hold fun z_ k_ => ?_
    obtain ⟨y, ys', rfl, f1, f2⟩ := f
    refine k_ ?_
    exact ⟨x, xs', rfl, VR.cut h1 f1, VRs.cut h2 f2⟩
end
theorem HR.cut {stack : List Env} {Hc H' : H} {h₀ : Heap} (hr : HR am stack (π ++ δ) H' h) (hr₀ : HR am stack π Hc h₀) (ht : H'.take Hc.length = Hc) : HR am stack π Hc h := by
  refine ⟨hr.base, hr.frames, hr₀.len, hr₀.nodup, hr.res, fun a ha => hr.off a (List.mem_append_left _ ha), fun i c a h1 h2 => ?_⟩
  have hi : i < Hc.length := (List.getElem?_eq_some_iff.mp h1).1
  have h3 : H'[i]? = some c := by
    have := congrArg (fun l => l[i]?) ht
    simp only [List.getElem?_take, hi, if_true] at this
    rw [this]; exact h1
  have h4 : (π ++ δ)[i]? = some a := by rw [List.getElem?_append_left (by rw [hr₀.len]; exact hi)]; exact h2
  obtain ⟨o, xs, e0, e1, e2, e3⟩ := hr.cell i c a h3 h4
  obtain ⟨_, ys, _, _, _, f3⟩ := hr₀.cell i c a h1 h2
  exact ⟨o, xs, e0, e1, e2, e3.cut f3⟩
end
theorem Step.less {Fs π π' : List Addr} {s s' : Shared} (x : Step Fs π s π' s') : Step Fs π s π s' := ⟨x.same, x.ext, [], by simp, by simp⟩
set_option tactic.hygienic true in
theorem JAt.pcall {am : Amb} {stack : List Env} {A : Around} {π : List Addr} {s : Shared} {Hc : H} {m : Sem Value} {r : R V} (hr : HR am stack π Hc s.heap) (h : JAt am stack A m r (VR am) π s) : JAt am stack A m (Mine.pcall Hc r) (VR am) π s := by
  rcases h with rfl | h
  · exact .inl rfl
  · cases r with
    | bad => exact .inl rfl
    | err c H' =>
      simp only [Mine.pcall]
      split
      · rename_i ht
        refine .inr (wpAny_mono h (fun a s' h => ?_) fun e s' h => ?_)
        · obtain ⟨_, _, _, h, _⟩ := h; cases h
        · refine hold fun z_ k_ => ?_
          obtain ⟨c', H'', π', e', C, fl, h1, h2, h3, h4, h5, h6⟩ := h
          refine k_ ?_
          cases h1
          obtain ⟨δ, rfl, hδ⟩ := h4.grow
          exact ⟨c, Hc, π, e', C, fl, rfl, h2, h3, h4.less, h5.cut hr ht, h6⟩
      · exact .inl rfl
    | ok v H' =>
      simp only [Mine.pcall]
      split
      · rename_i ht
        cases hf : frz Hc.length H' v with
        | none => exact .inl rfl
        | some w =>
          refine .inr (wpAny_mono h (fun a s' h => ?_) fun e s' h => ?_)
          · refine hold fun z_ k_ => ?_
            obtain ⟨b, H'', π', h1, h2, h3, h4⟩ := h
            refine k_ ?_
            cases h1
            obtain ⟨δ, rfl, hδ⟩ := h2.grow
            refine ⟨w, Hc, π, rfl, h2.less, h3.cut hr ht, ?_⟩
            rw [← hr.len] at hf
            exact VR.mapRef (VR.frzAt h3 (fun a ha hm => by
              obtain ⟨o, ho, _⟩ := hr.res a hm
              rw [hδ a ha] at ho; cases ho) 4) h4 hf
          · obtain ⟨_, _, _, _, _, _, h, _⟩ := h; cases h
      · exact .inl rfl
section
variable {am : Amb} {n : Nat} {q : Bool} {F : Fn} {c : Ck}
theorem spl1 {Q : List Value → Shared → Prop} {E : Value → Shared → Prop} (h : wpAny M A (eval y env) (fun v s₁ => Q [v] s₁) E s) : wpAny M A (spliced (plainArgs [y] env)) Q E s :=
  Calls.spliced_cons (wpAny_mono h (fun z_ z_ h => Calls.spliced_nil h) fun z_ z_ x => x)
theorem spl2 {Q : List Value → Shared → Prop} {E : Value → Shared → Prop} (h : wpAny M A (eval y env) (fun v s₁ => wpAny M A (eval z env) (fun w s₂ => Q [v, w] s₂) E s₁) E s) : wpAny M A (spliced (plainArgs [y, z] env)) Q E s :=
  Calls.spliced_cons (wpAny_mono h (fun z_ z_ h => spl1 h) fun z_ z_ x => x)
noncomputable def bfVal : Bf → Value
  | .len => .builtin "len" | .all => .builtin "all" | .any => .builtin "any" | .sorted => .builtin "sorted" | .min => .builtin "min" | .sum => .builtin "sum"
  | .list => .type "list" | .tuple => .type "tuple" | .int => .type "int" | .str => .type "str" | .listRev => .type "list" | .listRange => .type "list"
theorem bf_tab (f : Bf) : (bfName f, bfVal f) ∈ bTab := by cases f <;> exact bt_mem (by kernel_rfl)
theorem Hd.quiet {A : Around} {π Fs : List Addr} {h : Heap} (x : Hd true A π Fs h) : A.handled = none := x
theorem op_bf {f : Bf} {am : Amb} {stack : List Env} {A : Around} {π : List Addr} {s : Shared} {Hc : H} {a : V} {x : Value} {n : Nat} (as : AS n stack A) (hf : f.ready = true) (h0 : f ≠ .listRev) (hq : f.walks = true → A.handled = none) (hr : HR am stack π Hc s.heap) (ha : VR am π s.heap a x) :
    JAt am stack A (PySem.call (bfVal f) [x]) (R.opt (bf f Hc a) Hc) (VR am) π s := by
  cases f with
  | len => exact op_len hr ha
  | list => exact op_list hr ha
  | tuple => exact op_tuple hr ha
  | int => exact op_int hr ha
  | listRev => exact absurd rfl h0
  | sorted => exact op_sorted as hr ha
  | _ => cases hf
set_option tactic.hygienic true in
theorem ej_bf (h0 : f ≠ .listRev) (hx : c.glob (bfName f) = true) (hy : isStar y = false) (ha : EJ am n q F c a y) : EJ am n q F c (.bf f a) (.Call (.Name (bfName f) p) [y] [] p') := fun {cx ρ A res π Hc s} B st => by
  simp only [qE_1, qE_2, qE_3, qE_4, qE_5, qE_6, qE_7, qE_8, qE_9, qE_10, qE_11, qE_12, qE_13, qE_14, qE_15, qE_16, qE_17, qE_18, qE_19, qE_20, qE_21, qE_22, qE_23, qE_24, qE_25, qE_26, qE_27, qE_28, qE_29, qE_30, qE_31, qE_32, qE_33, qE_34, qE_35, qE_36, qE_37, qE_38]
  split
  · exact .inl rfl
  · rename_i hq
    simp only [Bool.or_eq_true, Bool.and_eq_true, Bool.not_eq_true', not_or, not_and, Bool.not_eq_false] at hq
    refine JT.at (T := fun Q E s => wpAny am.M A (eval y cx.env) (fun v s₁ => wpAny am.M A (PySem.call (bfVal f) [v]) Q E s₁) E s) (JT.bind (fun z_ => PT.wp _ _) (ha B st) fun x v H1 π1 s1 z_ hs1 hr1 hv1 => JAt.pt ?_)
      fun Q E h => wp_call_bt B st.hr hx (bf_tab f) (by simpa using hy) (spl1 h)
    refine op_bf B.as hq.2 h0 (fun hw => ?_) hr1 hv1
    cases q with
    | false => exact absurd hw (by simpa using hq.1)
    | true => exact Hd.quiet st.hd
theorem fj_bflist (hx : c.glob (bfName .list) = true) (hy : isStar y = false) (ha : EJ am n q F c a y) : FJ am n q F c (.bf .list a) (.Call (.Name (bfName .list) p) [y] [] p') := fun {cx ρ A res π Hc s} B st => by
  have e : evE q F ρ (.bf .list a) Hc = (evE q F ρ a Hc).bind fun x h => R.opt (bf .list h x) h := by
    simp only [qE_1, qE_2, qE_3, qE_4, qE_5, qE_6, qE_7, qE_8, qE_9, qE_10, qE_11, qE_12, qE_13, qE_14, qE_15, qE_16, qE_17, qE_18, qE_19, qE_20, qE_21, qE_22, qE_23, qE_24, qE_25, qE_26, qE_27, qE_28, qE_29, qE_30, qE_31, qE_32, qE_33, qE_34, qE_35, qE_36, qE_37, qE_38, Bf.ready, Bf.walks]; simp
  rw [e]
  refine JF.rule (T := fun Q E s => wpAny am.M A (eval y cx.env) (fun v s₁ => wpAny am.M A (PySem.call (.type "list") [v]) Q E s₁) E s) (JF.bind (fun z_ => PT.wp _ _) (ha B st) fun x v H1 π1 s1 z_ hs1 hr1 hv1 => ?_)
      fun Q E h => wp_call_bt B st.hr hx (bf_tab .list) (by simpa using hy) (spl1 h)
  unfold bf
  dsimp only
  cases hi : items H1 v with
  | none => exact .inl rfl
  | some vs =>
    obtain ⟨xs, hz⟩ : ∃ xs : List Value, vs.length ≤ 1000000 := ⟨[], by
      rcases items_at hr1 hv1 hi with ⟨l, xs, h⟩
      rcases h with ⟨_, h⟩
      first | exact h.2.1 | exact h.1 | omega⟩
    exact .inr (wp_list (am := am.at res) hr1 hv1 hi fun y s' h => FrP.new rfl (.refl ..) hr1 hz h)
end
section
variable {am : Amb} {n : Nat} {q : Bool} {F : Fn} {c : Ck}
noncomputable def lonly (o : Option V) : Option V := match o with
  | some (.lst vs) => some (.lst vs)
  | _ => Option.none
theorem own_bin (ha : EJ am n q F c a l) (hb : EJ am n q F c b r)
    (key : ∀ {cx : Cx} {A : Around} {res π : List Addr} {H2 : H} {s : Shared} {v w : V} {x y : Value}, HR (am.at res) cx.stack π H2 s.heap → VR (am.at res) π s.heap v x → VR (am.at res) π s.heap w y → JF (am.at res) cx.stack (fun Q E s => wpAny am.M A (binaryOp (bopM op) x y) Q E s) (R.opt (lonly (pyBin op H2 v w)) H2) π s) : EJ am n q F c (.own (.bin op a b)) (.BinOp l (bopM op) r p) := fun {cx ρ A res π Hc s} B st => by
  have e : evE q F ρ (.own (.bin op a b)) Hc = ((evE q F ρ a Hc).bind fun x h => (evE q F ρ b h).bind fun y h => R.opt (lonly (pyBin op h x y)) h).bind fun x h => match x with | .lst vs => .ok (.ref h.length) (h ++ [.list vs]) | _ => .bad := by
    simp only [qE_1, qE_2, qE_3, qE_4, qE_5, qE_6, qE_7, qE_8, qE_9, qE_10, qE_11, qE_12, qE_13, qE_14, qE_15, qE_16, qE_17, qE_18, qE_19, qE_20, qE_21, qE_22, qE_23, qE_24, qE_25, qE_26, qE_27, qE_28, qE_29, qE_30, qE_31, qE_32, qE_33, qE_34, qE_35, qE_36, qE_37, qE_38]
    cases evE q F ρ a Hc with
    | ok v h =>
      simp only [R.bind_ok]
      cases evE q F ρ b h with
      | ok w h =>
        simp only [R.bind_ok]
        cases pyBin op h v w with
        | none => rfl
        | some u => cases u <;> rfl
      | _ => rfl
    | _ => rfl
  rw [e]
  exact JF.cell (T := fun Q E s => wpAny am.M A (eval l cx.env) (fun v s₁ => wpAny am.M A (eval r cx.env) (fun w s₂ => wpAny am.M A (binaryOp (bopM op) v w) Q E s₂) E s₁) E s)
    (JF.bind (fun z_ => PT.seq _ _ fun z_ => PT.wp _ _) (ha B st) fun x v H1 π1 s1 z_ hs1 hr1 hv1 => JF.bind (fun z_ => PT.wp _ _) (hb B (st.step hs1 hr1)) fun y w H2 π2 s2 z_ hs2 hr2 hv2 => key hr2 (hv1.step hs2) hv2)
    fun Q E h => wpAny_BinOp h
set_option tactic.hygienic true in
theorem own_add (ha : EJ am n q F c a l) (hb : EJ am n q F c b r) : EJ am n q F c (.own (.bin .add a b)) (.BinOp l .Add r p) := own_bin (op := .add) ha hb fun {cx A res π H2 s v w x y} hr hv hw => by
  show JF _ _ _ (R.opt (lonly (pyAdd H2 v w)) H2) _ _
  rcases pyAdd_cases H2 v w with h | ⟨i, k, rfl, rfl⟩ | ⟨i, k, rfl, rfl⟩ | ⟨vs, ws, la, lb, h⟩
  · rw [h]; exact .inl rfl
  · exact .inl rfl
  · first
    | exact .inl rfl
    | refine .inl ?_
      show R.opt (lonly (mkT (i ++ k))) H2 = .bad
      unfold mkT
      split <;> rfl
  · rw [h]
    unfold mkL
    split
    · rename_i hle
      exact .inr (wp_add_list (am := am.at res) hr hv hw la lb hle fun y s' h => FrP.new rfl (.refl ..) hr hle h)
    · exact .inl rfl
theorem wp_ty (B : Base am n q F c cx ρ A) (hr : HR (am.at res) cx.stack π Hc s.heap) {Q : Value → Shared → Prop} {E : Value → Shared → Prop} (hp : tyPl t = true) (hk : ckTy c t x = true) (h : Q (tyVal t) s) :
    wpAny am.M A (eval x cx.env) Q E s := by
  obtain ⟨p, rfl, hk'⟩ := ckTy_inv hk
  refine wp_bt B hr hk' ?_ h
  cases t <;> first | exact noB hp | exact bt_mem (by kernel_rfl)
theorem wp_tys (B : Base am n q F c cx ρ A) (hr : HR (am.at res) cx.stack π Hc s.heap) : ∀ {ts : List Ty} {xs : List Expr} {Q : List Value → Shared → Prop} {E : Value → Shared → Prop}, ts.all tyPl = true → ckTys c ts xs = true → Q (ts.map tyVal) s →
    wpAny am.M A (spliced (plainArgs xs cx.env)) Q E s
  | [], [], Q, E, _, _, h => Calls.spliced_nil h
  | t :: ts, x :: xs, Q, E, hp, hk, h => by
    simp only [List.all_cons, Bool.and_eq_true] at hp
    simp only [ckTys, Bool.and_eq_true] at hk
    exact Calls.spliced_cons (wp_ty B hr hp.1 hk.1 (wp_tys B hr hp.2 hk.2 h))
  | [], _ :: _, _, _, _, hk, _ => by simp [ckTys] at hk
  | _ :: _, [], _, _, _, hk, _ => by simp [ckTys] at hk
theorem tys_star : ∀ {ts : List Ty} {xs : List Expr}, ckTys c ts xs = true → ∀ x ∈ xs, isStar x = false
  | [], [], _ => by simp
  | t :: ts, x :: xs, hk => by
    simp only [ckTys, Bool.and_eq_true] at hk
    intro y hy
    rcases List.mem_cons.mp hy with rfl | hy
    · obtain ⟨p, rfl, _⟩ := ckTy_inv hk.1; rfl
    · exact tys_star hk.2 y hy
  | [], _ :: _, hk => by simp [ckTys] at hk
  | _ :: _, [], hk => by simp [ckTys] at hk
theorem tyPl_plain (h : tyPl t = true) : t.plain = true := by cases t <;> first | rfl | (simp [tyPl] at h; done)
theorem tyPl_all {ts : List Ty} (h : ts.all tyPl = true) : ts.all Ty.plain = true := by
  simp only [List.all_eq_true] at h ⊢; exact fun t ht => tyPl_plain (h t ht)
theorem ej_isinst (hx : c.glob "isinstance" = true) (hp : tyPl t = true) (hk : ckTy c t x = true) (hy : isStar y = false) (ha : EJ am n q F c a y) :
    EJ am n q F c (.isinst a [t]) (.Call (.Name "isinstance" p) [y, x] [] p') := fun {cx ρ A res π Hc s} B st => by
  simp only [qE_1, qE_2, qE_3, qE_4, qE_5, qE_6, qE_7, qE_8, qE_9, qE_10, qE_11, qE_12, qE_13, qE_14, qE_15, qE_16, qE_17, qE_18, qE_19, qE_20, qE_21, qE_22, qE_23, qE_24, qE_25, qE_26, qE_27, qE_28, qE_29, qE_30, qE_31, qE_32, qE_33, qE_34, qE_35, qE_36, qE_37, qE_38]
  refine JT.at (T := fun Q E s => wpAny am.M A (eval y cx.env) (fun v s₁ => wpAny am.M A (eval x cx.env) (fun w s₂ => wpAny am.M A (PySem.call (.builtin "isinstance") [v, w]) Q E s₂) E s₁) E s)
    (JT.bind (fun z_ => PT.seq _ _ fun z_ => PT.wp _ _) (ha B st) fun z v H1 π1 s1 z_ hs1 hr1 hv1 => ?_)
    fun Q E h => wp_call_bt B st.hr hx (bt_mem (by kernel_rfl)) (by intro z hz; rcases List.mem_cons.mp hz with rfl | hz; exact hy; exact tys_star (c := c) (ts := [t]) (xs := [x]) (by simp [ckTys, hk]) z hz) (spl2 h)
  refine JT.rule (JAt.pt (op_isi (A := A) (am := am.at res) B.ok.K hr1 hv1 (tyPl_plain hp))) fun Q E h => ?_
  exact wp_ty B hr1 hp hk h
theorem ej_isinst2 (hx : c.glob "isinstance" = true) (hp : ts.all tyPl = true) (hk : ckTys c ts xs = true) (hts : ts ≠ []) (hl : ts.length ≤ 1000) (hy : isStar y = false) (ha : EJ am n q F c a y) :
    EJ am n q F c (.isinst a ts) (.Call (.Name "isinstance" p) [y, .Tuple xs k p2] [] p') := fun {cx ρ A res π Hc s} B st => by
  simp only [qE_1, qE_2, qE_3, qE_4, qE_5, qE_6, qE_7, qE_8, qE_9, qE_10, qE_11, qE_12, qE_13, qE_14, qE_15, qE_16, qE_17, qE_18, qE_19, qE_20, qE_21, qE_22, qE_23, qE_24, qE_25, qE_26, qE_27, qE_28, qE_29, qE_30, qE_31, qE_32, qE_33, qE_34, qE_35, qE_36, qE_37, qE_38]
  refine JT.at (T := fun Q E s => wpAny am.M A (eval y cx.env) (fun v s₁ => wpAny am.M A (eval (.Tuple xs k p2) cx.env) (fun w s₂ => wpAny am.M A (PySem.call (.builtin "isinstance") [v, w]) Q E s₂) E s₁) E s)
    (JT.bind (fun z_ => PT.seq _ _ fun z_ => PT.wp _ _) (ha B st) fun z v H1 π1 s1 z_ hs1 hr1 hv1 => ?_)
    fun Q E h => wp_call_bt B st.hr hx (bt_mem (by kernel_rfl)) (by intro z hz; rcases List.mem_cons.mp hz with rfl | hz; exact hy; rw [List.mem_singleton.mp hz]; rfl) (spl2 h)
  let o : Obj := { cls := .type "tuple", data := .seq (ts.map tyVal).toArray }
  have kk : ∀ b o', s1.heap.get? b = some o' → (s1.heap.push o).get? b = some o' := fun b o' q => Heap.get?_push_of_some _ q
  have stp : Step (Fs cx.stack) π1 s1 π1 { s1 with heap := s1.heap.push o } := Step.keeps (tk := s1.toks) kk
  have base := op_isi2 (A := A) (am := am.at res) (s := { s1 with heap := s1.heap.push o }) (ts := ts) (tp := s1.heap.objs.size) (n := 0) (dd := none) (sl := #[]) B.ok.K (hr1.keeps kk) (hv1.keeps kk) (tyPl_all hp) hts (Heap.get?_push_size _ rfl)
  rcases base with h | h
  · exact .inl h
  · refine .inr ?_
    rw [arm_eval_Tuple, starEach_plain _ (tys_star hk)]
    refine wpAny_bind (wpAny_standAt (wpAny_bind (wp_tys B hr1 hp hk ?_)))
    exact wpAny_newTuple (wpAny_mono h (fun z_ z_ y => OkP.step stp y) fun z_ z_ y => ErP.step stp y) (by simp [sizeLine]; omega)
theorem ej_call (hx : c.glob (Str.ofString f) = true) (hf : f ∈ c.fns) (h : AllJ am n q F c es (x :: xs)) :
    EJ am n q F c (.call k f es) (.Call (.Name (Str.ofString f) p) (x :: xs) [] p') := fun {cx ρ A res π Hc s} B st => by
  simp only [qE_1, qE_2, qE_3, qE_4, qE_5, qE_6, qE_7, qE_8, qE_9, qE_10, qE_11, qE_12, qE_13, qE_14, qE_15, qE_16, qE_17, qE_18, qE_19, qE_20, qE_21, qE_22, qE_23, qE_24, qE_25, qE_26, qE_27, qE_28, qE_29, qE_30, qE_31, qE_32, qE_33, qE_34, qE_35, qE_36, qE_37, qE_38]
  obtain ⟨a, fa⟩ := B.ck.fns f hf
  refine hold fun z_ k_ => ?_
  obtain ⟨ga, o, fd, ho, hd⟩ := id fa
  refine k_ ?_
  refine JAt.seqP (m := spliced (plainArgs (x :: xs) cx.env)) (f := fun vs => PySem.call (.ref a) vs []) (P := fun z_ s₁ => s₁.heap.get? a = some o ∧ o.data = .func fd) (fun Q E h' => ?_) (h.args B st) fun ys vs H1 π1 s1 z_ hs1 hr1 hv1 => ⟨⟨hr1.base a o ho, hd⟩, ?_⟩
  · refine wpAny_Call_Name_kw (wp_glob B st.hr hx ga ?_)
    rw [starEach_plain _ h.stars]
    exact Calls.callWith_function (o := o) (fd := fd) (Calls.evalArgs_plain h')
  · have J := B.fn.call res q f a vs ys cx.stack A π1 H1 s1 fa B.as hr1 (st.hd.step hs1) (.inl hv1)
    cases k with
    | true => exact J
    | false => exact JAt.pcall hr1 J
end
theorem PL.update (pl : PL h l xs) (f : Array Value → Array Value) : PL (h.update l (Obj.mapSeq f)) l (f (List.toArray xs)).toList := by
  refine hold fun z_ k_ => ?_
  obtain ⟨o, n, ho, hc, hdi, hd⟩ := pl
  refine k_ ?_
  obtain ⟨n', hd'⟩ := Obj.data_mapSeq hd f
  refine ⟨_, n', Heap.get?_update_self _ ho (Obj.isFreed_of_seq hd'), (Obj.cls_mapSeq ..).trans hc, ?_, by simpa using hd'⟩
  refine hold fun z_ k_ => ?_
  obtain ⟨c, d, dt, sl⟩ := o
  refine k_ ?_
  simp only at hd hdi
  subst hd hdi
  rfl
theorem funFrames_but {h h' base : Heap} {l : Addr} (k : ∀ b o, b ≠ l → h.get? b = some o → h'.get? b = some o) (hl : ∃ o, h'.get? l = some o ∧ ∀ us, o.data ≠ .fields us) :
    ∀ {st : List Env}, h.FunFrames base st → h'.FunFrames base st
  | [], _ => trivial
  | e :: st, x => by
    refine hold fun z_ k_ => ?_
    obtain ⟨h1, ⟨L, o, h2, h3, h4, h5⟩, h6⟩ := x
    refine k_ ?_
    refine ⟨h1, ?_, funFrames_but k hl h6⟩
    by_cases hL : L = l
    · subst hL
      obtain ⟨o', h7, h8⟩ := hl
      exact ⟨L, o', h2, h3, h7, h8⟩
    · exact ⟨L, o, h2, h3, k L o hL h4, h5⟩
theorem mem_of_get {π : List Addr} {i : Nat} {l : Addr} (h : π[i]? = some l) : l ∈ π := List.mem_of_getElem? h
theorem pi_inj {π : List Addr} (hn : π.Nodup) {i j : Nat} {l : Addr} (h1 : π[i]? = some l) (h2 : π[j]? = some l) : i = j := by
  exact (List.getElem?_inj (List.getElem?_eq_some_iff.mp h1).1 hn).mp (h1.trans h2.symm)
theorem HR.put {am : Amb} {stack : List Env} {π : List Addr} {Hc : H} {s : Shared} (hr : HR am stack π Hc s.heap) {i : Nat} {l : Addr} (hi : π[i]? = some l) {vs : List V} {xs : List Value} (hz : vs.length ≤ 1000000) {h' : Heap} {tk : Nat}
    (k : ∀ b o, b ≠ l → s.heap.get? b = some o → h'.get? b = some o) (pl : PL h' l xs) (hv : VRs am π s.heap vs xs) :
    Step (Fs stack) π s π { s with heap := h', toks := tk } ∧ HR am stack π (Hc.set i (.list vs)) h' := by
  have hl := mem_of_get hi
  have nf : ∃ o, h'.get? l = some o ∧ ∀ us, o.data ≠ .fields us := by
    refine hold fun z_ k_ => ?_
    obtain ⟨o, n, ho, _, _, hd⟩ := pl
    refine k_ ?_
    exact ⟨o, ho, fun us q => by rw [hd] at q; cases q⟩
  have st : Step (Fs stack) π s π { s with heap := h', toks := tk } := by
    refine ⟨⟨h', tk, rfl⟩, ⟨fun a o e h1 z_ => k a o (fun q => h1 (q ▸ hl)) e, fun a o e h1 => ⟨o.slots, k a o (fun q => h1 (q ▸ hl)) e⟩, fun a o e => ?_⟩, [], by simp, by simp⟩
    by_cases ha : a = l
    · subst ha; obtain ⟨o, ho, _⟩ := nf; exact ⟨o, ho⟩
    · exact ⟨o, k a o ha e⟩
  refine ⟨st, ⟨fun a o e => ?_, funFrames_but k nf hr.frames, by simp [hr.len], hr.nodup, fun a ha => ?_, hr.off, fun j c a h1 h2 => ?_⟩⟩
  · exact k a o (fun q => by subst q; rw [(hr.off a hl).1] at e; cases e) (hr.base a o e)
  · by_cases hq : a = l
    · subst hq; exact nf
    · obtain ⟨o, ho, hd⟩ := hr.res a ha
      exact ⟨o, k a o hq ho, hd⟩
  · by_cases hj : j = i
    · subst hj
      have hlt : j < Hc.length := by rw [← hr.len]; exact (List.getElem?_eq_some_iff.mp hi).1
      rw [List.getElem?_set_self hlt] at h1
      cases h1
      rw [hi] at h2; cases h2
      exact .ofList pl hz (hv.step st)
    · rw [List.getElem?_set_ne (Ne.symm hj)] at h1
      have hne : a ≠ l := fun q => hj (pi_inj hr.nodup (q ▸ h2) hi)
      exact (hr.cell j c a h1 h2).via st.via fun o e z_ => ⟨o.slots, k a o hne e⟩
theorem PT.and {γ : Type} {P : Shared → Prop} {T : PT γ} (h : PT.Mono T) : PT.Mono (fun Q E s => P s ∧ T Q E s) := fun Q Q' E E' s h1 h2 x => ⟨x.1, h Q Q' E E' s h1 h2 x.2⟩
section
variable {am : Amb} {stack : List Env} {A : Around} {π : List Addr} {s : Shared} {Hc : H}
set_option tactic.hygienic true in
theorem lcell_at (hr : HR am stack π Hc s.heap) (ha : VR am π s.heap a x) (hc : lcell Hc a = true) :
    ∃ i l vs xs, a = .ref i ∧ x = .ref l ∧ π[i]? = some l ∧ Hc[i]? = some (.list vs) ∧ PL s.heap l xs ∧ vs.length ≤ 1000000 ∧ VRs am π s.heap vs xs := by
  cases a with
  | ref i =>
    simp only [lcell] at hc
    simp only [VR] at ha
    obtain ⟨l, rfl, hl⟩ := ha
    split at hc
    · rename_i vs hv
      refine hold fun z_ k_ => ?_
      obtain ⟨xs, h1, h2, h3⟩ := (hr.cell i _ l hv hl).list
      refine k_ ?_
      exact ⟨i, l, vs, xs, rfl, rfl, hl, hv, h1, h2, h3⟩
    · cases hc
  | _ => simp [lcell] at hc
theorem onList_lcell {f : List V → Option (V × List V)} (h : lcell Hc a = false) : onList Hc a f = .bad := by
  cases a with
  | ref i =>
    simp only [lcell, onList] at h ⊢
    cases hq : Hc[i]? with
    | none => rfl
    | some c => cases c with
      | list vs => rw [hq] at h; cases h
      | dict es => rfl
  | _ => rfl
set_option tactic.hygienic true in
theorem op_append (hr : HR am stack π Hc s.heap) (ha : VR am π s.heap a x) (hb : VR am π s.heap b y) :
    JAt am stack A (PySem.call (.builtin "list.append") [x, y]) (onList Hc a fun vs => some (.none, vs ++ [b])) (VR am) π s := by
  cases hc : lcell Hc a with
  | false => exact .inl (onList_lcell hc)
  | true =>
    refine hold fun z_ k_ => ?_
    obtain ⟨i, l, vs, xs, rfl, rfl, hi, hH, pl, hz, hv⟩ := lcell_at hr ha hc
    refine k_ ?_
    simp only [onList, hH]
    split
    · rename_i hle
      refine hold fun z_ k_ => ?_
      obtain ⟨o, n, ho, hcl, hdi, hd⟩ := id pl
      refine k_ ?_
      refine .inr (wpAny_call_entry slot_list_append pl.is.typeIs entry_list_append ?_ (args_list_append _ _))
      show wpAny _ _ (updateSeq l (·.push y) >>= fun z_ => ret .none) _ _ s
      refine wpAny_bind ?_
      have e := hv.len
      refine wpAny_updateSeq ho hd (wpAny_pure ⟨.none, rfl, ?_⟩) (hz := by simp only [List.size_toArray]; have := mil_le_line; omega)
      have pl' := pl.update (·.push y)
      have hp := HR.put (tk := s.toks) hr hi hle (xs := xs ++ [y]) (h' := s.heap.update l (Obj.mapSeq (·.push y))) (fun b o h1 h2 => (Heap.SameBut.update ..).extBut b o h1 h2) (by simpa using pl') (hv.append (.single hb))
      exact ⟨.none, _, π, rfl, hp.1, hp.2, rfl⟩
    · exact .inl rfl
end
section
variable {am : Amb} {n : Nat} {q : Bool} {F : Fn} {c : Ck}
theorem base_of (h : okBase o = true) : attributeBase o name env (eval o env) = eval o env := by
  cases o <;> first | rfl | exact noB h
set_option tactic.hygienic true in
theorem ej_method1 {e : PE} {o a : PE} {v y : Expr} {name : Str} {id : String} {p p' : Pos} {g : V → V → H → R V} (hb : okBase v = true) (hl : (p.endLine == p'.line) = true) (hy : isStar y = false) (slot : Slot "list" name id) (hty : typeOf (.builtin id) = pure (.type "method_descriptor"))
    (ho : EJ am n q F c o v) (ha : EJ am n q F c a y) (he : ∀ ρ Hc, evE q F ρ e Hc = (evE q F ρ o Hc).bind fun x h => if lcell h x then (evE q F ρ a h).bind fun y h => g x y h else .bad)
    (op : ∀ {res : List Addr} {stack : List Env} {A : Around} {π : List Addr} {s : Shared} {Hc : H} {a b : V} {x y : Value}, AS n stack A → HR (am.at res) stack π Hc s.heap → VR (am.at res) π s.heap a x → VR (am.at res) π s.heap b y → JAt (am.at res) stack A (PySem.call (.builtin id) [x, y]) (g a b Hc) (VR (am.at res)) π s) :
    EJ am n q F c e (.Call (.Attribute v name p) [y] [] p') := fun {cx ρ A res π Hc s} B st => by
  rw [he]
  have hst : ∀ z ∈ [y], isStar z = false := by simpa using hy
  refine JT.at (T := fun Q E s => wpAny am.M A (eval v cx.env) (fun ov s₁ => (s₁.TypeIs ov "list" ∧ (∀ a, ov = .ref a → ∃ ob, s₁.heap.get? a = some ob ∧ ob.dict = none)) ∧ wpAny am.M A (eval y cx.env) (fun w s₂ => wpAny am.M A (PySem.call (.builtin id) [ov, w]) Q E s₂) E s₁) E s)
    (JT.bind (fun z_ => PT.and (PT.seq _ _ fun z_ => PT.wp _ _)) (ho B st) fun x u H1 π1 s1 z_ hs1 hr1 hv1 => ?_) fun Q E h => ?_
  · split
    · rename_i hc
      refine hold fun z_ k_ => ?_
      obtain ⟨i, l, vs, xs, rfl, rfl, hi, hH, pl, hz, hv⟩ := lcell_at hr1 hv1 hc
      refine k_ ?_
      have J : JT (am.at res) cx.stack (fun Q E s => wpAny am.M A (eval y cx.env) (fun w s₂ => wpAny am.M A (PySem.call (.builtin id) [.ref l, w]) Q E s₂) E s) ((evE q F ρ a H1).bind fun y h => g (.ref i) y h) (VR (am.at res)) π1 s1 :=
        JT.bind (fun z_ => PT.wp _ _) (ha B (st.step hs1 hr1)) fun w u H2 π2 s2 z_ hs2 hr2 hv2 => JAt.pt (op B.as hr2 (hv1.step hs2) hv2)
      exact J.rule fun Q E h => ⟨⟨pl.is.typeIs, fun a e => by cases e; obtain ⟨o, n, ho, _, hd, _⟩ := pl; exact ⟨o, ho, hd⟩⟩, h⟩
    · exact .inl rfl
  · refine wpAny_Call_method (T := "list") (id := id) (base_of hb) (by rw [starEach_plain _ hst]; rfl) hl PySem.F.plainAttrs_list slot hty (wpAny_mono h (fun ov s₁ h₁ => ⟨h₁.1.1, h₁.1.2, ?_⟩) fun z_ z_ x => x)
    rw [starEach_plain _ hst]
    exact Calls.callWith_builtin rfl (Calls.evalArgs_plain (spl1 h₁.2))
theorem ej_append {o a : PE} {v y : Expr} {p p' : Pos} (hb : okBase v = true) (hl : (p.endLine == p'.line) = true) (hy : isStar y = false) (ho : EJ am n q F c o v) (ha : EJ am n q F c a y) :
    EJ am n q F c (.append o a) (.Call (.Attribute v "append" p) [y] [] p') :=
  ej_method1 (id := "list.append") (g := fun x y h => onList h x fun vs => some (.none, vs ++ [y])) hb hl hy PySem.F.slot_list_append PySem.F.type_list_append ho ha (fun ρ Hc => by simp only [qE_1, qE_2, qE_3, qE_4, qE_5, qE_6, qE_7, qE_8, qE_9, qE_10, qE_11, qE_12, qE_13, qE_14, qE_15, qE_16, qE_17, qE_18, qE_19, qE_20, qE_21, qE_22, qE_23, qE_24, qE_25, qE_26, qE_27, qE_28, qE_29, qE_30, qE_31, qE_32, qE_33, qE_34, qE_35, qE_36, qE_37, qE_38]) fun z_ hr h1 h2 => op_append hr h1 h2
end
section
variable {am : Amb} {stack : List Env} {A : Around} {π : List Addr} {s : Shared} {Hc : H}
theorem op_clear (hr : HR am stack π Hc s.heap) (ha : VR am π s.heap a x) :
    JAt am stack A (PySem.call (.builtin "list.clear") [x]) (onList Hc a fun z_ => some (.none, [])) (VR am) π s := by
  cases hc : lcell Hc a with
  | false => exact .inl (onList_lcell hc)
  | true =>
    refine hold fun z_ k_ => ?_
    obtain ⟨i, l, vs, xs, rfl, rfl, hi, hH, pl, hz, hv⟩ := lcell_at hr ha hc
    refine k_ ?_
    simp only [onList, hH]
    rw [if_pos (by simp)]
    refine hold fun z_ k_ => ?_
    obtain ⟨o, n, ho, hcl, hdi, hd⟩ := id pl
    refine k_ ?_
    refine .inr (wpAny_call_entry PySem.F.slot_list_clear pl.is.typeIs PySem.F.entry_list_clear ?_ (PySem.F.args_list_clear_1 _))
    show wpAny _ _ (Builtin.List.listItems (.ref l) >>= fun old => updateSeq l (fun z_ => #[]) >>= fun z_ => letGo old.toList.reverse >>= fun z_ => ret .none) _ _ s
    refine wpAny_bind (wpAny_listItems ho hd ?_)
    refine wpAny_bind ?_
    have e := hv.len
    refine wpAny_updateSeq ho hd ?_ (hz := by simp only [List.size_toArray]; have := mil_le_line; omega)
    refine wpAny_bind (wpAny_letGo ?_)
    refine wpAny_pure ⟨.none, rfl, ?_⟩
    have pl' := pl.update (fun z_ => #[])
    have hp := HR.put (tk := s.toks) hr hi (vs := []) (by simp) (xs := []) (h' := s.heap.update l (Obj.mapSeq (fun z_ => #[]))) (fun b o h1 h2 => (Heap.SameBut.update ..).extBut b o h1 h2) (by simpa using pl') (by simp [VRs])
    exact ⟨.none, _, π, rfl, hp.1, hp.2, rfl⟩
end
section
variable {am : Amb} {n : Nat} {q : Bool} {F : Fn} {c : Ck}
set_option tactic.hygienic true in
theorem ej_method0 {e : PE} {o : PE} {v : Expr} {name : Str} {id : String} {p p' : Pos} {g : V → H → R V} (hb : okBase v = true) (hl : (p.endLine == p'.line) = true) (slot : Slot "list" name id) (hty : typeOf (.builtin id) = pure (.type "method_descriptor"))
    (ho : EJ am n q F c o v) (he : ∀ ρ Hc, evE q F ρ e Hc = (evE q F ρ o Hc).bind fun x h => if lcell h x then g x h else .bad)
    (op : ∀ {res : List Addr} {stack : List Env} {A : Around} {π : List Addr} {s : Shared} {Hc : H} {a : V} {x : Value}, AS n stack A → HR (am.at res) stack π Hc s.heap → VR (am.at res) π s.heap a x → JAt (am.at res) stack A (PySem.call (.builtin id) [x]) (g a Hc) (VR (am.at res)) π s) :
    EJ am n q F c e (.Call (.Attribute v name p) [] [] p') := fun {cx ρ A res π Hc s} B st => by
  rw [he]
  have hst : ∀ z ∈ ([] : List Expr), isStar z = false := by simp
  refine JT.at (T := fun Q E s => wpAny am.M A (eval v cx.env) (fun ov s₁ => (s₁.TypeIs ov "list" ∧ (∀ a, ov = .ref a → ∃ ob, s₁.heap.get? a = some ob ∧ ob.dict = none)) ∧ wpAny am.M A (PySem.call (.builtin id) [ov]) Q E s₁) E s)
    (JT.bind (fun z_ => PT.and (PT.wp _ _)) (ho B st) fun x u H1 π1 s1 z_ hs1 hr1 hv1 => ?_) fun Q E h => ?_
  · split
    · rename_i hc
      refine hold fun z_ k_ => ?_
      obtain ⟨i, l, vs, xs, rfl, rfl, hi, hH, pl, hz, hv⟩ := lcell_at hr1 hv1 hc
      refine k_ ?_
      have J : JT (am.at res) cx.stack (fun Q E s => wpAny am.M A (PySem.call (.builtin id) [.ref l]) Q E s) (g (.ref i) H1) (VR (am.at res)) π1 s1 := JAt.pt (op B.as hr1 hv1)
      exact J.rule fun Q E h => ⟨⟨pl.is.typeIs, fun a e => by cases e; obtain ⟨o, n, ho, _, hd, _⟩ := pl; exact ⟨o, ho, hd⟩⟩, h⟩
    · exact .inl rfl
  · refine wpAny_Call_method (T := "list") (id := id) (base_of hb) (by rw [starEach_plain _ hst]; rfl) hl PySem.F.plainAttrs_list slot hty (wpAny_mono h (fun ov s₁ h₁ => ⟨h₁.1.1, h₁.1.2, ?_⟩) fun z_ z_ x => x)
    rw [starEach_plain _ hst]
    exact Calls.callWith_builtin rfl (evalArgs_nil3 h₁.2)
theorem ej_clear {o : PE} {v : Expr} {p p' : Pos} (hb : okBase v = true) (hl : (p.endLine == p'.line) = true) (ho : EJ am n q F c o v) : EJ am n q F c (.clear o) (.Call (.Attribute v "clear" p) [] [] p') :=
  ej_method0 (id := "list.clear") (g := fun x h => onList h x fun z_ => some (.none, [])) hb hl PySem.F.slot_list_clear PySem.F.type_list_clear ho (fun ρ Hc => by
    show (evE q F ρ o Hc).bind _ = _
    congr 1
    funext x h
    cases e : lcell h x with
    | true => rfl
    | false => exact onList_lcell e) fun z_ hr h1 => op_clear hr h1
end
section
variable {am : Amb} {stack : List Env} {A : Around} {π : List Addr} {s : Shared} {Hc : H}
theorem HR.grow (hr : HR am stack π Hc s.heap) (hl : s.heap.get? l = none) (k : ∀ b o, s.heap.get? b = some o → h'.get? b = some o) (hc : CellAt am (π ++ [l]) h' c l) :
    OkP am stack (VR am) π s (.ok (.ref Hc.length) (Hc ++ [c])) (.ref l) { s with heap := h', toks := tk } := by
  have hp := fresh_pi hr hl
  have hr' := hr.keeps k
  have st : Step (Fs stack) π s (π ++ [l]) { s with heap := h', toks := tk } :=
    ⟨⟨h', tk, rfl⟩, Ext.of_keeps k, [l], rfl, fun a ha => by rw [List.mem_singleton.mp ha]; exact hl⟩
  refine ⟨_, _, π ++ [l], rfl, st, ⟨hr'.base, hr'.frames, by simp [hr.len], ?_, hr'.res, fun a ha => ?_, fun i c' a hi ha => ?_⟩, ?_⟩
  · rw [List.nodup_append]
    exact ⟨hr.nodup, by simp, fun a ha b hb => by rw [List.mem_singleton.mp hb]; exact fun q => hp (q ▸ ha)⟩
  · rcases List.mem_append.mp ha with ha | ha
    · exact hr.off a ha
    · rw [List.mem_singleton.mp ha]; exact ⟨none_of_stays hr.base hl, fresh_fs hr hl⟩
  · by_cases hlt : i < Hc.length
    · rw [List.getElem?_append_left hlt] at hi
      rw [List.getElem?_append_left (by rw [hr.len]; exact hlt)] at ha
      exact (hr.cell i c' a hi ha).via st.via fun o e z_ => ⟨o.slots, k a o e⟩
    · have hi' : i = Hc.length := by
        have := (List.getElem?_eq_some_iff.mp hi).1
        simp only [List.length_append, List.length_singleton] at this
        omega
      subst hi'
      simp only [List.getElem?_concat_length, Option.some.injEq] at hi
      rw [← hr.len] at ha
      simp only [List.getElem?_concat_length, Option.some.injEq] at ha
      subst hi ha
      exact hc
  · simp only [VR]
    exact ⟨l, rfl, by rw [← hr.len]; simp⟩
theorem HR.putD {i : Nat} {d : Addr} {c : Cell} {h' : Heap} {tk : Nat} (hr : HR am stack π Hc s.heap) (hi : π[i]? = some d) (k : ∀ b o, b ≠ d → s.heap.get? b = some o → h'.get? b = some o) (ho : ∃ o, h'.get? d = some o ∧ ∀ us, o.data ≠ .fields us)
    (hc : Step (Fs stack) π s π { s with heap := h', toks := tk } → CellAt am π h' c d) :
    Step (Fs stack) π s π { s with heap := h', toks := tk } ∧ HR am stack π (Hc.set i c) h' := by
  have hl := mem_of_get hi
  have st : Step (Fs stack) π s π { s with heap := h', toks := tk } := by
    refine ⟨⟨h', tk, rfl⟩, ⟨fun a o e h1 z_ => k a o (fun q => h1 (q ▸ hl)) e, fun a o e h1 => ⟨o.slots, k a o (fun q => h1 (q ▸ hl)) e⟩, fun a o e => ?_⟩, [], by simp, by simp⟩
    by_cases ha : a = d
    · subst ha; obtain ⟨o, ho, _⟩ := ho; exact ⟨o, ho⟩
    · exact ⟨o, k a o ha e⟩
  refine ⟨st, ⟨fun a o e => ?_, funFrames_but k ho hr.frames, by simp [hr.len], hr.nodup, fun a ha => ?_, hr.off, fun j c' a h1 h2 => ?_⟩⟩
  · exact k a o (fun q => by subst q; rw [(hr.off a hl).1] at e; cases e) (hr.base a o e)
  · by_cases hq : a = d
    · subst hq; exact ho
    · obtain ⟨o, ho, hd⟩ := hr.res a ha
      exact ⟨o, k a o hq ho, hd⟩
  · by_cases hj : j = i
    · subst hj
      have hlt : j < Hc.length := by rw [← hr.len]; exact (List.getElem?_eq_some_iff.mp hi).1
      rw [List.getElem?_set_self hlt] at h1
      cases h1
      rw [hi] at h2; cases h2
      exact hc st
    · rw [List.getElem?_set_ne (Ne.symm hj)] at h1
      have hne : a ≠ d := fun q => hj (pi_inj hr.nodup (q ▸ h2) hi)
      exact (hr.cell j c' a h1 h2).via st.via fun o e z_ => ⟨o.slots, k a o hne e⟩
set_option tactic.hygienic true in
theorem dcell_at (ha : VR am π s.heap a x) (hc : dcell Hc a = true) : ∃ i d es, a = .ref i ∧ x = .ref d ∧ π[i]? = some d ∧ Hc[i]? = some (.dict es) := by
  cases a with
  | ref i =>
    simp only [dcell] at hc
    simp only [VR] at ha
    obtain ⟨l, rfl, hl⟩ := ha
    split at hc
    · rename_i es hv
      exact ⟨i, l, es, rfl, rfl, hl, hv⟩
    · cases hc
  | _ => simp [dcell] at hc
section
variable {es : List (V × V)} {d : Addr} {o : Obj} {arr : Array DictEntry} {ep : Nat} {xs : List Value}
theorem DC.line (D : DC am π s.heap es d o arr ep xs) : arr.size ≤ sizeLine := by
  rw [D.size]
  have := D.len
  rw [flat_len] at this
  have := mil_le_line
  omega
theorem DC.push (D : DC am π s.heap es d o arr ep xs) (hr : HR am stack π Hc s.heap) (hi : π[i]? = some d) (hb : VR am π s.heap b y) (hz : VR am π s.heap c z) (hk : keyOk b = true) (hn : dfind b es = none) (hle : es.length ≤ 1000) :
    Step (Fs stack) π s π { s with heap := s.heap.update d (Obj.mapDictKeys (·.push ⟨hashV b, y, z⟩)), toks := tk } ∧ HR am stack π (Hc.set i (.dict (es ++ [(b, c)]))) (s.heap.update d (Obj.mapDictKeys (·.push ⟨hashV b, y, z⟩))) := by
  have hd' := Obj.data_mapDictKeys D.data (·.push ⟨hashV b, y, z⟩)
  have hg' := Heap.get?_update_self (Obj.mapDictKeys (·.push ⟨hashV b, y, z⟩)) D.ho (Obj.isFreed_of_dict hd')
  have xl : xs.length = 2 * es.length := by rw [D.vr.len]; exact flat_len es
  refine HR.putD (c := .dict (es ++ [(b, c)])) hr hi (fun b o h1 h2 => (Heap.SameBut.update ..).extBut b o h1 h2) ⟨_, hg', fun us q => by rw [hd'] at q; cases q⟩ fun st => ?_
  obtain ⟨ne, ho, cls, di, da, ar, vr, gd, ln⟩ := D
  refine ⟨_, xs ++ [y, z], hg', ⟨ne_of_beq_false ne, _, _, ?_, ?_, hd', ?_, dgood_push gd hk hn⟩, ?_, ?_⟩
  · obtain ⟨c0, di, dt, sl⟩ := o; simp only at da; subst da; exact cls
  · obtain ⟨c0, di, dt, sl⟩ := o; simp only at da; subst da; assumption
  · rw [Array.toList_push, ar, ents_push es xs b c _ _ xl]
  · show ((es ++ [(b, c)]).flatMap fun e => [e.1, e.2]).length ≤ _
    rw [flat_len, List.length_append, List.length_singleton]; omega
  · show VRs am π _ ((es ++ [(b, c)]).flatMap fun e => [e.1, e.2]) _
    rw [List.flatMap_append]
    refine VRs.append (vr.step st) ?_
    show VRs am π _ [b, c] [y, z]
    simp only [VRs]
    exact ⟨_, _, rfl, hb.step st, _, _, rfl, hz.step st, rfl⟩
theorem DC.put (D : DC am π s.heap es d o arr ep xs) (hr : HR am stack π Hc s.heap) (hi : π[i]? = some d) (hz : VR am π s.heap c z) (hj : es[j]? = some (b, v0)) :
    Step (Fs stack) π s π { s with heap := s.heap.update d (Obj.mapDict (·.modify j fun e => { e with val := z })), toks := tk } ∧ HR am stack π (Hc.set i (.dict (es.set j (b, c)))) (s.heap.update d (Obj.mapDict (·.modify j fun e => { e with val := z }))) := by
  have hd' := Obj.data_mapDict D.data (·.modify j fun e => { e with val := z })
  have hg' := Heap.get?_update_self (Obj.mapDict (·.modify j fun e => { e with val := z })) D.ho (Obj.isFreed_of_dict hd')
  refine HR.putD (c := .dict (es.set j (b, c))) hr hi (fun b o h1 h2 => (Heap.SameBut.update ..).extBut b o h1 h2) ⟨_, hg', fun us q => by rw [hd'] at q; cases q⟩ fun st => ?_
  obtain ⟨ne, ho, cls, di, da, ar, vr, gd, ln⟩ := D
  obtain ⟨xs', r', e'⟩ := ents_put (hz.step st) (vr.step st) hj
  have km : (es.set j (b, c)).map (·.1) = es.map (·.1) := by
    have e : (es.map (·.1))[j]? = some b := by rw [List.getElem?_map, hj]; rfl
    obtain ⟨_, e⟩ := List.getElem?_eq_some_iff.1 e
    rw [List.map_set]
    show (es.map (·.1)).set j b = _
    rw [← e, List.set_getElem_self]
  refine ⟨_, xs', hg', ⟨ne_of_beq_false ne, _, _, ?_, ?_, hd', ?_, ?_, fun e he => ?_⟩, ?_, r'⟩
  · obtain ⟨c0, di, dt, sl⟩ := o; simp only at da; subst da; exact cls
  · obtain ⟨c0, di, dt, sl⟩ := o; simp only at da; subst da; assumption
  · rw [Array.toList_modify, ar, e']
  · rw [km]; exact gd.1
  · have : e.1 ∈ es.map (·.1) := by rw [← km]; exact List.mem_map.2 ⟨e, he, rfl⟩
    obtain ⟨e0, h0, q⟩ := List.mem_map.1 this
    rw [← q]; exact gd.2 e0 h0
  · show ((es.set j (b, c)).flatMap fun e => [e.1, e.2]).length ≤ _
    rw [flat_len, List.length_set, ← flat_len]; exact ln
theorem wp_setD {Q : Unit → Shared → Prop} {E : Value → Shared → Prop} (as : AS n stack A) (hr : HR am stack π Hc s.heap) (ha : VR am π s.heap a x) (hb : VR am π s.heap b y) (hc : VR am π s.heap c w) (he : dcell Hc a = true) (hs : seti Hc a b c = some H')
    (h : ∀ s', Step (Fs stack) π s π s' → HR am stack π H' s'.heap → Q () s') : wpAny am.M A (setItem x y w) Q E s := by
  obtain ⟨i, d, es, rfl, rfl, hi, hH⟩ := dcell_at ha he
  obtain ⟨o, arr, ep, xs, D⟩ := (hr.cell i _ d hH hi).dict
  have hu : A.in1.units < cLine := by have := as.units; show A.units + 1 < 9900; omega
  simp only [seti, hH] at hs
  cases hk : keyOk b with
  | false => rw [hk] at hs; cases hs
  | true =>
    rw [hk, Bool.true_and] at hs
    by_cases hle : es.length ≤ 1000
    · rw [if_pos (decide_eq_true hle)] at hs
      cases hs
      obtain ⟨m, hh⟩ := kf_hash (A := A.in1) hk hb hu
      unfold setItem
      try with_reducible refine wpAny_holding ?_
      refine wpAny_bind (wpAny_sequenceKey D.typeIs (by decide) ?_)
      refine wpAny_bind (wpAny_callSpecial?_slot (name := Str.ofString "__setitem__") D.typeIs slot_dict_setitem
        (wpAny_call_entry slot_dict_setitem D.typeIs entry_dict_setitem ?_ (args_dict_setitem _ _ _)))
      show wpAny _ _ (Builtin.Dict.notOrdered "__setitem__" ⟨[.ref d, y, w], []⟩ >>= _) _ _ s
      refine wpAny_bind (wpAny_notOrdered_dict D.typeIs ?_)
      show wpAny _ _ (dictSet d y w >>= _) _ _ s
      refine wpAny_bind ?_
      unfold dictSet
      try with_reducible refine wpAny_holding ?_
      refine wpAny_bind (hh ?_)
      unfold dictSetHashed
      try with_reducible refine wpAny_holding ?_
      refine wpAny_bind (kf_find (s := { s with toks := s.toks + m }) D hk hb hu (fun e => ?_) fun j v e => ?_)
      · have p := D.push (tk := s.toks + m) hr hi hb hc hk e hle
        rw [← dput_new e] at p
        exact wpAny_bind (wpAny_rule (wpAny_updateDictKeys (hz := D.line) (s := { s with toks := s.toks + m }) D.ho D.data (wpAny_pure ⟨.none, rfl, wpAny_pure (h _ p.1 p.2)⟩)))
      · have p := D.put (tk := s.toks + m) hr hi hc e
        rw [← dput_old D.good.1 e] at p
        exact wpAny_bind (wpAny_rule (wpAny_bind (wpAny_updateDict (s := { s with toks := s.toks + m }) D.ho D.data (wpAny_point (wpAny_pure ⟨.none, rfl, wpAny_pure (h _ p.1 p.2)⟩)))))
    · rw [if_neg fun q => hle (of_decide_eq_true q)] at hs; cases hs
end
end
section
variable {am : Amb} {n : Nat} {q : Bool} {F : Fn} {c : Ck}
theorem ej_newDict : EJ am n q F c (.newDict []) (.Dict [] [] p) := fun {cx ρ A res π Hc s} B st => by
  show JAt _ _ _ _ (R.ok (V.ref Hc.length) (Hc ++ [Cell.dict []])) _ _ _
  refine .inr (wpAny_Dict_empty ?_)
  have k : ∀ b o', s.heap.get? b = some o' → (s.heap.push { cls := .type "dict", data := .dict #[] }).get? b = some o' := fun z_ z_ e => Heap.get?_push_of_some _ e
  have lt : mainGlobals < s.heap.objs.size := (HR.gns B.ok st.hr).lt
  refine HR.grow (tk := s.toks) st.hr (size_none _) k ⟨_, [], Heap.get?_push_size _ rfl, ⟨?_, _, _, rfl, rfl, rfl, rfl, .nil, fun z_ h => nomatch h⟩, by decide, rfl⟩
  exact Nat.ne_of_gt (Nat.lt_of_le_of_lt (by decide) lt)
end
noncomputable def ItR (am : Amb) (stack : List Env) (A : Around) (h₀ : Heap) (π : List Addr) (h : Heap) (b : List V × Watch) (x : Value) : Prop :=
  ∃ I, x = .ref I ∧ h₀.get? I = none ∧ am.B.get? I = none ∧ (∃ Sx, Iter am stack A I b.2 b.1 Sx ∧ Sx 0 π h) ∧
    ∀ R h', (∀ a ∈ R, a ∈ am.res ∨ h.get? a = none) → (∀ b o, h.get? b = some o → h'.get? b = some o) → ∃ Sx, Iter (am.at R) stack A I b.2 b.1 Sx ∧ Sx 0 π h'
section
variable {am : Amb} {stack : List Env} {A : Around} {π : List Addr} {s : Shared} {Hc : H}
theorem base_none (hr : HR am stack π Hc s.heap) {a : Addr} (h : s.heap.get? a = none) : am.B.get? a = none := none_of_stays hr.base h
theorem ne_of_none {h : Heap} {a b : Addr} {o : Obj} (h1 : h.get? a = none) (h2 : h.get? b = some o) : b ≠ a := fun q => by subst q; rw [h1] at h2; cases h2
theorem not_R {am : Amb} {R : List Addr} {h : Heap} {a : Addr} {o : Obj} (hR : ∀ a ∈ R, a ∈ am.res ∨ h.get? a = none) (ho : h.get? a = some o) (ha : a ∉ am.res) : a ∉ R := fun q => by
  rcases hR a q with z | z
  · exact ha z
  · rw [ho] at z; cases z
theorem via_R {am : Amb} {R π : List Addr} {h : Heap} (hR : ∀ a ∈ R, a ∈ am.res ∨ h.get? a = none) : Via am (am.at R) π π h h := ⟨fun a o ho z_ h1 h2 => ⟨⟨o.slots, ho⟩, h1, not_R hR ho h2⟩, fun z_ z_ e => e⟩
theorem op_iter {a : V} {x : Value} (hh : A.handled = none) (hr : HR am stack π Hc s.heap) (ha : VR am π s.heap a x) :
    JAt am stack A (pyIter x) (R.opt (iterOf Hc a) Hc) (ItR am stack A s.heap) π s := by
  have hI := size_none s.heap
  cases a with
  | lst vs =>
    simp only [VR] at ha
    refine hold fun z_ k_ => ?_
    obtain ⟨l, xs, rfl, hl, h1, hz, hv⟩ := ha
    refine k_ ?_
    refine .inr (wpAny_pyIter_list h1 ?_)
    have k : ∀ b o, s.heap.get? b = some o → (s.heap.push { cls := .type "list_iterator", data := .fields #[.ref l, .int 0 0] }).get? b = some o := fun b o q => Heap.get?_push_of_some _ q
    have hp : (s.heap.push { cls := .type "list_iterator", data := .fields #[.ref l, .int 0 0] }).get? s.heap.objs.size = some _ := Heap.get?_push_size _ rfl
    obtain ⟨o, ho, r⟩ := id h1
    refine OkP.keeps (tk := s.toks) hr k ⟨_, rfl, hI, base_none hr hI, ⟨_, Iter.lst hh (l := l), ⟨fresh_pi hr hI, fresh_fs hr hI, ⟨_, hp, rfl, rfl⟩, ⟨hl.1, fresh_res hr hI, hl.2⟩, xs, h1.push _, hv.keeps k⟩⟩, fun R h' hR kk =>
      ⟨_, Iter.lst hh (l := l), ⟨fresh_pi hr hI, fresh_fs hr hI, ⟨_, kk _ _ hp, rfl, rfl⟩, ⟨hl.1, not_R hR hp (fresh_res hr hI), not_R hR (k _ _ ho) hl.2⟩, xs, ⟨o, kk _ _ (k _ _ ho), r⟩, ((hv.keeps k).via (via_R hR)).keeps kk⟩⟩⟩
  | tup vs =>
    simp only [VR] at ha
    refine hold fun z_ k_ => ?_
    obtain ⟨l, xs, rfl, hl, h1, hz, hv⟩ := ha
    refine k_ ?_
    refine .inr (wpAny_pyIter_tuple h1 ?_)
    have k : ∀ b o, s.heap.get? b = some o → (s.heap.push { cls := .type "tuple_iterator", data := .fields #[.ref l, .int 0 0] }).get? b = some o := fun b o q => Heap.get?_push_of_some _ q
    have hp : (s.heap.push { cls := .type "tuple_iterator", data := .fields #[.ref l, .int 0 0] }).get? s.heap.objs.size = some _ := Heap.get?_push_size _ rfl
    obtain ⟨o, ho, r⟩ := h1
    refine OkP.keeps (tk := s.toks) hr k ⟨_, rfl, hI, base_none hr hI, ⟨_, Iter.tup hh (l := l), ⟨fresh_pi hr hI, fresh_fs hr hI, ⟨_, hp, rfl, rfl⟩, ⟨hl.1, fresh_res hr hI, hl.2⟩, xs, ⟨o, k _ _ ho, r⟩, hv.keeps k⟩⟩, fun R h' hR kk =>
      ⟨_, Iter.tup hh (l := l), ⟨fresh_pi hr hI, fresh_fs hr hI, ⟨_, kk _ _ hp, rfl, rfl⟩, ⟨hl.1, not_R hR hp (fresh_res hr hI), not_R hR (k _ _ ho) hl.2⟩, xs, ⟨o, kk _ _ (k _ _ ho), r⟩, ((hv.keeps k).via (via_R hR)).keeps kk⟩⟩⟩
  | ref i =>
    simp only [VR] at ha
    obtain ⟨l, rfl, hi⟩ := ha
    simp only [iterOf]
    cases hH : Hc[i]? with
    | none => exact .inl rfl
    | some cc =>
      have hc := hr.cell i cc l hH hi
      cases cc with
      | dict es => exact .inl rfl
      | list vs =>
        refine hold fun z_ k_ => ?_
        obtain ⟨xs, h1, hz, hv⟩ := hc.list
        refine k_ ?_
        refine .inr (wpAny_pyIter_list h1.is ?_)
        have k : ∀ b o, s.heap.get? b = some o → (s.heap.push { cls := .type "list_iterator", data := .fields #[.ref l, .int 0 0] }).get? b = some o := fun b o q => Heap.get?_push_of_some _ q
        have hp : (s.heap.push { cls := .type "list_iterator", data := .fields #[.ref l, .int 0 0] }).get? s.heap.objs.size = some _ := Heap.get?_push_size _ rfl
        refine OkP.keeps (tk := s.toks) hr k ⟨_, rfl, hI, base_none hr hI, ⟨_, Iter.cell hh, ⟨fresh_pi hr hI, ⟨fresh_fs hr hI, fresh_res hr hI⟩, l, hi, ⟨_, hp, rfl, rfl⟩⟩⟩, fun R h' hR kk =>
          ⟨_, Iter.cell hh, ⟨fresh_pi hr hI, ⟨fresh_fs hr hI, not_R hR hp (fresh_res hr hI)⟩, l, hi, ⟨_, kk _ _ hp, rfl, rfl⟩⟩⟩⟩
  | _ => exact .inl rfl
theorem upto_eq (n : Int) : upto n = (List.range n.toNat).map fun (i : Nat) => V.int (0 + (i : Int) * 1) := by
  unfold upto; congr 1; funext i; congr 1; omega
theorem range_at {a c : Int} {k : Nat} (hh : A.handled = none) (hr : HR am stack π Hc s.heap) {o : Obj} (ho : o = { cls := .type "range_iterator", data := .fields #[rawInt a, rawInt (k : Int), rawInt c] }) {tk : Nat} :
    OkP am stack (ItR am stack A s.heap) π s (.ok ((List.range k).map (fun (i : Nat) => V.int (a + (i : Int) * c)), none) Hc) (.ref s.heap.objs.size) { s with heap := s.heap.push o, toks := tk } := by
  have hI := size_none s.heap
  subst ho
  have e1 : (a + ((0 : Nat) : Int) * c) = a := by simp
  have e2 : ((k : Int) - ((0 : Nat) : Int)) = (k : Int) := by simp
  have hp : (s.heap.push { cls := .type "range_iterator", data := .fields #[rawInt a, rawInt (k : Int), rawInt c] }).get? s.heap.objs.size = some { cls := .type "range_iterator", data := .fields #[rawInt (a + ((0 : Nat) : Int) * c), rawInt ((k : Int) - ((0 : Nat) : Int)), rawInt c] } := by
    rw [e1, e2]; exact Heap.get?_push_size _ rfl
  exact OkP.keeps hr (fun b o q => Heap.get?_push_of_some _ q) ⟨_, rfl, hI, base_none hr hI, ⟨_, Iter.range hh a c k, ⟨fresh_pi hr hI, ⟨fresh_fs hr hI, fresh_res hr hI⟩, hp⟩⟩, fun R h' hR kk =>
    ⟨_, Iter.range hh a c k, ⟨fresh_pi hr hI, ⟨fresh_fs hr hI, not_R hR hp (fresh_res hr hI)⟩, kk _ _ hp⟩⟩⟩
theorem ItR.less (k : ∀ b o, h₀.get? b = some o → ∃ o', h₁.get? b = some o') (e : ItR am stack A h₁ π h b x) : ItR am stack A h₀ π h b x := by
  refine hold fun z_ k_ => ?_
  obtain ⟨I, h1, h2, r⟩ := e
  refine k_ ?_
  refine ⟨I, h1, ?_, r⟩
  cases hq : h₀.get? I with
  | none => rfl
  | some o => obtain ⟨o', h6⟩ := k I o hq; rw [h2] at h6; cases h6
theorem OkP.itLess (k : ∀ b o, h₀.get? b = some o → ∃ o', h₁.get? b = some o') (e : OkP am stack (ItR am stack A h₁) π s r x s') : OkP am stack (ItR am stack A h₀) π s r x s' := by
  refine hold fun z_ k_ => ?_
  obtain ⟨b, H', π', h1, h2, h3, h4⟩ := e
  refine k_ ?_
  exact ⟨b, H', π', h1, h2, h3, h4.less k⟩
theorem wp_range1 {k : Int} {t : Tok} (hh : A.handled = none) (hr : HR am stack π Hc s.heap) (hk : -1000000 ≤ k ∧ k ≤ 1000000) {E : Value → Shared → Prop} :
    wpAny am.M A (PySem.call (.type "range") [.int k t]) (fun x s₁ => wpAny am.M A (pyIter x) (OkP am stack (ItR am stack A s.heap) π s (.ok (upto k, none) Hc)) E s₁) E s := by
  refine call_range_1 ?_
  refine wpAny_pyIter_range (IsRange.new ..) (small_one (by decide) (by decide) (by omega) (by omega)) ?_
  have hsz : Builtin.Range.rangeSize 0 k 1 = (k.toNat : Int) := by rw [rangeSize_one]; split <;> omega
  rw [upto_eq]
  have k1 : ∀ b o, s.heap.get? b = some o → (s.heap.push { cls := .type "range", data := .fields #[.int 0 s.toks, .int k t, .int 1 (s.toks + 1)] }).get? b = some o := fun b o q => Heap.get?_push_of_some _ q
  refine OkP.step (Step.keeps (tk := s.toks + 1 + 1) k1) (OkP.itLess (fun b o q => ⟨o, k1 b o q⟩) (range_at (s := { s with heap := s.heap.push { cls := .type "range", data := .fields #[.int 0 s.toks, .int k t, .int 1 (s.toks + 1)] }, toks := s.toks + 1 + 1 }) (tk := s.toks + 1 + 1) hh (hr.keeps k1) ?_))
  rw [hsz]
end
section
variable {am : Amb} {n : Nat} {F : Fn} {c : Ck}
noncomputable def ItJ (am : Amb) (n : Nat) (F : Fn) (c : Ck) (it : PIt) (x : Expr) : Prop := ∀ {cx : Cx} {ρ : List V} {A : Around} {res π : List Addr} {Hc : H} {s : Shared}, Base am n true F c cx ρ A → St (am.at res) true cx ρ π Hc A s →
  JT (am.at res) cx.stack (fun Q E s => wpAny am.M A (eval x cx.env) (fun xv s₁ => wpAny am.M A (pyIter xv) Q E s₁) E s) (evIt true F ρ it Hc) (ItR (am.at res) cx.stack A s.heap) π s
theorem it_seq {e : PE} {x : Expr} (h : EJ am n true F c e x) : ItJ am n F c (.seq e) x := fun {cx ρ A res π Hc s} B st => by
  simp only [qI_1, qI_2, qI_3, qI_4, qI_5]
  exact JT.bind (fun z_ => PT.wp _ _) (h B st) fun y v H1 π1 s1 z_ hs1 hr1 hv1 => JAt.pt ((op_iter (Hd.quiet st.hd) hr1 hv1).mono fun z_ z_ z_ z_ e => e.less hs1.ext.alive)
set_option tactic.hygienic true in
theorem it_range1 {e : PE} {y : Expr} {p p' : Pos} (hx : c.glob "range" = true) (hy : isStar y = false) (h : EJ am n true F c e y) : ItJ am n F c (.range1 e) (.Call (.Name "range" p) [y] [] p') := fun {cx ρ A res π Hc s} B st => by
  simp only [qI_1, qI_2, qI_3, qI_4, qI_5]
  refine JT.rule (T := fun Q E s => wpAny am.M A (eval y cx.env) (fun v s₁ => wpAny am.M A (PySem.call (.type "range") [v]) (fun xv s₂ => wpAny am.M A (pyIter xv) Q E s₂) E s₁) E s)
    (JT.bind (fun z_ => PT.seq _ _ fun z_ => PT.wp _ _) (h B st) fun z v H1 π1 s1 z_ hs1 hr1 hv1 => ?_) fun Q E h => wp_call_bt B st.hr hx (bt_mem (by kernel_rfl)) (by simpa using hy) (spl1 h)
  cases v with
  | int k =>
    simp only [VR] at hv1
    obtain ⟨t, rfl⟩ := hv1
    dsimp only
    split
    · rename_i hk; exact .inr (wpAny_mono (wp_range1 (Hd.quiet st.hd) hr1 hk) (fun z_ z_ h => wpAny_mono h (fun z_ z_ h => h.itLess hs1.ext.alive) fun z_ z_ h => h) fun z_ z_ h => h)
    · exact .inl rfl
  | _ => exact .inl rfl
end
section
variable {am : Amb} {stack : List Env} {A : Around} {π : List Addr} {Hc : H} {s : Shared}
theorem wp_range3 {j k c : Int} {t u v : Tok} {m : Nat} (hh : A.handled = none) (hr : HR am stack π Hc s.heap) (hk : -1000000 ≤ j ∧ j ≤ 1000000 ∧ -1000000 ≤ k ∧ k ≤ 1000000) (hc : c ≠ 0) (hb : -1 ≤ c ∧ c ≤ 1000000) (hm : m ≤ 2000000) (hsz : Builtin.Range.rangeSize j k c = (m : Int)) {E : Value → Shared → Prop} :
    wpAny am.M A (PySem.call (.type "range") [.int j t, .int k u, .int c v]) (fun x s₁ => wpAny am.M A (pyIter x) (OkP am stack (ItR am stack A s.heap) π s (.ok ((List.range m).map (fun (i : Nat) => V.int (j + (i : Int) * c)), none) Hc)) E s₁) E s := by
  refine call_range_3 hc ?_ (.inl (PyProof.noPylong_small (by omega)))
  refine wpAny_pyIter_range (IsRange.new ..) ?_ ?_
  · unfold Builtin.Range.small
    rw [hsz]
    simp only [Builtin.Range.rangeFitsLong, Bool.and_eq_true, Bool.or_eq_true, decide_eq_true_eq, beq_iff_eq]
    split <;> simp only [Bool.and_eq_true, decide_eq_true_eq] <;> omega
  have k1 : ∀ b o, s.heap.get? b = some o → (s.heap.push { cls := .type "range", data := .fields #[.int j t, .int k u, .int c v] }).get? b = some o := fun b o q => Heap.get?_push_of_some _ q
  refine OkP.step (Step.keeps (tk := s.toks) k1) (OkP.itLess (fun b o q => ⟨o, k1 b o q⟩) (range_at (s := { s with heap := s.heap.push { cls := .type "range", data := .fields #[.int j t, .int k u, .int c v] } }) (tk := s.toks) hh (hr.keeps k1) ?_))
  rw [hsz]
theorem size_by (j k : Int) (hc : 0 < c) : Builtin.Range.rangeSize j k c = (((k - j + c - 1).fdiv c).toNat : Int) := by
  unfold Builtin.Range.rangeSize
  rw [if_pos hc, Int.fdiv_eq_ediv_of_nonneg _ (Int.le_of_lt hc)]
  by_cases h : j < k
  · rw [if_pos h, show k - j + c - 1 = (k - j - 1) + 1 * c by omega, Int.add_mul_ediv_right _ _ (Int.ne_of_gt hc)]
    have := Int.ediv_nonneg (a := k - j - 1) (b := c) (by omega) (Int.le_of_lt hc)
    omega
  · rw [if_neg h]
    have : (k - j + c - 1) / c < 1 := Int.ediv_lt_of_lt_mul hc (by omega)
    omega
theorem by_len (hk : -1000000 ≤ j ∧ j ≤ 1000000 ∧ -1000000 ≤ k ∧ k ≤ 1000000) (hd : 0 < d) : ((k - j + d - 1).fdiv d).toNat ≤ 2000000 := by
  rw [Int.fdiv_eq_ediv_of_nonneg _ (Int.le_of_lt hd)]
  refine Int.toNat_le.2 (Int.le_of_lt_add_one (Int.ediv_lt_of_lt_mul hd ?_))
  omega
end
section
variable {am : Amb} {n : Nat} {F : Fn} {c : Ck}
theorem spl3 {Q : List Value → Shared → Prop} {E : Value → Shared → Prop} (h : wpAny M A (eval y env) (fun v s₁ => wpAny M A (eval z env) (fun u s₂ => wpAny M A (eval w env) (fun x s₃ => Q [v, u, x] s₃) E s₂) E s₁) E s) : wpAny M A (spliced (plainArgs [y, z, w] env)) Q E s :=
  Calls.spliced_cons (wpAny_mono h (fun z_ z_ h => Calls.spliced_cons (wpAny_mono h (fun z_ z_ h => Calls.spliced_cons (wpAny_mono h (fun z_ z_ h => Calls.spliced_nil h) fun z_ z_ x => x)) fun z_ z_ x => x)) fun z_ z_ x => x)
set_option tactic.hygienic true in
theorem it_range3 {e f g : PE} {y z w : Expr} {p p' : Pos} (hx : c.glob "range" = true) (hs : ∀ a ∈ [y, z, w], isStar a = false) (h : EJ am n true F c e y) (h' : EJ am n true F c f z) (h'' : EJ am n true F c g w) : ItJ am n F c (.range3 e f g) (.Call (.Name "range" p) [y, z, w] [] p') := fun {cx ρ A res π Hc s} B st => by
  simp only [qI_1, qI_2, qI_3, qI_4, qI_5]
  refine JT.rule (T := fun Q E s => wpAny am.M A (eval y cx.env) (fun v s₁ => wpAny am.M A (eval z cx.env) (fun w' s₁ => wpAny am.M A (eval w cx.env) (fun u s₁ => wpAny am.M A (PySem.call (.type "range") [v, w', u]) (fun xv s₂ => wpAny am.M A (pyIter xv) Q E s₂) E s₁) E s₁) E s₁) E s)
    (JT.bind (fun z_ => PT.seq _ _ fun z_ => PT.seq _ _ fun z_ => PT.seq _ _ fun z_ => PT.wp _ _) (h B st) fun u v H1 π1 s1 z_ hs1 hr1 hv1 => JT.bind (fun z_ => PT.seq _ _ fun z_ => PT.seq _ _ fun z_ => PT.wp _ _) (h' B (st.step hs1 hr1)) fun u2 v2 H2 π2 s2 z_ hs2 hr2 hv2 =>
      JT.bind (fun z_ => PT.seq _ _ fun z_ => PT.wp _ _) (h'' B ((st.step hs1 hr1).step hs2 hr2)) fun u3 v3 H3 π3 s3 z_ hs3 hr3 hv3 => ?_)
    fun Q E h => wp_call_bt B st.hr hx (bt_mem (by kernel_rfl)) hs (spl3 h)
  have hv1' := (hv1.step hs2).step hs3
  have hv2' := hv2.step hs3
  cases v with
  | int j => cases v2 with
    | int k => cases v3 with
      | int d =>
        simp only [VR] at hv1' hv2' hv3
        obtain ⟨t, rfl⟩ := hv1'
        obtain ⟨t2, rfl⟩ := hv2'
        obtain ⟨t3, rfl⟩ := hv3
        dsimp only
        split
        · rename_i hk
          unfold rng3
          by_cases hp : 0 < d ∧ d ≤ 1000000
          · rw [if_pos hp, fromBy]
            exact .inr (wpAny_mono (wp_range3 (Hd.quiet st.hd) hr3 hk (Int.ne_of_gt hp.1) ⟨Int.le_trans (by decide) (Int.le_of_lt hp.1), hp.2⟩ (by_len hk hp.1) (size_by j k hp.1)) (fun z_ z_ h => wpAny_mono h (fun z_ z_ h => h.itLess ((hs1.trans hs2).trans hs3).ext.alive) fun z_ z_ h => h) fun z_ z_ h => h)
          · rw [if_neg hp]; exact .inl rfl
        · exact .inl rfl
      | _ => exact .inl rfl
    | _ => exact .inl rfl
  | _ => exact .inl rfl
end
theorem relab_lookup (outer : List (Str × NameKind)) : ∀ (names : List (Str × NameKind)) (y : Str), (relab outer names).lookup y = (names.lookup y).map fun k => if (k == .free && outer.lookup y == some .cell) = true then .cell else k
  | [], y => rfl
  | (n, k) :: r, y => by
    have ih := relab_lookup outer r y
    unfold relab at ih ⊢
    rw [List.map_cons]
    show List.lookup y ((if (k == NameKind.free && outer.lookup n == some .cell) = true then (n, NameKind.cell) else (n, k)) :: _) = _
    by_cases hy : y = n
    · subst hy
      by_cases hc : (k == .free && outer.lookup y == some .cell) = true
      · rw [if_pos hc]; simp only [List.lookup_cons, beq_self_eq_true, Option.map_some]; rw [if_pos hc]
      · rw [if_neg hc]; simp only [List.lookup_cons, beq_self_eq_true, Option.map_some]; rw [if_neg hc]
    · have hb : (y == n) = false := beq_eq_false_iff_ne.mpr hy
      by_cases hc : (k == .free && outer.lookup n == some .cell) = true
      · rw [if_pos hc]; simp only [List.lookup_cons, hb]; exact ih
      · rw [if_neg hc]; simp only [List.lookup_cons, hb]; exact ih
theorem lookup_mem {α β : Type} [BEq α] [LawfulBEq α] : ∀ {l : List (α × β)} {x : α} {v : β}, l.lookup x = some v → (x, v) ∈ l
  | [], _, _, h => by simp at h
  | (a, b) :: l, x, v, h => by
    rw [List.lookup_cons] at h
    cases hx : x == a with
    | true => rw [hx] at h; cases h; rw [eq_of_beq hx]; exact List.mem_cons_self
    | false => rw [hx] at h; exact List.mem_cons_of_mem _ (lookup_mem h)
theorem relabel_names (hk : env.scope.kind = .function) : (relabel scope env).names = relab env.scope.names scope.names := by
  unfold relabel relab
  simp only
  congr 1
  funext p
  obtain ⟨n, k⟩ := p
  simp only [hk, Env.kindOf, beq_self_eq_true, Bool.and_true]
theorem closure_of : ∀ (names : List (Str × NameKind)) (acc : List (Str × Addr)), (∀ p ∈ names, p.2 = .free → ∃ c, env.cells.lookup p.1 = some c) → (∀ y c, acc.lookup y = some c → env.cells.lookup y = some c) →
    ∃ cl, (forIn names acc fun (p : Str × NameKind) (cs : List (Str × Addr)) => (if p.2 == .free then do let c ← cellOf env p.1; pure (ForInStep.yield ((p.1, c) :: cs)) else pure (ForInStep.yield cs) : Sem (ForInStep (List (Str × Addr))))) = (pure cl : Sem (List (Str × Addr))) ∧
      (∀ y c, cl.lookup y = some c → env.cells.lookup y = some c) ∧ (∀ p ∈ names, p.2 = .free → ∃ c, cl.lookup p.1 = some c) ∧ (∀ y c, acc.lookup y = some c → ∃ c', cl.lookup y = some c')
  | [], acc, _, h2 => ⟨acc, rfl, h2, by simp, fun y c h => ⟨c, h⟩⟩
  | p :: names, acc, h1, h2 => by
    rw [List.forIn_cons]
    by_cases hp : p.2 = .free
    · obtain ⟨c, hc⟩ := h1 p List.mem_cons_self hp
      have hcell : cellOf env p.1 = pure c := by unfold cellOf; rw [hc]
      have hb : (p.2 == NameKind.free) = true := by simp [hp]
      simp only [hb, if_true, hcell, pure_bind]
      obtain ⟨cl, e1, e2, e3, e4⟩ := closure_of names ((p.1, c) :: acc) (fun q hq => h1 q (List.mem_cons_of_mem _ hq)) (fun y c' h => by
        rw [List.lookup_cons] at h
        cases hx : y == p.1 with
        | true => rw [hx] at h; cases h; rw [eq_of_beq hx]; exact hc
        | false => rw [hx] at h; exact h2 y c' h)
      refine ⟨cl, e1, e2, fun q hq hqf => ?_, fun y c' h => ?_⟩
      · rcases List.mem_cons.mp hq with rfl | hq
        · exact e4 q.1 c (by simp [List.lookup_cons])
        · exact e3 q hq hqf
      · cases hx : y == p.1 with
        | true => exact e4 y c (by rw [List.lookup_cons, hx])
        | false => exact e4 y c' (by rw [List.lookup_cons, hx]; exact h)
    · have hb : (p.2 == NameKind.free) = false := by simpa using hp
      simp only [hb, Bool.false_eq_true, if_false, pure_bind]
      refine hold fun z_ k_ => ?_
      obtain ⟨cl, e1, e2, e3, e4⟩ := closure_of names acc (fun q hq => h1 q (List.mem_cons_of_mem _ hq)) h2
      refine k_ ?_
      refine ⟨cl, e1, e2, fun q hq hqf => ?_, e4⟩
      rcases List.mem_cons.mp hq with rfl | hq
      · exact absurd hqf hp
      · exact e3 q hq hqf
theorem closure_for (h : ∀ p ∈ scope.names, p.2 = .free → ∃ c, env.cells.lookup p.1 = some c) :
    ∃ cl, closureFor scope env = pure cl ∧ (∀ y c, cl.lookup y = some c → env.cells.lookup y = some c) ∧ ∀ p ∈ scope.names, p.2 = .free → ∃ c, cl.lookup p.1 = some c := by
  refine hold fun z_ k_ => ?_
  obtain ⟨cl, e1, e2, e3, _⟩ := closure_of scope.names [] h (by simp)
  refine k_ ?_
  refine ⟨cl, ?_, e2, e3⟩
  exact (congrArg (fun t : Sem (List (Str × Addr)) => t >>= fun cs => pure cs) e1).trans (pure_bind _ _)
section
variable {am : Amb} {π : List Addr} {h : Heap}
theorem ExcAt.held (e : ExcAt am h c a) : ExcAt (am.hold l) h c a := e
theorem SR.held (hl : h.get? l = none) (e : SR am π h v x) : SR (am.hold l) π h v x := by
  rcases e with e | ⟨c, a, h1, h2, h3, h4⟩
  · exact .inl (e.held hl)
  · exact .inr ⟨c, a, h1, h2, h3, h4⟩
theorem ER.held (hl : h.get? l = none) (e : ER am cx ρ π h) : ER (am.hold l) cx ρ π h :=
  ⟨e.ns, e.locOff, e.cellOff, e.apart, fun x i v h1 h2 h3 h4 => let ⟨v', h5, h6⟩ := e.var x i v h1 h2 h3 h4; ⟨v', h5, h6.held hl⟩⟩
theorem HR.freed {stack : List Env} {Hc : H} {h' : Heap} {C : Addr} (hr : HR am stack π Hc h) (hC : C ∈ am.res) (hB : am.B.get? C = none) (hπ : C ∉ π) (p : Poke C h h') (ho : ∃ o, h'.get? C = some o ∧ ∀ us, o.data ≠ .fields us) : HR am stack π Hc h' := by
  refine ⟨fun b o e => p b o (fun q => by subst q; rw [hB] at e; cases e) (hr.base b o e), funFrames_but (fun b o h1 h2 => p b o h1 h2) ho hr.frames, hr.len, hr.nodup, fun a ha => ?_, hr.off, fun i c a h1 h2 => ?_⟩
  · by_cases hq : a = C
    · subst hq; exact ho
    · obtain ⟨o, h1, h2⟩ := hr.res a ha
      exact ⟨o, p a o hq h1, h2⟩
  · have hne : a ≠ C := fun q => hπ (q ▸ mem_of_get h2)
    obtain ⟨o, xs, e0, e1, e2, e3⟩ := hr.cell i c a h1 h2
    exact ⟨o, xs, p _ _ hne e0, e1, e2, e3.free fun b o hb e => p b o (fun q => hb (q ▸ hC)) e⟩
theorem HR.out {stack : List Env} {Hc : H} {h' : Heap} {C : Addr} (hr : HR (am.hold C) stack π Hc h) (hC : C ∉ am.res) (hB : am.B.get? C = none) (hπ : C ∉ π) (hF : C ∉ Fs stack) (p : Poke C h h') : HR am stack π Hc h' := by
  have fr : ∀ {st : List Env}, h.FunFrames am.B st → (∀ a ∈ Fs st, a ≠ C) → h'.FunFrames am.B st := by
    intro st
    induction st with
    | nil => intro _ _; trivial
    | cons e st ih =>
      rintro ⟨h1, ⟨L, o, h2, h3, h4, h5⟩, h6⟩ hn
      refine ⟨h1, ⟨L, o, h2, h3, p L o (hn L ?_) h4, h5⟩, ih h6 fun a ha => hn a ?_⟩
      · simp [h2]
      · simp only [Fs, List.filterMap_cons, h2, List.mem_cons]; exact .inr ha
  refine ⟨fun b o e => p b o (fun q => by subst q; have e' : am.B.get? b = some o := e; rw [hB] at e'; cases e') (hr.base b o e), fr hr.frames (fun a ha q => hF (q ▸ ha)), hr.len, hr.nodup, fun a ha => ?_, hr.off, fun i c a h1 h2 => ?_⟩
  · obtain ⟨o, h1, h2⟩ := hr.res a (List.mem_cons_of_mem _ ha)
    exact ⟨o, p a o (fun q => hC (q ▸ ha)) h1, h2⟩
  · have hne : a ≠ C := fun q => hπ (q ▸ mem_of_get h2)
    obtain ⟨o, xs, e0, e1, e2, e3⟩ := hr.cell i c a h1 h2
    exact ⟨o, xs, p _ _ hne e0, e1, e2, (e3.free fun b o hb e => p b o (fun q => hb (q ▸ List.mem_cons_self)) e).reserve.2⟩
theorem PL.at (pl : PL h l xs) (k : ∀ o, h.get? l = some o → h'.get? l = some o) : PL h' l xs := let ⟨o, n, ho, r⟩ := pl; ⟨o, n, k o ho, r⟩
theorem Ns.at {l : Addr} {m : Str → Option Value} {h' : Heap} (hn : h.Ns l m) (k : ∀ o, h.get? l = some o → h'.get? l = some o) : h'.Ns l m := let ⟨o, es, ep, ho, r⟩ := hn; ⟨o, es, ep, k o ho, r⟩
theorem Ns.nf {m : Str → Option Value} (hn : h.Ns l m) : ∃ o, h.get? l = some o ∧ ∀ us, o.data ≠ .fields us := let ⟨o, es, ep, ho, hd, _⟩ := hn; ⟨o, ho, fun us q => by rw [hd] at q; cases q⟩
theorem PL.nf (pl : PL h l xs) : ∃ o, h.get? l = some o ∧ ∀ us, o.data ≠ .fields us := let ⟨o, n, ho, _, _, hd⟩ := pl; ⟨o, ho, fun us q => by rw [hd] at q; cases q⟩
theorem er_comp {m : Str → Option Value} (e : ER am cx ρ π h) (hkf : cx.env.scope.kind = .function) (hnames : cx.env.scope.names = c.names) (hctx : cx.ctx = c.ctx) (hs : scopeOk c x scope = true)
    (hi : c.ctx.all (fun p => p.2 != i) = true) (hcl1 : ∀ y d, cl.lookup y = some d → cx.env.cells.lookup y = some d) (hcl2 : ∀ p ∈ scope.names, p.2 = .free → ∃ d, cl.lookup p.1 = some d) (hC : C ∉ π) (hn : h.Ns C m) (hm : m x = some v') (hv : VR am π h v v') :
    ER am ⟨compEnvC scope cl C cx.env, cx.stack, (x, i) :: cx.ctx⟩ (ρ.set i v) π h := by
  unfold scopeOk at hs
  simp only [Bool.and_eq_true, List.all_eq_true, beq_iff_eq, Bool.not_eq_true', Bool.or_eq_true, bne_iff_ne, ne_eq] at hs
  refine hold fun z_ k_ => ?_
  obtain ⟨⟨⟨⟨hk, hall⟩, hx⟩, hx0⟩, h0⟩ := hs
  refine k_ ?_
  refine ⟨⟨m, hn⟩, hC, fun y d hd => ?_, fun y z d h1 h2 => e.apart y z d (hcl1 _ _ h1) (hcl1 _ _ h2), fun y j w h1 h2 h3 h4 => ?_⟩
  · refine hold fun z_ k_ => ?_
    obtain ⟨a1, _, u, a3⟩ := e.cellOff y d (hcl1 y d hd)
    refine k_ ?_
    refine ⟨a1, fun q => ?_, u, a3⟩
    have hq : d = C := q
    subst hq
    refine hold fun z_ k_ => ?_
    obtain ⟨o, es, ep, ho, hd', _⟩ := hn
    refine k_ ?_
    obtain ⟨o2, ho2, hd2⟩ := a3
    rw [ho] at ho2; cases ho2; rw [hd'] at hd2; cases hd2
  · have hkind : ∀ y, Env.kindOf (compEnvC scope cl C cx.env) y = (scope.names.lookup y).map fun k => if (k == .free && c.names.lookup y == some .cell) = true then .cell else k := by
      intro y
      show (relabel scope cx.env).names.lookup y = _
      rw [relabel_names hkf, relab_lookup, hnames]
    by_cases hy : y = x
    · subst hy
      rw [List.lookup_cons] at h1
      simp only [beq_self_eq_true, Option.some.injEq] at h1
      subst h1
      have hlt : i < ρ.length := by have := (List.getElem?_eq_some_iff.mp h2).1; simpa using this
      rw [List.getElem?_set_self hlt] at h2
      cases h2
      exact ⟨v', .inl ⟨by rw [hkind, hx]; rfl, m, hn, hm⟩, .inl hv⟩
    · have hb : (y == x) = false := beq_eq_false_iff_ne.mpr hy
      have h1' : c.ctx.lookup y = some j := by rw [List.lookup_cons, hb] at h1; rw [← hctx]; exact h1
      have hj : j ≠ i := by
        have := lookup_mem h1'
        simp only [List.all_eq_true, bne_iff_ne, ne_eq] at hi
        exact hi _ this
      rw [List.getElem?_set_ne (Ne.symm hj)] at h2
      unfold Vis at h4
      simp only [hkind] at h4
      cases hl : scope.names.lookup y with
      | none => rw [hl] at h4; simp at h4
      | some k =>
        have hmem := lookup_mem hl
        have hp := hall _ hmem
        by_cases hkl : k = .local
        · subst hkl
          rcases hp.1.1 with q | q
          · exact absurd rfl q
          · rcases q.1 with q | q
            · exact absurd q hy
            · simp only at q; rw [q, h0] at h1'; cases h1'
        · by_cases hkf' : k = .free
          · subst hkf'
            obtain ⟨d, hd⟩ := hcl2 _ hmem rfl
            have hcell := hcl1 y d hd
            have hout : cx.env.kindOf y = some .cell ∨ cx.env.kindOf y = some .free := by
              unfold Env.kindOf; rw [hnames]
              rcases hp.1.2 with (q | q) | q
              · exact absurd rfl q
              · exact .inl q
              · exact .inr q
            obtain ⟨u, h5, h6⟩ := e.var y j w (by rw [hctx]; exact h1') h2 h3 (by unfold Vis; rcases hout with q | q; exact .inr (.inl q); exact .inr (.inr q))
            refine ⟨u, .inr ⟨?_, d, hd, ?_⟩, h6⟩
            · rw [hkind, hl]; simp only [Option.map_some]; split <;> simp
            · rcases h5 with ⟨q, _⟩ | ⟨_, d', h7, h8⟩
              · rcases hout with q' | q' <;> rw [q'] at q <;> cases q
              · rw [hcell] at h7; cases h7; exact h8
          · rw [hl] at h4
            have hkc : k ≠ .cell := hp.2
            have hb2 : (k == NameKind.free) = false := by simpa using hkf'
            simp only [Option.map_some, hb2, Bool.false_and, Bool.false_eq_true, if_false, Option.some.injEq] at h4
            rcases h4 with q | q | q
            · exact absurd q hkl
            · exact absurd q hkc
            · exact absurd q hkf'
end
structure LoopEnd (am : Amb) (stack : List Env) (π : List Addr) (s : Shared) (rs : List V) (Hf : H) (D C : Addr) (s' : Shared) : Prop where
  freshD : s.heap.get? D = none
  freshC : s.heap.get? C = none
  ne : D ≠ C
  resD : D ∉ am.res
  resC : C ∉ am.res
  baseD : am.B.get? D = none
  baseC : am.B.get? C = none
  fsD : D ∉ Fs stack
  fsC : C ∉ Fs stack
  rest : ∃ π' xs m, Step (Fs stack) π s π' s' ∧ HR ((am.hold D).hold C) stack π' Hf s'.heap ∧ PL s'.heap D xs ∧ VRs ((am.hold D).hold C) π' s'.heap rs xs ∧ s'.heap.Ns C m ∧ D ∉ π' ∧ C ∉ π'
section
variable {am : Amb} {n : Nat} {F : Fn} {c : Ck}
noncomputable def CJ (am : Amb) (n : Nat) (F : Fn) (c : Ck) (cond : Option PE) (ifs : List Expr) : Prop := ∀ {cx : Cx} {ρ : List V} {A : Around} {res π : List Addr} {Hc : H} {s : Shared}, Base am n true F c cx ρ A → St (am.at res) true cx ρ π Hc A s →
  JAt (am.at res) cx.stack A (forIn ifs true fun c r => if r = true then do let ok ← isTrue c cx.env (eval c cx.env); pure (ForInStep.yield ok) else pure (ForInStep.yield r)) (tr (evC true F ρ cond Hc)) BR π s
theorem cj_none : CJ am n F c none [] := fun {cx ρ A res π Hc s} B st => by
  simp only [qC_1, qC_2]
  exact .inr (wpAny_tests_nil (OkP.here st.hr rfl))
theorem cj_some (h : TJ am n true F c e x) : CJ am n F c (some e) [x] := fun {cx ρ A res π Hc s} B st => by
  simp only [qC_1, qC_2]
  exact (h B st).rule fun Q E h => wpAny_tests_one h
theorem noErr {am : Amb} {stack : List Env} {β : Type} {π : List Addr} {s : Shared} {b : β} {Hc : H} {x : Value} {s' : Shared} {P : Prop} (h : ErP am stack π s (.ok b Hc) x s') : P := by
  obtain ⟨_, _, _, _, _, _, h, _⟩ := h; cases h
theorem JAt.okAt {am : Amb} {stack : List Env} {A : Around} {α β : Type} {Rel : List Addr → Heap → β → α → Prop} {π : List Addr} {s : Shared} {m : Sem α} {r : R β} {b : β} {Hc : H} {Q : α → Shared → Prop} {E : Value → Shared → Prop} (h : JAt am stack A m r Rel π s) (hr : r = .ok b Hc)
    (k : ∀ a π' s', Step (Fs stack) π s π' s' → HR am stack π' Hc s'.heap → Rel π' s'.heap b a → Q a s') : wpAny am.M A m Q E s := by
  subst hr
  rcases h with h | h
  · cases h
  · refine wpAny_mono h (fun a s' h => ?_) fun e s' h => noErr h
    refine hold fun z_ k_ => ?_
    obtain ⟨b', H', π', h1, h2, h3, h4⟩ := h
    refine k_ ?_
    cases h1
    exact k a π' s' h2 h3 h4
theorem ne_nf {h : Heap} {a I : Addr} {o : Obj} {us : Array Value} (h1 : ∃ o, h.get? a = some o ∧ ∀ us, o.data ≠ .fields us) (h2 : h.get? I = some o) (h3 : o.data = .fields us) : a ≠ I := fun q => by
  subst q
  obtain ⟨o', h4, h5⟩ := h1
  rw [h2] at h4; cases h4
  exact h5 us h3
theorem wp_append {Q : Value → Shared → Prop} {E : Value → Shared → Prop} (pl : PL s.heap l xs) (hz : xs.length ≤ 1000000)
    (h : PL (s.heap.update l (Obj.mapSeq (·.push y))) l (xs ++ [y]) → Poke l s.heap (s.heap.update l (Obj.mapSeq (·.push y))) → Q .none { s with heap := s.heap.update l (Obj.mapSeq (·.push y)) }) :
    wpAny am.M A (PySem.call (.builtin "list.append") [.ref l, y]) Q E s := by
  refine hold fun z_ k_ => ?_
  obtain ⟨o, n, ho, hcl, hdi, hd⟩ := id pl
  refine k_ ?_
  refine wpAny_call_entry slot_list_append pl.is.typeIs entry_list_append ?_ (args_list_append _ _)
  show wpAny _ _ (updateSeq l (·.push y) >>= fun z_ => ret .none) _ _ s
  refine wpAny_bind ?_
  refine wpAny_updateSeq ho hd (wpAny_pure ⟨.none, rfl, ?_⟩) (hz := by simp only [List.size_toArray]; have := mil_le_line; omega)
  have pl' := pl.update (·.push y)
  exact h (by simpa using pl') fun b o h1 h2 => (Heap.SameBut.update ..).extBut b o h1 h2
theorem compL_nil_inv {fe fc : V → H → R V} (e : compL w fe fc [] h = .ok ws Hf) : w.ok h = true ∧ ws = [] ∧ h = Hf := by
  simp only [compL] at e
  split at e
  · cases e; exact ⟨by assumption, rfl, rfl⟩
  · cases e
theorem compL_cons_inv {fe fc : V → H → R V} (e : compL w fe fc (v :: vs) h = .ok ws Hf) :
    w.ok h = true ∧ ∃ tb h3, tr (fc v h) = .ok tb h3 ∧ (tb = false → compL w fe fc vs h3 = .ok ws Hf) ∧ (tb = true → ∃ x h4 ws', fe v h3 = .ok x h4 ∧ compL w fe fc vs h4 = .ok ws' Hf ∧ ws = x :: ws') := by
  simp only [compL] at e
  split at e
  · refine ⟨by assumption, ?_⟩
    cases hcd : fc v h with
    | bad => rw [hcd] at e; cases e
    | err _ _ => rw [hcd] at e; cases e
    | ok bv h3 =>
      rw [hcd] at e
      simp only [R.bind_ok] at e
      cases htb : truthy bv with
      | none => rw [htb] at e; cases e
      | some tb =>
        rw [htb] at e
        refine ⟨tb, h3, by simp [tr, htb], ?_⟩
        cases tb with
        | false => exact ⟨fun z_ => e, fun q => absurd q (by simp)⟩
        | true =>
          refine ⟨fun q => absurd q (by simp), fun z_ => ?_⟩
          dsimp only at e
          cases hel : fe v h3 with
          | bad => rw [hel] at e; cases e
          | err _ _ => rw [hel] at e; cases e
          | ok x h4 =>
            rw [hel] at e
            simp only [R.bind_ok] at e
            cases hrest : compL w fe fc vs h4 with
            | bad => rw [hrest] at e; cases e
            | err _ _ => rw [hrest] at e; cases e
            | ok ws' h5 => rw [hrest] at e; simp only [R.bind_ok] at e; cases e; exact ⟨x, h4, ws', rfl, hrest, rfl⟩
  · cases e
inductive CompInv (am : Amb) (stack : List Env) (π : List Addr) (s : Shared) (Sx : Nat → List Addr → Heap → Prop) (D C : Addr) (wt : Watch) (fe fc : V → H → R V) (vs rs : List V) (Hf : H) (k : Nat) (s' : Shared) : Prop
  | mk (j : Nat) (π' : List Addr) (H' : H) (us : List V) (xsD : List Value) (m : Str → Option Value) (ws : List V) (e : k = vs.length + 1 - j) (hj : j ≤ vs.length) (hS : Step (Fs stack) π s π' s') (hR : HR am stack π' H' s'.heap) (hX : Sx j π' s'.heap) (hP : PL s'.heap D xsD) (hV : VRs am π' s'.heap us xsD) (hN : s'.heap.Ns C m) (hD : D ∉ π') (hC : C ∉ π') (hc : compL wt fe fc (vs.drop j) H' = .ok ws Hf) (hrs : us ++ ws = rs)
theorem comp_core {elt : PE} {i : Nat} {cond : Option PE} {e iter : Expr} {x : Str} {px pos : Pos} {ifs : List Expr} {scope : Scope} {cl : List (Str × Addr)} {cx : Cx} {ρ : List V} {A : Around} {res π π1 : List Addr} {Hc H1 Hf : H} {s s1 : Shared} {vs rs : List V} {wt : Watch} {itv : Value}
    {RR : Value → Addr → Result → Shared → Prop} {E : Value → Shared → Prop}
    (B : Base am n true F c cx ρ A) (st : St (am.at res) true cx ρ π Hc A s) (hs1 : Step (Fs cx.stack) π s π1 s1) (hr1 : HR (am.at res) cx.stack π1 H1 s1.heap) (hit : ItR (am.at res) cx.stack A s.heap π1 s1.heap (vs, wt) itv)
    (hsc : scopeOk c x scope = true) (hi : c.ctx.all (fun p => p.2 != i) = true) (helt : EJ am n true F (c.inner x i scope) elt e) (hcond : CJ am n F (c.inner x i scope) cond ifs)
    (hcl1 : ∀ y d, cl.lookup y = some d → cx.env.cells.lookup y = some d) (hcl2 : ∀ p ∈ scope.names, p.2 = .free → ∃ d, cl.lookup p.1 = some d)
    (hcomp : compL wt (fun v h => evE true F (ρ.set i v) elt h) (fun v h => evC true F (ρ.set i v) cond h) vs H1 = .ok rs Hf) (hlen : rs.length ≤ 1000000)
    (hRR : ∀ D C s', LoopEnd (am.at res) cx.stack π s rs Hf D C s' → RR (.ref D) C (.ok .next) s') :
    wpAny am.M A (newList []) (fun acc s₃ => wpAny am.M A (newFunctionEnv scope cx.env.globals cl [] cx.env.qual none .none (some cx.env)) (fun cenv s₄ =>
      codeAny am.M A (.compStart (.ListComp e [⟨.Name x px, iter, ifs, 0⟩] scope pos) 0 itv acc { cenv with scope := relabel scope cx.env }) (RR acc cenv.locals) s₄) E s₃) E s1 := by
  have hsc0 := hsc
  unfold scopeOk at hsc
  simp only [Bool.and_eq_true, List.all_eq_true, beq_iff_eq, Bool.not_eq_true', Bool.or_eq_true, bne_iff_ne, ne_eq] at hsc
  refine hold fun z_ k_ => ?_
  obtain ⟨⟨⟨⟨hkind, hall⟩, hxl⟩, hx0⟩, h00⟩ := hsc
  refine k_ ?_
  refine hold fun z_ k_ => ?_
  obtain ⟨I, rfl, hI0, hIB, _, hItD⟩ := hit
  refine k_ ?_
  have hcell : ∀ y ∈ scope.names, y.2 ≠ .cell := fun y hy => (hall y hy).2
  refine wpAny_newObj_type (wpAny_newFunctionEnv hcell (by intro y hy; simp at hy) (fun h₁ hns₁ hsb₁ => ?_) hkind)
  dsimp only at hns₁ hsb₁ ⊢
  generalize hH2 : s1.heap.push { cls := .type "list", dict := none, data := .seq ([] : List Value).toArray } = H2 at hns₁ hsb₁ ⊢
  generalize hD : s1.heap.objs.size = D at *
  generalize hC : H2.objs.size = C at *
  have hCD : C = D + 1 := by rw [← hC, ← hH2, Heap.size_push, hD]
  have hDC : D ≠ C := by omega
  have freshD1 : s1.heap.get? D = none := by rw [← hD]; exact size_none _
  have freshC1 : s1.heap.get? C = none := by
    cases hq : s1.heap.get? C with
    | none => rfl
    | some o => have h3 : C < s1.heap.objs.size := Heap.lt_size hq; rw [hD, hCD] at h3; exact absurd h3 (Nat.not_lt.mpr (Nat.le_succ _))
  have k1 : ∀ b o, s1.heap.get? b = some o → h₁.get? b = some o := fun b o hb =>
    hsb₁.extBut b o (ne_of_none freshC1 hb) (Heap.get?_push_of_some _ (hH2 ▸ Heap.get?_push_of_some _ hb))
  have fresh0 : ∀ a, s1.heap.get? a = none → s.heap.get? a = none := fun a ha => by
    cases hq : s.heap.get? a with
    | none => rfl
    | some o => obtain ⟨o', h6⟩ := hs1.ext.alive a o hq; rw [ha] at h6; cases h6
  have plD : PL h₁ D [] := by
    have h2 : H2.get? D = some { cls := .type "list", dict := none, data := .seq ([] : List Value).toArray } := by rw [← hH2, ← hD]; exact Heap.get?_push_size _ rfl
    exact ⟨_, 0, hsb₁.extBut D _ hDC (Heap.get?_push_of_some _ h2), rfl, rfl, rfl⟩
  let am' : Amb := ((am.at res).hold D).hold C
  have hr2 : HR am' cx.stack π1 H1 h₁ := (hr1.held (h' := h₁) freshD1 k1 plD.nf |> fun z_ => by
    have a1 : HR ((am.at res).hold D) cx.stack π1 H1 H2 := hr1.held freshD1 (fun b o hb => hH2 ▸ Heap.get?_push_of_some _ hb) (by
      have h2 : H2.get? D = some { cls := .type "list", dict := none, data := .seq ([] : List Value).toArray } := by rw [← hH2, ← hD]; exact Heap.get?_push_size _ rfl
      exact ⟨_, h2, fun us q => by cases q⟩)
    have hCn : H2.get? C = none := by rw [← hC]; exact size_none _
    exact a1.held hCn (fun b o hb => hsb₁.extBut b o (ne_of_none hCn hb) (Heap.get?_push_of_some _ hb)) (Ns.nf hns₁))
  obtain ⟨Sx, It, hSx⟩ := hItD (C :: D :: res) h₁ (fun a ha => by
    rcases List.mem_cons.mp ha with rfl | ha
    · exact .inr freshC1
    · rcases List.mem_cons.mp ha with rfl | ha
      · exact .inr freshD1
      · exact .inl ha) k1
  refine hold fun z_ k_ => ?_
  obtain ⟨hI1, hI2, oI, usI, hIo, hId⟩ := It.own 0 π1 h₁ hSx
  refine k_ ?_
  have cellsOk : ∀ v, (∀ c, v ≠ .exc c) → Base am n true F (c.inner x i scope) ⟨compEnvC scope cl C cx.env, cx.stack, (x, i) :: cx.ctx⟩ (ρ.set i v) A := fun v hv =>
    ⟨B.ok, B.fn, ⟨by show (x, i) :: cx.ctx = (x, i) :: c.ctx; rw [B.ck.ctx], by show (relabel scope cx.env).names = relab c.names scope.names; rw [relabel_names B.cxk.kind, B.ck.names], B.ck.fns, B.ck.nums⟩,
      ⟨fun y hy => by
          have hk : Env.kindOf (compEnvC scope cl C cx.env) y = (scope.names.lookup y).map fun k => if (k == .free && c.names.lookup y == some .cell) = true then .cell else k := by
            show (relabel scope cx.env).names.lookup y = _
            rw [relabel_names B.cxk.kind, relab_lookup, B.ck.names]
          rw [hk] at hy
          cases hl : scope.names.lookup y with
          | none => rw [hl] at hy; simp at hy
          | some k =>
            by_cases hf : k = .free
            · subst hf; exact hcl2 _ (lookup_mem hl) rfl
            · have hb2 : (k == NameKind.free) = false := by simpa using hf
              rw [hl] at hy
              simp only [Option.map_some, hb2, Bool.false_and, Bool.false_eq_true, if_false, Option.some.injEq] at hy
              rcases hy with q | q
              · exact absurd q (hcell _ (lookup_mem hl))
              · exact absurd q hf,
        hkind, B.cxk.globals, B.cxk.builtins, B.cxk.top⟩, B.as, fun z_ => (B.ne rfl).set hv⟩
  have hbase : LoopEnd (am.at res) cx.stack π s rs Hf D C s → True := fun z_ => trivial
  have resD : D ∉ (am.at res).res := fresh_res hr1 freshD1
  have resC : C ∉ (am.at res).res := fresh_res hr1 freshC1
  have fsD : D ∉ Fs cx.stack := fresh_fs hr1 freshD1
  have fsC : C ∉ Fs cx.stack := fresh_fs hr1 freshC1
  have baseD : (am.at res).B.get? D = none := base_none hr1 freshD1
  have baseC : (am.at res).B.get? C = none := base_none hr1 freshC1
  have er0 : ER am' cx ρ π s.heap := (st.er.held (fresh0 D freshD1)).held (fresh0 C freshC1)
  have hxk : Env.kindOf (compEnvC scope cl C cx.env) x = some .local := lookup_relabel_local hxl
  have hp : ((compEnvC scope cl C cx.env).scope.kind == .class || ((compEnvC scope cl C cx.env).scope.kind == .module && (compEnvC scope cl C cx.env).locals != (compEnvC scope cl C cx.env).globals)) = false := by
    simp [compEnvC, relabel, hkind]
  have loop : ∀ s₃ : Shared, s₃ = { s1 with heap := h₁, toks := s1.toks + ([] : List (Str × Value)).length } →
      codeAny am.M A (.compLoop (.ListComp e [⟨.Name x px, iter, ifs, 0⟩] scope pos) 0 (.ref I) (.ref D) (compEnvC scope cl C cx.env)) (RR (.ref D) C) s₃ := by
    rintro s₃ rfl
    refine hold fun z_ k_ => ?_
    obtain ⟨Inv, toInv, ofInv⟩ : ∃ Inv : Nat → Shared → Prop, (∀ k s', CompInv am' cx.stack π s Sx D C wt (fun v h => evE true F (ρ.set i v) elt h) (fun v h => evC true F (ρ.set i v) cond h) vs rs Hf k s' → Inv k s') ∧ (∀ k s', Inv k s' → CompInv am' cx.stack π s Sx D C wt (fun v h => evE true F (ρ.set i v) elt h) (fun v h => evC true F (ρ.set i v) cond h) vs rs Hf k s') := ⟨_, fun z_ z_ h => h, fun z_ z_ h => h⟩
    refine k_ ?_
    refine codeAny_compLoop_tests Inv ?_ (vs.length + 1)
      (toInv _ _ ⟨0, π1, H1, [], [], _, rs, rfl, Nat.zero_le _, hs1.trans (Step.keeps k1), hr2, hSx, plD, by simp [VRs], hns₁, fresh_pi hr1 freshD1, fresh_pi hr1 freshC1, by simpa using hcomp, rfl⟩)
    intro k s' hi_
    refine hold fun z_ k_ => ?_
    obtain ⟨j, π', H', us, xsD, m, ws, rfl, hj, hS, hR, hX, hP, hV, hN, hDπ, hCπ, hc, hrs⟩ := ofInv k s' hi_
    refine k_ ?_
    refine hold fun z_ k_ => ?_
    obtain ⟨i1, i2, oJ, uJ, hoJ, hdJ⟩ := It.own j π' s'.heap hX
    refine k_ ?_
    have hDI : D ≠ I := ne_nf hP.nf hoJ hdJ
    have hCI : C ≠ I := ne_nf (Ns.nf hN) hoJ hdJ
    cases hv : vs[j]? with
    | none =>
      have hjl : vs.length ≤ j := by simpa using hv
      have hj' : j = vs.length := Nat.le_antisymm hj hjl
      rw [List.drop_of_length_le hjl] at hc
      obtain ⟨hw, rfl, rfl⟩ := compL_nil_inv hc
      subst hj'
      refine It.done π' _ s' _ _ hX hR hw fun h' tk p => ?_
      refine hRR D C _ ⟨fresh0 D freshD1, fresh0 C freshC1, hDC, resD, resC, baseD, baseC, fsD, fsC, π', xsD, m, hS.poke hI0 p, hR.poke p hoJ hdJ hIB, hP.at fun o e => p D o hDI e, ?_, Ns.at hN fun o e => p C o hCI e, hDπ, hCπ⟩
      rw [← hrs, List.append_nil]
      exact hV.upto (p.slots hoJ hdJ)
    | some v =>
      have hjl : j < vs.length := (List.getElem?_eq_some_iff.mp hv).1
      have hdrop : vs.drop j = v :: vs.drop (j + 1) := by
        rw [List.drop_eq_getElem_cons hjl]
        congr 1
        exact (List.getElem?_eq_some_iff.mp hv).2
      rw [hdrop] at hc
      refine hold fun z_ k_ => ?_
      obtain ⟨hw, tb, h3, htr, hc0, hc1⟩ := compL_cons_inv hc
      refine k_ ?_
      refine It.item j π' H' s' v _ _ hX hR hw hv fun x' h' tk p hvx hX' => ?_
      dsimp only
      have hN' : h'.Ns C m := Ns.at hN fun o e => p C o hCI e
      refine wpAny_assign_Name (wpAny_storeName_local hxk hN' (fun h₂ hn₂ hs₂ => ?_) hp)
      have p2 : Poke C h' h₂ := fun b o hb e => hs₂.extBut b o hb e
      have hCr : C ∈ am'.res := List.mem_cons_self
      have hDr : D ∈ am'.res := List.mem_cons_of_mem _ List.mem_cons_self
      have f2 : ∀ b o, b ∉ am'.res → h'.get? b = some o → h₂.get? b = some o := fun b o hb e => p2 b o (fun q => hb (q ▸ hCr)) e
      have hR2 : HR am' cx.stack π' H' h₂ := (hR.poke p hoJ hdJ hIB).freed hCr baseC hCπ p2 (Ns.nf hn₂)
      have hS2 : Step (Fs cx.stack) π s π' { s' with heap := h₂, toks := tk + 1 } := (hS.poke (tk := tk) hI0 p).poke (fresh0 C freshC1) p2
      have hP2 : PL h₂ D xsD := (hP.at fun o e => p D o hDI e).at fun o e => p2 D o hDC e
      have hV2 : VRs am' π' h₂ us xsD := (hV.upto (p.slots hoJ hdJ)).free f2
      have hX2 : Sx (j + 1) π' h₂ := It.free _ _ _ _ hX' f2
      have hvx2 : VR am' π' h₂ v x' := hvx.free f2
      have er : ER am' ⟨compEnvC scope cl C cx.env, cx.stack, (x, i) :: cx.ctx⟩ (ρ.set i v) π' h₂ :=
        er_comp (er0.step hS2) B.cxk.kind B.ck.names B.ck.ctx hsc0 hi hcl1 hcl2 hCπ hn₂ (by simp) hvx2
      have stI : St am' true ⟨compEnvC scope cl C cx.env, cx.stack, (x, i) :: cx.ctx⟩ (ρ.set i v) π' H' A { s' with heap := h₂, toks := tk + 1 } := ⟨hR2, er, st.hd⟩
      have BI := cellsOk v hvx.noexc
      refine JAt.okAt (am := am') (hcond (res := C :: D :: res) BI stI) htr fun a π2 s3 hS3 hR3 hb => ?_
      unfold BR at hb; subst hb
      have alive2 : ∀ {a : Addr}, (∃ o, h₂.get? a = some o ∧ ∀ us, o.data ≠ .fields us) → a ∉ π' → a ∉ π2 := fun {a} ⟨o, ho, _⟩ ha => hS3.notin (s := { s' with heap := h₂, toks := tk + 1 }) ho ha
      have hDπ2 := alive2 hP2.nf hDπ
      have hCπ2 := alive2 (Ns.nf hn₂) hCπ
      have hP3 : PL s3.heap D xsD := hP2.at fun o e => hS3.ext.keep D o e hDπ fsD
      have hN3 := Ns.at hn₂ fun o e => hS3.ext.keep C o e hCπ fsC
      have hV3 : VRs am' π2 s3.heap us xsD := hV2.step hS3
      have hX3 := It.stable _ _ _ _ _ hX2 hS3
      cases tb with
      | false =>
        rw [if_neg (by simp)]
        exact ⟨_, by omega, toInv _ _ ⟨j + 1, π2, h3, us, xsD, _, ws, rfl, by omega, hS2.trans hS3, hR3, hX3, hP3, hV3, hN3, hDπ2, hCπ2, hc0 rfl, hrs⟩⟩
      | true =>
        rw [if_pos rfl]
        obtain ⟨w, h4, ws', hel, hrest, rfl⟩ := hc1 rfl
        refine JAt.okAt (am := am') (helt (res := C :: D :: res) BI (stI.step hS3 hR3)) hel fun y π3 s4 hS4 hR4 hvy => ?_
        have hP4 : PL s4.heap D xsD := hP3.at fun o e => hS4.ext.keep D o e hDπ2 fsD
        have hN4 := Ns.at hN3 fun o e => hS4.ext.keep C o e hCπ2 fsC
        have hDπ3 : D ∉ π3 := by obtain ⟨o, ho, _⟩ := hP3.nf; exact hS4.notin ho hDπ2
        have hCπ3 : C ∉ π3 := by obtain ⟨o, ho, _⟩ := Ns.nf hN3; exact hS4.notin ho hCπ2
        have hV4 : VRs am' π3 s4.heap us xsD := hV3.step hS4
        have hX4 := It.stable _ _ _ _ _ hX3 hS4
        have hxl2 : xsD.length ≤ 1000000 := by
          have e1 := hV4.len
          have e2 : us.length ≤ rs.length := by rw [← hrs]; simp
          omega
        refine wp_append hP4 hxl2 fun pl' p5 => ?_
        have f5 : ∀ b o, b ∉ am'.res → s4.heap.get? b = some o → (s4.heap.update D (Obj.mapSeq (·.push y))).get? b = some o := fun b o hb e => p5 b o (fun q => hb (q ▸ hDr)) e
        exact ⟨_, by omega, toInv _ _ ⟨j + 1, π3, h4, us ++ [w], xsD ++ [y], _, ws', rfl, by omega, ((hS2.trans hS3).trans hS4).poke (tk := s4.toks) (fresh0 D freshD1) p5, hR4.freed hDr baseD hDπ3 p5 pl'.nf, It.free _ _ _ _ hX4 f5, pl',
          (hV4.append (.single hvy)).free f5, Ns.at hN4 fun o e => p5 C o (Ne.symm hDC) e, hDπ3, hCπ3, hrest, by rw [← hrs]; simp⟩⟩
  exact codeAny_compStart_list (loop _ rfl) (It.self 0 π1 _ _ _ hSx (loop _ rfl))
end
theorem LoopEnd.fr {am : Amb} {stack : List Env} {π : List Addr} {s : Shared} {rs : List V} {Hf : H} {D C : Addr} {s' : Shared} (e : LoopEnd am stack π s rs Hf D C s') (hlen : rs.length ≤ 1000000) {h' : Heap} {tk : Nat} (p : Poke C s'.heap h') :
    FrP am stack π s (.ok (.lst rs) Hf) (.ref D) { s' with heap := h', toks := tk } := by
  refine hold fun z_ k_ => ?_
  obtain ⟨π', xs, m, h1, h2, h3, h4, h5, h6, h7⟩ := e.rest
  refine k_ ?_
  have hCr : C ∈ ((am.hold D).hold C).res := List.mem_cons_self
  refine ⟨rs, Hf, π', D, xs, rfl, rfl, hlen, e.freshD, ⟨h6, e.fsD, e.resD, e.baseD⟩, h1.poke e.freshC p, ?_, h3.at fun o q => p D o e.ne q, ?_⟩
  · refine h2.out ?_ e.baseC h7 e.fsC p
    simp only [Amb.hold, List.mem_cons, not_or]
    exact ⟨Ne.symm e.ne, e.resC⟩
  · exact (h4.free fun b o hb q => p b o (fun z => hb (z ▸ hCr)) q).reserve.2
theorem set_iter (h : isSet iter = false) (env : Env) (x : Value) : foldedSetIterable iter env x = pure x := by
  cases iter <;> first | rfl | exact noB h.symm
section
variable {am : Amb} {n : Nat} {q : Bool} {F : Fn} {c : Ck}
set_option tactic.hygienic true in
theorem fj_comp {elt : PE} {i : Nat} {it : PIt} {cond : Option PE} {e iter : Expr} {x : Str} {px pos : Pos} {ifs : List Expr} {scope : Scope} (hset : isSet iter = false) (hsc : scopeOk c x scope = true) (hi : c.ctx.all (fun p => p.2 != i) = true)
    (hit : q = true → ItJ am n F c it iter) (helt : q = true → EJ am n true F (c.inner x i scope) elt e) (hcond : q = true → CJ am n F (c.inner x i scope) cond ifs) :
    FJ am n q F c (.comp elt i it cond) (.ListComp e [⟨.Name x px, iter, ifs, 0⟩] scope pos) := fun {cx ρ A res π Hc s} B st => by
  cases q with
  | false => exact .inl (by simp [qE_1, qE_2, qE_3, qE_4, qE_5, qE_6, qE_7, qE_8, qE_9, qE_10, qE_11, qE_12, qE_13, qE_14, qE_15, qE_16, qE_17, qE_18, qE_19, qE_20, qE_21, qE_22, qE_23, qE_24, qE_25, qE_26, qE_27, qE_28, qE_29, qE_30, qE_31, qE_32, qE_33, qE_34, qE_35, qE_36, qE_37, qE_38])
  | true =>
    have hit : ItJ am n F c it iter := fun B st => hit rfl B st
    have helt : EJ am n true F (c.inner x i scope) elt e := fun B st => helt rfl B st
    have hcond : CJ am n F (c.inner x i scope) cond ifs := fun B st => hcond rfl B st
    have hsc0 := hsc
    unfold scopeOk at hsc
    simp only [Bool.and_eq_true, List.all_eq_true, beq_iff_eq, Bool.not_eq_true', Bool.or_eq_true, bne_iff_ne, ne_eq] at hsc
    refine hold fun z_ k_ => ?_
    obtain ⟨⟨⟨⟨hkind, hall⟩, hxl⟩, hx0⟩, h00⟩ := hsc
    refine k_ ?_
    obtain ⟨cl, hclos, hcl1, hcl2⟩ := closure_for (scope := scope) (env := cx.env) (fun p hp hf => B.cxk.clos p.1 (by
      unfold Env.kindOf; rw [B.ck.names]
      rcases (hall p hp).1.2 with (z | z) | z
      · exact absurd hf z
      · exact .inl z
      · exact .inr z))
    have hnames : ∀ y ∈ scope.names, y.2 = .local → scope.names.lookup y.1 = some .local := fun y hy hl => by
      rcases (hall y hy).1.1 with z | z
      · exact absurd hl z
      · exact z.2
    simp only [qE_1, qE_2, qE_3, qE_4, qE_5, qE_6, qE_7, qE_8, qE_9, qE_10, qE_11, qE_12, qE_13, qE_14, qE_15, qE_16, qE_17, qE_18, qE_19, qE_20, qE_21, qE_22, qE_23, qE_24, qE_25, qE_26, qE_27, qE_28, qE_29, qE_30, qE_31, qE_32, qE_33, qE_34, qE_35, qE_36, qE_37, qE_38]
    rw [if_neg (by simp)]
    have hI := hit B st
    have key : ∀ (r : R V), (∀ vs wt H1, evIt true F ρ it Hc = .ok (vs, wt) H1 → ∃ rs Hf, compL wt (fun v h => evE true F (ρ.set i v) elt h) (fun v h => evC true F (ρ.set i v) cond h) vs H1 = .ok rs Hf ∧ rs.length ≤ 1000000 ∧ r = .ok (.lst rs) Hf) →
        (∀ c' H', evIt true F ρ it Hc = .err c' H' → r = .err c' H') → evIt true F ρ it Hc ≠ .bad →
        JF (am.at res) cx.stack (fun Q E s => wpAny am.M A (eval (.ListComp e [⟨.Name x px, iter, ifs, 0⟩] scope pos) cx.env) Q E s) r π s := by
      intro r h1 h2 h3
      rcases hI with hI | hI
      · exact absurd hI h3
      · refine .inr ?_
        have erp : ∀ y s', ErP (am.at res) cx.stack π s (evIt true F ρ it Hc) y s' → ErP (am.at res) cx.stack π s r y s' := fun y s' h => by
          refine hold fun z_ k_ => ?_
          obtain ⟨c', H'', π', e', C, fl, hh, r2, r3, r4, r5, r6⟩ := h
          refine k_ ?_
          exact ⟨c', H'', π', e', C, fl, h2 c' H'' hh, r2, r3, r4, r5, r6⟩
        rw [eval_ListComp]
        refine wpAny_comprehension_free (use := none) rfl (set_iter hset cx.env) hclos hkind hnames (wpAny_mono hI (fun xv s₁ h₁ => wpAny_mono h₁ (fun itv s₂ h₂ => ?_) erp) erp)
        refine hold fun z_ k_ => ?_
        obtain ⟨⟨vs, wt⟩, H1, π1, e1, e2, e3, e4⟩ := h₂
        refine k_ ?_
        refine hold fun z_ k_ => ?_
        obtain ⟨rs, Hf, e5, e6, e7⟩ := h1 vs wt H1 e1
        refine k_ ?_
        refine comp_core (RR := fun acc C => compPost am.M A (ErP (am.at res) cx.stack π s r) none (FrP (am.at res) cx.stack π s r) acc C) B st e2 e3 e4 hsc0 hi helt hcond hcl1 hcl2 e5 e6 fun D C s' le => ?_
        refine hold fun z_ k_ => ?_
        obtain ⟨π', xs, m, _, _, _, _, h5, _⟩ := le.rest
        refine k_ ?_
        refine ⟨m, h5, fun h' sb => ?_⟩
        rw [e7]
        exact le.fr e6 (tk := s'.toks) fun b o hb q => sb.extBut b o hb q
    cases hev : evIt true F ρ it Hc with
    | bad => exact .inl rfl
    | err c' H' => exact key _ (fun z_ z_ z_ z => by rw [hev] at z; cases z) (fun z_ z_ z => by rw [hev] at z; cases z; rfl) (by rw [hev]; simp)
    | ok b H1 =>
      obtain ⟨vs, wt⟩ := b
      simp only [R.bind_ok]
      cases hc : compL wt (fun v h => evE true F (ρ.set i v) elt h) (fun v h => evC true F (ρ.set i v) cond h) vs H1 with
      | bad => exact .inl rfl
      | err _ _ => exact .inl rfl
      | ok rs Hf =>
        simp only [mkL]
        split
        · rename_i hle
          refine key _ (fun vs' wt' H1' z => ?_) (fun z_ z_ z => by rw [hev] at z; cases z) (by rw [hev]; simp)
          rw [hev] at z; cases z
          exact ⟨rs, Hf, hc, hle, rfl⟩
        · exact .inl rfl
theorem raise_keeps {h h' : Heap} {C : Addr} (e : RaiseAt h C) (k : ∀ b o, h.get? b = some o → h'.get? b = some o) : RaiseAt h' C := by
  refine hold fun z_ k_ => ?_
  obtain ⟨nm, qn, N, bs, bm, hdct, sn, sub, ab, col, dd, k0, k1, k2, k3, k5, mN, r1, r2, r3, r4⟩ := e
  refine k_ ?_
  exact ⟨nm, qn, N, bs, bm, hdct, sn, sub, ab, col, dd, k0, k1, k2, k3, k5, mN, k _ _ r1, ns_stays k r2, r3, r4.keeps k⟩
theorem exc_class {prog : Program} {w : World} {A : Around} {E : Value → Shared → Prop} {Q : Option Value → Shared → Prop} {s : Shared} {K : Frag} {x D : Addr} {ox : Obj} (X : K.In s.heap) (I : InstAt s.heap x ox D none) (R : RaiseAt s.heap D)
    (hga : findIn K (.ref D) "__getattribute__" = some (some (.builtin "BaseException.__getattribute__"))) (hgh : findIn K (.ref D) "__getattr__" = some none)
    (hf : findObj K D none "__class__" = some (.bind (.builtin "getset_descriptor.__get__") (.builtin "object.__class__"))) (hm : mroIn K D (.type "object") = some true)
    (h : Q (some (.ref D)) { s with toks := s.toks + 1 }) : wpAny (model prog w) A (getAttr? (.ref x) "__class__") Q E s := by
  refine hold fun z_ k_ => ?_
  obtain ⟨hh, g, d, t, os⟩ := s
  refine k_ ?_
  refine hold fun z_ k_ => ?_
  obtain ⟨nm, qn, N, bs, bm, hdct, sn, sub, ab, col, dd, k0, k1, k2, k3, k5, mN, r1, r2, r3, r4⟩ := R
  refine k_ ?_
  have L0 := I.type (M := model prog w)
  have L1 := looks_findIn (M := model prog w) X hga
  have L2 := looks_findIn (M := model prog w) X hgh
  have L3 := looks_find (M := model prog w) X I hf
  have f3 := F.attrBase_ValueError.ga.bind (.ref x)
  unfold getAttr? getAttrBy? getAttrBy
  refine wpAny_bind (wpAny_mkText (wpAny_bind (wpAny_attempt (wpAny_holding (wpAny_bind (L0.at (wpAny_bind (L1.at ?_))))))))
  have hx2 : (Value.builtin "BaseException.__getattribute__" == Value.builtin "object.__getattribute__") = false := by decide +kernel
  dsimp only
  rw [if_neg (by rw [hx2]; simp)]
  unfold getAttrByItsOwn hookBefore
  refine wpAny_bind ?_
  rw [if_pos (show onTheHeap (Value.ref D) = true from rfl)]
  refine L2.at ?_
  refine wpAny_bind (wpAny_attempt (wpAny_holding ?_))
  unfold callGetattribute
  rw [if_neg (by simp)]
  unfold boundAndCalled
  rw [f3]
  refine wpAny_bind (wpAny_pure ?_)
  refine wpAny_call (codeAny_call_builtin F.attrBase_ValueError.ga.plain F.entry_bexc_ga (wpAny_check_ga_own F.attrBase_ValueError r1 r4 I.1 I.2 ?_))
  unfold Builtin.«object.__getattribute__»
  refine wpAny_bind (wpAny_of_eq (a := (.ref x, [.str (Str.ofString "__class__") t])) rfl ?_)
  dsimp only
  refine wpAny_bind (wpAny_of_eq (a := Str.ofString "__class__") rfl ?_)
  refine wpAny_bind (L0.at (wpAny_bind (L3.at ?_)))
  dsimp only
  unfold Builtin.ObjectAttr.bindTo
  dsimp only
  refine wpAny_bind (wpAny_holding (wpAny_call (class_get (s := ⟨hh, g, d, t + 1, os⟩) (ox := ox) (od := none) X I hm ?_)))
  refine wpAny_pure ?_
  exact handed_on rfl (wpAny_pure h)
set_option tactic.hygienic true in
theorem kitx_exc {K : Frag} {x D : Addr} {ox : Obj} (hg : findIn K (.ref D) "__getattribute__" = some (some (.builtin "BaseException.__getattribute__")) ∧ findIn K (.ref D) "__getattr__" = some none) (hc : (clsIn K D).isSome = true) (ha : findIn K (.ref D) "__class__" = some (some (.builtin "object.__class__")))
    (hn : specialIn K (.builtin "object.__class__") "__get__" = some (some (.builtin "getset_descriptor.__get__"))) (htk : takesIn K (.builtin "object.__class__") = some true) (hm : mroIn K D (.type "object") = some true) :
    KitX K (.ref x) (.ref D) (fun h => InstAt h x ox D none ∧ RaiseAt h D) where
  ty := fun z_ z_ z_ I => I.1.type
  it := fun z_ z_ X z_ => by
    obtain ⟨cdD, hcD⟩ := Option.isSome_iff_exists.mp hc
    unfold clsIn at hcD
    split at hcD
    · rename_i c' d' cd' sl' ho
      intro A' Q' E' s' k q
      unfold isType loadHead
      exact wpAny_bind (wpAny_loadPart (k _ _ (X _ _ ho)) (wpAny_pure q))
    · cases hcD
  ne := fun h tp dd its n sl X htp => by
    obtain ⟨cdD, hcD⟩ := Option.isSome_iff_exists.mp hc
    refine Bool.eq_false_iff.mpr fun q => ?_
    have e : D = tp := Value.ref.inj (beq_iff_eq.mp q)
    subst e
    unfold clsIn at hcD
    split at hcD
    · rename_i c' d' cd' sl' ho
      have z := (X _ _ ho).symm.trans htp
      cases z
    · cases hcD
  ca := fun {prog w A E Q s} X I k => by
    have hf : findObj K D none "__class__" = some (.bind (.builtin "getset_descriptor.__get__") (.builtin "object.__class__")) := by
      obtain ⟨cd, hc⟩ := Option.isSome_iff_exists.mp hc
      unfold findObj
      rw [hc, Option.bind_some, ha, Option.bind_some]
      simp [hn, htk]
    exact exc_class X I.1 I.2 hg.1 hg.2 hf hm k
set_option tactic.hygienic true in
theorem ej_isexc {i : Nat} {t : Ty} {x : Str} {y : Expr} {p p' p2 : Pos} (hx : c.glob "isinstance" = true) (hv : c.var x i = true) (hk : ckTy c t y = true) :
    EJ am n q F c (.isexc i t) (.Call (.Name "isinstance" p) [.Name x p2, y] [] p') := fun {cx ρ A res π Hc s} B st => by
  simp only [qE_1, qE_2, qE_3, qE_4, qE_5, qE_6, qE_7, qE_8, qE_9, qE_10, qE_11, qE_12, qE_13, qE_14, qE_15, qE_16, qE_17, qE_18, qE_19, qE_20, qE_21, qE_22, qE_23, qE_24, qE_25, qE_26, qE_27, qE_28, qE_29, qE_30, qE_31, qE_32, qE_33, qE_34, qE_35, qE_36, qE_37, qE_38]
  cases hρ : ρ[i]? with
  | none => exact .inl rfl
  | some v =>
    cases v with
    | exc d =>
      simp only
      cases hb : isExc d t with
      | none => exact .inl rfl
      | some b =>
        refine .inr (wp_call_bt (v := .builtin "isinstance") B st.hr hx (bt_mem (by kernel_rfl)) (by
          intro z hz; rcases List.mem_cons.mp hz with rfl | hz
          · rfl
          · exact tys_star (c := c) (ts := [t]) (xs := [y]) (by simp [ckTys, hk]) z hz) (spl2 (wp_var B st hv hρ (by simp) fun v' hs => ?_)))
        rcases hs with hs | ⟨d', a, h1, rfl, h3, C, o, vs, h4, h5, h6, h7, h8, h9⟩
        · exact hs.elim
        cases h1
        unfold isExc at hb
        split at hb
        · rename_i hd
          have hdm : d ∈ excNames := by simpa using hd
          obtain ⟨C', X⟩ := B.ok.exc d hdm
          have hCC : C' = C := by have := X.name.symm.trans h4; cases this; rfl
          subst hCC
          have Z := kitx_exc (x := a) (ox := o) X.get X.cls X.find X.spec X.takes X.mro
          have I : InstAt s.heap a o C' none ∧ RaiseAt s.heap C' := ⟨⟨h5, h6.1, by unfold notCls; rw [h7], by rw [h6.2]; trivial⟩, raise_keeps (B.ok.rs d hdm C' X.name) st.hr.base⟩
          obtain ⟨pz, rfl, hk'⟩ := ckTy_inv hk
          clear hk
          have hk := hk'
          cases t with
          | valueError =>
            cases hb
            exact wp_bt B st.hr hk (bt_mem (by kernel_rfl)) (kia_one Z (B.ok.K.keeps st.hr.base) I X.val (by simp) fun tk => OkP.tok st.hr rfl)
          | own d2 =>
            simp only at hb
            split at hb
            · rename_i hd2
              cases hb
              have hdm2 : d2 ∈ excNames := by simpa using hd2
              obtain ⟨D, Y⟩ := B.ok.exc d2 hdm2
              exact wp_glob B st.hr hk Y.name (kia_one Z (B.ok.K.keeps st.hr.base) I (B.ok.sub d hdm d2 hdm2 C' D X.name Y.name) (by simp) fun tk => OkP.tok st.hr rfl)
            · cases hb
          | _ => cases hb
        · cases hb
    | _ => exact .inl rfl
theorem ej_callX (hx : c.glob (Str.ofString f) = true) (hf : f ∈ c.fns) (hv : c.var x i = true) :
    EJ am n q F c (.callX f i) (.Call (.Name (Str.ofString f) p) [.Name x p2] [] p') := fun {cx ρ A res π Hc s} B st => by
  simp only [qE_1, qE_2, qE_3, qE_4, qE_5, qE_6, qE_7, qE_8, qE_9, qE_10, qE_11, qE_12, qE_13, qE_14, qE_15, qE_16, qE_17, qE_18, qE_19, qE_20, qE_21, qE_22, qE_23, qE_24, qE_25, qE_26, qE_27, qE_28, qE_29, qE_30, qE_31, qE_32, qE_33, qE_34, qE_35, qE_36, qE_37, qE_38]
  cases hρ : ρ[i]? with
  | none => exact .inl rfl
  | some v =>
    cases v with
    | exc d =>
      obtain ⟨a, fa⟩ := B.ck.fns f hf
      refine hold fun z_ k_ => ?_
      obtain ⟨ga, o, fd, ho, hd⟩ := id fa
      refine k_ ?_
      have hq : q = false := by
        cases q with
        | false => rfl
        | true => exact absurd rfl ((B.ne rfl) _ (List.mem_of_getElem? hρ) d)
      simp only
      have J : ∀ v', SR (am.at res) π s.heap (.exc d) v' → JAt (am.at res) cx.stack A (PySem.call (.ref a) [v'] []) (Mine.pcall Hc (F q f [.exc d] Hc)) (VR (am.at res)) π s := fun v' hs => by
        rcases hs with hs | ⟨d', b, h1, rfl, h3, h4⟩
        · exact hs.elim
        cases h1
        exact JAt.pcall st.hr (B.fn.call res q f a _ _ cx.stack A π Hc s fa B.as st.hr st.hd (.inr ⟨hq, d, b, rfl, rfl, h3, h4⟩))
      by_cases hbad : Mine.pcall Hc (F q f [.exc d] Hc) = .bad
      · exact .inl hbad
      · refine .inr (wpAny_Call_Name_kw (wp_glob B st.hr hx ga ?_))
        rw [starEach_plain _ (fun z hz => by rw [List.mem_singleton.mp hz]; rfl)]
        refine Calls.callWith_function (o := o) (fd := fd) (Calls.evalArgs_plain (spl1 (wp_var B st hv hρ (by simp) fun v' hs => ⟨⟨st.hr.base a o ho, hd⟩, ?_⟩)))
        rcases J v' hs with h | h
        · exact absurd h hbad
        · exact h
    | _ => exact .inl rfl
end
section
variable {am : Amb} {n : Nat} {F : Fn}
noncomputable def PJ (am : Amb) (n : Nat) (q : Bool) (F : Fn) (c : Ck) (e : PE) (x : Expr) : Prop := EJ am n q F c e x ∧ TJ am n q F c e x
theorem EJ.both (h : EJ am n q F c e x) (hp : plainTest x = true) : PJ am n q F c e x := ⟨h, h.test hp⟩
noncomputable def OJ (am : Amb) (n : Nat) (q : Bool) (F : Fn) (c : Ck) (e : PE) (x : Expr) : Prop := freshE e = true → EJ am n q F c (.own e) x ∧ plainTest x = true
theorem fresh_bf (h : freshE (.bf f a) = true) : f = .list ∨ f = .listRev := by
  rcases Bool.or_eq_true_iff.mp (show (decide (f = .list) || decide (f = .listRev)) = true from h) with h | h
  · exact .inl (of_decide_eq_true h)
  · exact .inr (of_decide_eq_true h)
noncomputable def XJ (am : Amb) (n : Nat) (q : Bool) (F : Fn) (c : Ck) (e : PE) (x : Expr) : Prop := PJ am n q F c e x ∧ OJ am n q F c e x
theorem k_none   (h : ckE c (.none) x = true) : XJ am n q F c (.none) x := by
  refine const_any (G := XJ am n q F c (.none)) h fun k p z_ => ?_
  exact ⟨EJ.both ej_none rfl, fun z => by cases z⟩
theorem k_bool  (h : ckE c (.bool b) x = true) : XJ am n q F c (.bool b) x := by
  refine const_any (G := XJ am n q F c (.bool b)) h fun k p z_ => ?_
  exact ⟨EJ.both ej_bool rfl, fun z => by cases z⟩
theorem k_int  (h : ckE c (.int i) x = true) : XJ am n q F c (.int i) x := by
  refine const_any (G := XJ am n q F c (.int i)) h fun k p z_ => ?_
  exact ⟨EJ.both ej_int rfl, fun z => by cases z⟩
theorem k_str  (h : ckE c (.str t) x = true) : XJ am n q F c (.str t) x := by
  refine const_any (G := XJ am n q F c (.str t)) h fun k p z_ => ?_
  exact ⟨EJ.both ej_str rfl, fun z => by cases z⟩
theorem k_var  (h : ckE c (.var i) x = true) : XJ am n q F c (.var i) x := by
  refine name_any (G := XJ am n q F c (.var i)) h fun y p hh => ?_
  exact ⟨EJ.both (ej_var hh) rfl, fun z => by cases z⟩
theorem k_glob  (h : ckE c (.glob g i) x = true) : XJ am n q F c (.glob g i) x := by
  refine nameIs_any (G := XJ am n q F c (.glob g i)) (al h) fun p z_ => ?_
  exact ⟨EJ.both (ej_glob (al (ar h)) (by simpa using ar (ar h))) rfl, fun z => by cases z⟩
theorem k_bin (Ia : ∀ y, ckE c a y = true → XJ am n q F c a y) (Ib : ∀ y, ckE c b y = true → XJ am n q F c b y) (h : ckE c (.bin op a b) x = true) : XJ am n q F c (.bin op a b) x := by
  refine bin_any (G := XJ am n q F c (.bin op a b)) h fun l r p hh => ?_
  have ha := (Ia _ (al hh)).1
  have hb := (Ib _ (ar hh)).1
  refine ⟨EJ.both (ej_bin (decide_eq_true rfl) ha.1 hb.1) rfl, fun z => ?_⟩
  cases op with
  | add => exact ⟨own_add ha.1 hb.1, rfl⟩
  | _ => cases z
theorem k_neg  (h : ckE c (.neg i) x = true) : XJ am n q F c (.neg i) x := by
  refine un_any (G := XJ am n q F c (.neg i)) h fun y p hh => ?_
  refine const_any (G := fun y => XJ am n q F c (.neg i) (.UnaryOp .USub y p)) hh fun k p' z_ => ?_
  exact ⟨EJ.both ej_neg rfl, fun z => by cases z⟩
theorem k_not (Ia : ∀ y, ckE c a y = true → XJ am n q F c a y) (h : ckE c (.not a) x = true) : XJ am n q F c (.not a) x := by
  refine un_any (G := XJ am n q F c (.not a)) h fun y p hh => ?_
  have ha := (Ia _ hh).1
  exact ⟨⟨ej_not ha.1, tj_not ha.2⟩, fun z => by cases z⟩
theorem k_and (Ies : ∀ ys, ckEs c es ys = true → AllJ am n q F c es ys) (h : ckE c (.and es) x = true) : XJ am n q F c (.and es) x := by
  refine bool_any (G := XJ am n q F c (.and es)) h fun ys p hh => ?_
  have ha := Ies _ hh
  exact ⟨⟨ej_and ha, tj_and ha⟩, fun z => by cases z⟩
theorem k_or (Ies : ∀ ys, ckEs c es ys = true → AllJ am n q F c es ys) (h : ckE c (.or es) x = true) : XJ am n q F c (.or es) x := by
  refine bool_any (G := XJ am n q F c (.or es)) h fun ys p hh => ?_
  have ha := Ies _ hh
  exact ⟨⟨ej_or ha, tj_or ha⟩, fun z => by cases z⟩
theorem k_cmp {q : Bool} {c : Ck} {op : Cop} {a b : PE} {x : Expr} (Ia : ∀ y, ckE c a y = true → XJ am n q F c a y) (Ib : ∀ y, ckE c b y = true → XJ am n q F c b y) (h : ckE c (.cmp op a b) x = true) : XJ am n q F c (.cmp op a b) x := by
  refine cmp_any (G := XJ am n q F c (.cmp op a b)) h fun l os rs p hh => ?_
  refine one_any (G := fun os => XJ am n q F c (.cmp op a b) (.Compare l os rs p)) hh fun o hh => ?_
  refine one_any (G := fun rs => XJ am n q F c (.cmp op a b) (.Compare l [o] rs p)) hh fun r hh => ?_
  have ha := (Ia _ (al (ar hh))).1
  have hb := (Ib _ (al (ar (ar hh)))).1
  have hs := nt (ar (ar (ar hh)))
  exact ⟨⟨ej_cmp (al hh) hs ha.1 hb.1, tj_cmp (al hh) hs ha.1 hb.1⟩, fun z => by cases z⟩
theorem k_cmp2 {q : Bool} {c : Ck} {o1 o2 : Cop} {a b d : PE} {x : Expr} (Ia : ∀ y, ckE c a y = true → XJ am n q F c a y) (Ib : ∀ y, ckE c b y = true → XJ am n q F c b y) (Id : ∀ y, ckE c d y = true → XJ am n q F c d y) (h : ckE c (.cmp2 o1 o2 a b d) x = true) : XJ am n q F c (.cmp2 o1 o2 a b d) x := by
  refine cmp_any (G := XJ am n q F c (.cmp2 o1 o2 a b d)) h fun l os rs p hh => ?_
  refine two_any (G := fun os => XJ am n q F c (.cmp2 o1 o2 a b d) (.Compare l os rs p)) hh fun u1 u2 hh => ?_
  refine two_any (G := fun rs => XJ am n q F c (.cmp2 o1 o2 a b d) (.Compare l [u1, u2] rs p)) hh fun r1 r2 hh => ?_
  have g1 := al hh
  have hh := ar hh
  have g2 := al hh
  have hh := ar hh
  have ha := (Ia _ (al hh)).1
  have hh := ar hh
  have hb := (Ib _ (al hh)).1
  have hh := ar hh
  have hd := (Id _ (al hh)).1
  have hs := nt (ar hh)
  exact ⟨⟨ej_cmp2 g1 g2 hs ha.1 hb.1 hd.1, tj_cmp2 g1 g2 hs ha.1 hb.1 hd.1⟩, fun z => by cases z⟩
theorem k_list (Ies : ∀ ys, ckEs c es ys = true → AllJ am n q F c es ys) (h : ckE c (.list es) x = true) : XJ am n q F c (.list es) x := by
  refine list_any (G := XJ am n q F c (.list es)) h fun xs p hh => ?_
  have ha := Ies _ hh
  exact ⟨EJ.both (FJ.ej (fj_list ha)) rfl, fun z_ => ⟨FJ.own (fj_list ha), rfl⟩⟩
theorem k_tup (Ies : ∀ ys, ckEs c es ys = true → AllJ am n q F c es ys) (h : ckE c (.tup es) x = true) : XJ am n q F c (.tup es) x := by
  refine tup_any (G := XJ am n q F c (.tup es)) h fun xs k p hh => ?_
  exact ⟨EJ.both (ej_tup (Ies _ hh)) rfl, fun z => by cases z⟩
theorem k_dict0 {q : Bool} {c : Ck}  {x : Expr}  (h : ckE c (.dict0) x = true) : XJ am n q F c (.dict0) x := by
  refine dict_any (G := XJ am n q F c (.dict0)) h fun ks vs p hh => ?_
  refine emp_any (G := fun ks => XJ am n q F c .dict0 (.Dict ks vs p)) (al hh) ?_
  refine emp_any (G := fun vs => XJ am n q F c .dict0 (.Dict [] vs p)) (ar hh) ?_
  exact ⟨EJ.both ej_dict0 rfl, fun z => by cases z⟩
theorem k_idx (Ia : ∀ y, ckE c a y = true → XJ am n q F c a y) (Ii : ∀ y, ckE c i y = true → XJ am n q F c i y) (h : ckE c (.idx a i) x = true) : XJ am n q F c (.idx a i) x := by
  refine sub_any (G := XJ am n q F c (.idx a i)) h fun v s p hh => ?_
  exact ⟨EJ.both (ej_idx (Ia _ (al hh)).1.1 (Ii _ (ar hh)).1.1) rfl, fun z => by cases z⟩
theorem k_slice {q : Bool} {c : Ck} {a : PE} {lo hi : Option PE} {x : Expr} (Ia : ∀ y, ckE c a y = true → XJ am n q F c a y) (Ilo : ∀ y, ckO c lo y = true → OptJ am n q F c lo y) (Ihi : ∀ y, ckO c hi y = true → OptJ am n q F c hi y) (h : ckE c (.slice a lo hi) x = true) : XJ am n q F c (.slice a lo hi) x := by
  refine sub_any (G := XJ am n q F c (.slice a lo hi)) h fun v s p hh => ?_
  refine slice_any (G := fun s => XJ am n q F c (.slice a lo hi) (.Subscript v s p)) hh fun l u d p' hh => ?_
  refine none_any (G := fun d => XJ am n q F c (.slice a lo hi) (.Subscript v (.Slice l u d p') p)) (al hh) ?_
  have ha := (Ia _ (al (ar hh))).1
  have hl := Ilo _ (al (ar (ar hh)))
  have hu := Ihi _ (ar (ar (ar hh)))
  exact ⟨EJ.both (FJ.ej (fj_slice ha.1 hl hu)) rfl, fun z_ => ⟨FJ.own (fj_slice ha.1 hl hu), rfl⟩⟩
theorem k_isinst {q : Bool} {c : Ck} {a : PE} {ts : List Ty} {x : Expr} (Ia : ∀ y, ckE c a y = true → XJ am n q F c a y) (h : ckE c (.isinst a ts) x = true) : XJ am n q F c (.isinst a ts) x := by
  refine named_any (G := XJ am n q F c (.isinst a ts)) h fun xs p p' hh => ?_
  refine two_any (G := fun xs => XJ am n q F c (.isinst a ts) (.Call (.Name "isinstance" p) xs [] p')) hh fun y t hh => ?_
  have h1 := al hh
  have h2 := al (ar hh)
  have ha := (Ia _ h2).1
  have h3 := al (ar (ar hh))
  refine ⟨EJ.both ?_ rfl, fun z => by cases z⟩
  rcases (Bool.or_eq_true _ _).mp (ar (ar (ar hh))) with h4 | h4
  · refine tup_any (G := fun t => EJ am n q F c (.isinst a ts) (.Call (.Name "isinstance" p) [y, t] [] p')) h4 fun es k p2 h4 => ?_
    exact ej_isinst2 h1 h3 (al h4) (of_decide_eq_true (al (ar h4))) (of_decide_eq_true (ar (ar h4))) (ck_isStar h2) ha.1
  · refine one_any (G := fun ts => ts.all tyPl = true → EJ am n q F c (.isinst a ts) (.Call (.Name "isinstance" p) [y, t] [] p')) h4 (fun u h4 h3 => ?_) h3
    exact ej_isinst h1 (al h3) h4 (ck_isStar h2) ha.1
theorem k_isexc {q : Bool} {c : Ck} {i : Nat} {t : Ty} {x : Expr}  (h : ckE c (.isexc i t) x = true) : XJ am n q F c (.isexc i t) x := by
  refine named_any (G := XJ am n q F c (.isexc i t)) h fun xs p p' hh => ?_
  refine two_any (G := fun xs => XJ am n q F c (.isexc i t) (.Call (.Name "isinstance" p) xs [] p')) hh fun y t' hh => ?_
  refine name_any (G := fun y => XJ am n q F c (.isexc i t) (.Call (.Name "isinstance" p) [y, t'] [] p')) (al (ar hh)) fun z p2 h2 => ?_
  exact ⟨EJ.both (ej_isexc (al hh) h2 (ar (ar hh))) rfl, fun z => by cases z⟩
theorem k_callX {q : Bool} {c : Ck} {f : String} {i : Nat} {x : Expr}  (h : ckE c (.callX f i) x = true) : XJ am n q F c (.callX f i) x := by
  refine named_any (G := XJ am n q F c (.callX f i)) h fun xs p p' hh => ?_
  refine one_any (G := fun xs => XJ am n q F c (.callX f i) (.Call (.Name (Str.ofString f) p) xs [] p')) hh fun y hh => ?_
  refine name_any (G := fun y => XJ am n q F c (.callX f i) (.Call (.Name (Str.ofString f) p) [y] [] p')) (ar (ar hh)) fun z p2 h3 => ?_
  exact ⟨EJ.both (ej_callX (al hh) (List.contains_iff_mem.mp (al (ar hh))) h3) rfl, fun z => by cases z⟩
theorem k_bf {q : Bool} {c : Ck} {f : Bf} {a : PE} {x : Expr} (Ia : ∀ y, ckE c a y = true → XJ am n q F c a y) (h : ckE c (.bf f a) x = true) : XJ am n q F c (.bf f a) x := by
  refine named_any (G := XJ am n q F c (.bf f a)) h fun xs p p' hh => ?_
  refine one_any (G := fun xs => XJ am n q F c (.bf f a) (.Call (.Name (bfName f) p) xs [] p')) hh fun y hh => ?_
  have h1 := al hh
  have h2 := ar hh
  by_cases hr : f = .listRev
  · subst hr
    cases h2
  · have h2' : ckE c a y = true := by cases f <;> first | exact h2 | (exact absurd rfl hr) | (cases h2)
    have ha := (Ia _ h2').1
    refine ⟨EJ.both (ej_bf hr h1 (ck_isStar h2') ha.1) rfl, fun z => ?_⟩
    rcases fresh_bf z with hf | hf
    · subst hf
      exact ⟨FJ.own (fj_bflist h1 (ck_isStar h2') ha.1), rfl⟩
    · exact (hr hf).elim
theorem k_comp {q : Bool} {c : Ck} {elt : PE} {i : Nat} {it : PIt} {cond : Option PE} {x : Expr} (Ielt : ∀ c y, ckE c elt y = true → XJ am n true F c elt y) (Iit : ∀ y, ckIt c it y = true → ItJ am n F c it y) (Icond : ∀ c ys, ckC c cond ys = true → CJ am n F c cond ys) (h : ckE c (.comp elt i it cond) x = true) : XJ am n q F c (.comp elt i it cond) x := by
  refine lc_any (G := XJ am n q F c (.comp elt i it cond)) h fun e gs sc p hh => ?_
  refine gen_any (G := fun gs => XJ am n q F c (.comp elt i it cond) (.ListComp e gs sc p)) hh fun y iter ifs p' hh => ?_
  have f : FJ am n q F c (.comp elt i it cond) (.ListComp e [⟨.Name y p', iter, ifs, 0⟩] sc p) := fun {cx ρ A res π Hc s} => by
    have h1 := al hh
    have hh := ar hh
    have h2 := nt (al hh)
    have hh := ar hh
    have h3 := al hh
    have hh := ar hh
    have h4 := al hh
    have hh := ar hh
    exact fj_comp (q := q) h2 h3 h4 (fun z_ => Iit _ h1) (fun z_ => (Ielt _ _ (al hh)).1.1) (fun z_ => Icond _ _ (ar hh))
  exact ⟨EJ.both (FJ.ej (fun {cx ρ A res π Hc s} => f)) rfl, fun z_ => ⟨FJ.own (fun {cx ρ A res π Hc s} => f), rfl⟩⟩
theorem k_call (Iargs : ∀ ys, ckEs c args ys = true → AllJ am n q F c args ys) (h : ckE c (.call k f args) x = true) : XJ am n q F c (.call k f args) x := by
  refine named_any (G := XJ am n q F c (.call k f args)) h fun xs p p' hh => ?_
  have ha := Iargs _ (al (ar (ar hh)))
  cases xs with
  | nil => cases args with
    | nil => exact noB (ar (ar (ar hh)))
    | cons _ _ => exact ha.elim
  | cons y ys => exact ⟨EJ.both (ej_call (al hh) (List.contains_iff_mem.mp (al (ar hh))) ha) rfl, fun z => by cases z⟩
theorem k_append {q : Bool} {c : Ck} {o a : PE} {x : Expr} (Io : ∀ y, ckE c o y = true → XJ am n q F c o y) (Ia : ∀ y, ckE c a y = true → XJ am n q F c a y) (h : ckE c (.append o a) x = true) : XJ am n q F c (.append o a) x := by
  refine meth_any (G := XJ am n q F c (.append o a)) h fun v xs p p' h2 hh => ?_
  refine one_any (G := fun xs => XJ am n q F c (.append o a) (.Call (.Attribute v "append" p) xs [] p')) hh fun y hh => ?_
  exact ⟨EJ.both (ej_append (al hh) h2 (nt (ar (ar (ar hh)))) (Io _ (al (ar hh))).1.1 (Ia _ (al (ar (ar hh)))).1.1) rfl, fun z => by cases z⟩
theorem k_clear {q : Bool} {c : Ck} {o : PE} {x : Expr} (Io : ∀ y, ckE c o y = true → XJ am n q F c o y) (h : ckE c (.clear o) x = true) : XJ am n q F c (.clear o) x := by
  refine meth_any (G := XJ am n q F c (.clear o)) h fun v xs p p' h2 hh => ?_
  refine emp_any (G := fun xs => XJ am n q F c (.clear o) (.Call (.Attribute v "clear" p) xs [] p')) (ar (ar hh)) ?_
  exact ⟨EJ.both (ej_clear (al hh) h2 (Io _ (al (ar hh))).1.1) rfl, fun z => by cases z⟩
theorem k_newDict {q : Bool} {c : Ck} {es : List (PE × PE)} {x : Expr} (h : ckE c (.newDict es) x = true) : XJ am n q F c (.newDict es) x := by
  refine dict_any (G := XJ am n q F c (.newDict es)) h fun ks vs p hh => ?_
  refine emp_any (G := fun ks => XJ am n q F c (.newDict es) (.Dict ks vs p)) (al hh) ?_
  refine emp_any (G := fun vs => XJ am n q F c (.newDict es) (.Dict [] vs p)) (al (ar hh)) ?_
  refine emp_any (G := fun es => XJ am n q F c (.newDict es) (.Dict [] [] p)) (ar (ar hh)) ?_
  exact ⟨EJ.both ej_newDict rfl, fun z => by cases z⟩
mutual
theorem ckE_ok (q : Bool) : ∀ (c : Ck) (e : PE) (x : Expr), ckE c e x = true → XJ am n q F c e x
  | c, .none, x, h => k_none  h
  | c, .bool b, x, h => k_bool  h
  | c, .int i, x, h => k_int  h
  | c, .str t, x, h => k_str  h
  | c, .var i, x, h => k_var  h
  | c, .glob g i, x, h => k_glob  h
  | c, .bin op a b, x, h => k_bin (ckE_ok q c a) (ckE_ok q c b) h
  | c, .neg i, x, h => k_neg  h
  | c, .not a, x, h => k_not (ckE_ok q c a) h
  | c, .and es, x, h => k_and (ckEs_ok q c es) h
  | c, .or es, x, h => k_or (ckEs_ok q c es) h
  | c, .ite .., x, h => by cases h
  | c, .cmp op a b, x, h => k_cmp (ckE_ok q c a) (ckE_ok q c b) h
  | c, .cmp2 o1 o2 a b d, x, h => k_cmp2 (ckE_ok q c a) (ckE_ok q c b) (ckE_ok q c d) h
  | c, .list es, x, h => k_list (ckEs_ok q c es) h
  | c, .tup es, x, h => k_tup (ckEs_ok q c es) h
  | c, .dict0, x, h => k_dict0  h
  | c, .idx a i, x, h => k_idx (ckE_ok q c a) (ckE_ok q c i) h
  | c, .slice a lo hi, x, h => k_slice (ckE_ok q c a) (ckO_ok q c lo) (ckO_ok q c hi) h
  | c, .rev a, x, h => by cases h
  | c, .isinst a ts, x, h => k_isinst (ckE_ok q c a) h
  | c, .isexc i t, x, h => k_isexc  h
  | c, .callX f i, x, h => k_callX  h
  | c, .bf f a, x, h => k_bf (ckE_ok q c a) h
  | c, .join0 .., x, h => by cases h
  | c, .comp elt i it cond, x, h => k_comp (fun c => ckE_ok true c elt) (ckIt_ok c it) (fun c => ckC_ok c cond) h
  | c, .call k f args, x, h => k_call (ckEs_ok q c args) h
  | c, .own a, x, h => by
    obtain ⟨h0, h⟩ := Bool.and_eq_true_iff.mp h
    obtain ⟨h1, h2⟩ := (ckE_ok q c a x h).2 h0
    exact ⟨h1.both h2, fun z => by cases z⟩
  | c, .newDict es, x, h => k_newDict h
  | c, .append o a, x, h => k_append (ckE_ok q c o) (ckE_ok q c a) h
  | c, .extend .., x, h => by cases h
  | c, .clear o, x, h => k_clear (ckE_ok q c o) h
  | c, .remove .., x, h => by cases h
  | c, .pop .., x, h => by cases h
  | c, .popAt .., x, h => by cases h
  | c, .get .., x, h => by cases h
  | c, .setdef .., x, h => by cases h
  | c, .setdefL .., x, h => by cases h
theorem ckEs_ok (q : Bool) : ∀ (c : Ck) (es : List PE) (xs : List Expr), ckEs c es xs = true → AllJ am n q F c es xs
  | c, [], xs, h => emp_any (G := fun xs => AllJ am n q F c [] xs) h trivial
  | c, e :: es, xs, h => by
    cases xs with
    | nil => cases h
    | cons x xs =>
      have h : (!isStar x && (ckE c e x && ckEs c es xs)) = true := h
      exact ⟨⟨nt (al h), (ckE_ok q c e x (al (ar h))).1⟩, ckEs_ok q c es xs (ar (ar h))⟩
theorem ckO_ok (q : Bool) : ∀ (c : Ck) (e : Option PE) (x : Option Expr), ckO c e x = true → OptJ am n q F c e x
  | c, none, x, h => none_any (G := fun x => OptJ am n q F c none x) h trivial
  | c, some e, x, h => oneO_any (G := fun x => OptJ am n q F c (some e) x) h fun x h => show EJ am n q F c e x from fun {cx ρ A res π Hc s} => (ckE_ok q c e x h).1.1
theorem ckC_ok : ∀ (c : Ck) (e : Option PE) (xs : List Expr), ckC c e xs = true → CJ am n F c e xs
  | c, none, xs, h => emp_any (G := fun xs => CJ am n F c none xs) h cj_none
  | c, some e, xs, h => one_any (G := fun xs => CJ am n F c (some e) xs) h fun y h => cj_some (ckE_ok true c e _ h).1.2
theorem ckIt_ok : ∀ (c : Ck) (it : PIt) (x : Expr), ckIt c it x = true → ItJ am n F c it x
  | c, .seq e, x, h => by
    have hp := (ckE_ok true c e _ h).1
    exact it_seq hp.1
  | c, .range1 a, x, h => by
    refine named_any (G := ItJ am n F c (.range1 a)) h fun xs p p' hh => ?_
    refine one_any (G := fun xs => ItJ am n F c (.range1 a) (.Call (.Name "range" p) xs [] p')) hh fun y hh => ?_
    have hp := (ckE_ok true c a _ (ar hh)).1
    exact fun {cx ρ A res π Hc s} => it_range1 (al hh) (ck_isStar (ar hh)) hp.1
  | c, .range2 .., x, h => by cases h
  | c, .range3 a b d, x, h => by
    refine named_any (G := ItJ am n F c (.range3 a b d)) h fun xs p p' hh => ?_
    refine three_any (G := fun xs => ItJ am n F c (.range3 a b d) (.Call (.Name "range" p) xs [] p')) hh fun y z w hh => ?_
    have ha := (ckE_ok true c a _ (al (ar hh))).1
    have hb := (ckE_ok true c b _ (al (ar (ar hh)))).1
    have hd := (ckE_ok true c d _ (ar (ar (ar hh)))).1
    have hs : ∀ e ∈ [y, z, w], isStar e = false := List.forall_mem_cons.mpr ⟨ck_isStar (al (ar hh)), List.forall_mem_cons.mpr ⟨ck_isStar (al (ar (ar hh))), List.forall_mem_cons.mpr ⟨ck_isStar (ar (ar (ar hh))), fun z_ h => by cases h⟩⟩⟩
    exact fun {cx ρ A res π Hc s} => it_range3 (al hh) hs ha.1 hb.1 hd.1
  | c, .enum .., x, h => by cases h
end
end
theorem wp_gen {M : Model} {A : Around} {α : Type} {t : Sem α} {Q : α → Shared → Prop} {E : Value → Shared → Prop} {s : Shared} (h : ∀ (Q' : α → Shared → Prop) (E' : Value → Shared → Prop), (∀ a s, Q a s → Q' a s) → (∀ y s, E y s → E' y s) → wpAny M A t Q' E' s) : wpAny M A t Q E s := h Q E (fun z_ z_ h => h) fun z_ z_ h => h
structure Frm (am : Amb) (cx : Cx) (outer : List Env) (s₀ : Shared) : Prop where
  top : cx.stack = cx.env :: outer ∧ cx.env.frame = some cx.env.locals
  res : cx.env.locals ∈ am.res
  base : am.B.get? cx.env.locals = none
  fresh : s₀.heap.get? cx.env.locals = none
  cell : ∀ y c, cx.env.cells.lookup y = some c → c ∈ am.res ∧ am.B.get? c = none ∧ s₀.heap.get? c = none
theorem Frm.fs (f : Frm am cx outer s₀) : Fs cx.stack = cx.env.locals :: Fs outer := by
  obtain ⟨h1, h2⟩ := f.top
  rw [h1]; simp [Fs, h2]
theorem Step.inn (f : Frm am cx outer s₀) (x : Step (Fs outer) π₀ s₀ π s) (y : Step (Fs cx.stack) π s π' s') : Step (Fs outer) π₀ s₀ π' s' := by
  rw [f.fs] at y
  refine ⟨?_, ⟨fun a o e h1 h2 => ?_, fun a o e h1 => ?_, fun a o e => ?_⟩, ?_⟩
  · obtain ⟨h', tk, e⟩ := x.same
    obtain ⟨h'', tk', e'⟩ := y.same
    exact ⟨h'', tk', by rw [e', e]⟩
  · refine y.ext.keep a o (x.ext.keep a o e h1 h2) (x.notin e h1) ?_
    rw [List.mem_cons, not_or]
    exact ⟨(fun q => by subst q; rw [f.fresh] at e; cases e), h2⟩
  · obtain ⟨sl, h3⟩ := x.ext.slots a o e h1
    obtain ⟨sl', h4⟩ := y.ext.slots a _ h3 (x.notin e h1)
    exact ⟨sl', h4⟩
  · obtain ⟨o', h3⟩ := x.ext.alive a o e
    exact y.ext.alive a o' h3
  · obtain ⟨δ, rfl, hδ⟩ := x.grow
    obtain ⟨δ', rfl, hδ'⟩ := y.grow
    refine ⟨δ ++ δ', by simp, fun a ha => ?_⟩
    rcases List.mem_append.mp ha with h1 | h1
    · exact hδ a h1
    · cases hq : s₀.heap.get? a with
      | none => rfl
      | some o =>
        obtain ⟨o', h3⟩ := x.ext.alive a o hq
        have := hδ' a h1; rw [h3] at this; cases this
theorem ground_in (f : Frm am cx outer s₀) (x : Step (Fs outer) π₀ s₀ π s) : (ground outer π₀ s₀.heap).StaysIn (ground cx.stack π s.heap) := by
  intro b o e
  have h1 := of_hideAll _ e
  have hn : b ∉ π₀ ++ Fs outer := fun hm => by rw [hideAll_none _ hm] at e; cases e
  rw [List.mem_append, not_or] at hn
  refine hideAll_get _ (x.ext.keep b o h1 hn.1 hn.2) ?_
  rw [List.mem_append, not_or, f.fs, List.mem_cons, not_or]
  exact ⟨x.notin h1 hn.1, (fun q => by subst q; rw [f.fresh] at h1; cases h1), hn.2⟩
noncomputable def FlR (am : Amb) (π : List Addr) (h : Heap) : Fl → Flow → Prop
  | .next, f => f = .next
  | .ret v, f => ∃ x, f = .ret x ∧ VR am π h v x
inductive SOk (am : Amb) (cx : Cx) (outer : List Env) (q : Bool) (A : Around) (π₀ : List Addr) (s₀ : Shared) (G : List Addr → Shared → Prop) (r : RS) (f : Flow) (s' : Shared) : Prop
  | mk (fl : Fl) (ρ' : List V) (H' : H) (π' : List Addr) (h1 : r = .ok fl ρ' H') (h2 : Step (Fs outer) π₀ s₀ π' s') (h3 : St am q cx ρ' π' H' A s') (h4 : q = true → NoExc ρ') (h5 : FlR am π' s'.heap fl f) (h6 : G π' s')
inductive SEr (am : Amb) (cx : Cx) (outer : List Env) (q : Bool) (A : Around) (π₀ : List Addr) (s₀ : Shared) (r : RS) (x : Value) (s' : Shared) : Prop
  | mk (c : String) (ρ' : List V) (H' : H) (π' : List Addr) (e C : Addr) (fl : Option Value) (h1 : r = .err c ρ' H') (h2 : x = .ref e) (h3 : am.mg (Str.ofString c) = some (.ref C)) (h4 : Step (Fs outer) π₀ s₀ π' s') (h5 : St am q cx ρ' π' H' A s') (h6 : q = true → NoExc ρ') (h7 : XAt (ground outer π₀ s₀.heap) s'.heap e (.ref C) fl)
noncomputable def SP (am : Amb) (cx : Cx) (outer : List Env) (q : Bool) (A : Around) (π₀ : List Addr) (s₀ : Shared) (G : List Addr → Shared → Prop) (T : PT Flow) (r : RS) (s : Shared) : Prop :=
  r = .bad ∨ T (SOk am cx outer q A π₀ s₀ G r) (SEr am cx outer q A π₀ s₀ r) s
section
variable {am : Amb} {n : Nat} {q : Bool} {F : Fn} {c : Ck} {cx : Cx} {ρ : List V} {A : Around} {res : List Addr} {outer : List Env} {π₀ : List Addr} {s₀ : Shared} {G : List Addr → Shared → Prop} {π : List Addr} {Hc : H} {s : Shared}
structure Stm (am : Amb) (n : Nat) (q : Bool) (F : Fn) (c : Ck) (cx : Cx) (A : Around) (res : List Addr) (outer : List Env) (π₀ : List Addr) (s₀ : Shared) (G : List Addr → Shared → Prop) (ρ : List V) (π : List Addr) (Hc : H) (s : Shared) : Prop where
  b : Base am n q F c cx ρ A
  f : Frm (am.at res) cx outer s₀
  go : Step (Fs outer) π₀ s₀ π s
  st : St (am.at res) q cx ρ π Hc A s
  low : am.B.StaysIn (ground outer π₀ s₀.heap)
  g : G π s
  gk : ∀ π s π' s', G π s → Mv res (Fs cx.stack) π s π' s' → G π' s'
theorem Base.set (b : Base am n q F c cx ρ A) (h : q = true → NoExc ρ') : Base am n q F c cx ρ' A := ⟨b.ok, b.fn, b.ck, b.cxk, b.as, h⟩
theorem Stm.step (x : Stm am n q F c cx A res outer π₀ s₀ G ρ π Hc s) (y : Step (Fs cx.stack) π s π' s') (hr : HR (am.at res) cx.stack π' H' s'.heap) : Stm am n q F c cx A res outer π₀ s₀ G ρ π' H' s' :=
  ⟨x.b, x.f, x.go.inn x.f y, x.st.step y hr, x.low, x.gk _ _ _ _ x.g (.of y), x.gk⟩
theorem sbindT {α β : Type} {T0 : PT α} (hT0 : PT.Mono T0) {r : R β} {Rel : List Addr → Heap → β → α → Prop} {g : β → H → RS} {T : α → PT Flow} (x : Stm am n q F c cx A res outer π₀ s₀ G ρ π Hc s) (h1 : JT (am.at res) cx.stack T0 r Rel π s)
    (h2 : ∀ a b H' π' s', r = .ok b H' → Stm am n q F c cx A res outer π₀ s₀ G ρ π' H' s' → Rel π' s'.heap b a → SP (am.at res) cx outer q A π₀ s₀ G (T a) (g b H') s') :
    SP (am.at res) cx outer q A π₀ s₀ G (fun Q E s => T0 (fun a s₁ => T a Q E s₁) E s) (r.st ρ g) s := by
  rcases h1 with rfl | h1
  · exact .inl rfl
  · cases r with
    | bad => exact .inl rfl
    | err d H' =>
      refine .inr (hT0 _ _ _ _ _ (fun a s' h => ?_) (fun e s' h => ?_) h1)
      · obtain ⟨_, _, _, h, _⟩ := h; cases h
      · refine hold fun z_ k_ => ?_
        obtain ⟨c', H'', π', e', C, fl, h, h2, h3, h4, h5, h6⟩ := h
        refine k_ ?_
        cases h
        have y := x.step h4 h5
        exact ⟨d, ρ, H', π', e', C, fl, rfl, h2, h3, y.go, y.st, x.b.ne, h6.mono (ground_in x.f x.go)⟩
    | ok b H' =>
      by_cases hb : g b H' = .bad
      · exact .inl hb
      · refine .inr (hT0 _ _ _ _ _ (fun a s' h => ?_) (fun e s' h => ?_) h1)
        · refine hold fun z_ k_ => ?_
          obtain ⟨b', H'', π', h, h3, h4, h5⟩ := h
          refine k_ ?_
          cases h
          rcases h2 a b H' π' s' rfl (x.step h3 h4) h5 with h6 | h6
          · exact absurd h6 hb
          · exact h6
        · obtain ⟨_, _, _, _, _, _, h, _⟩ := h; cases h
theorem sbind {α β : Type} {m : Sem α} {r : R β} {Rel : List Addr → Heap → β → α → Prop} {g : β → H → RS} {T : α → PT Flow} (x : Stm am n q F c cx A res outer π₀ s₀ G ρ π Hc s) (h1 : JAt (am.at res) cx.stack A m r Rel π s)
    (h2 : ∀ a b H' π' s', r = .ok b H' → Stm am n q F c cx A res outer π₀ s₀ G ρ π' H' s' → Rel π' s'.heap b a → SP (am.at res) cx outer q A π₀ s₀ G (T a) (g b H') s') :
    SP (am.at res) cx outer q A π₀ s₀ G (fun Q E s => wpAny am.M A m (fun a s₁ => T a Q E s₁) E s) (r.st ρ g) s :=
  sbindT (PT.wp _ _) x h1 h2
theorem SP.rule (h : SP am cx outer q A π₀ s₀ G T r s) (k : ∀ Q E, T Q E s → T' Q E s) : SP am cx outer q A π₀ s₀ G T' r s := by
  rcases h with h | h
  · exact .inl h
  · exact .inr (k _ _ h)
set_option tactic.hygienic true in
theorem assign_ok (x : Stm am n q F c cx A res outer π₀ s₀ G ρ π Hc s) {y : Str} {i : Nat} {v : V} {xv : Value} (hv : VR (am.at res) π s.heap v xv) (hy : c.var y i = true) (hk : c.names.lookup y ≠ some .free) (hinj : (c.ctx.map (·.2)).Nodup) {Q : Unit → Shared → Prop} {E : Value → Shared → Prop}
    (h : ∀ s', Stm am n q F c cx A res outer π₀ s₀ G (ρ.set i v) π Hc s' → (∀ C, s₀.heap.get? C = none → C ≠ cx.env.locals → (∀ z d, cx.env.cells.lookup z = some d → d ≠ C) → ∀ o, s.heap.get? C = some o → s'.heap.get? C = some o) → (∀ b o, b ∉ (am.at res).res → s.heap.get? b = some o → s'.heap.get? b = some o) → Q () s') :
    wpAny am.M A (storeName cx.env y xv) Q E s := by
  unfold Ck.var at hy
  simp only [Bool.and_eq_true, beq_iff_eq, Bool.not_eq_true'] at hy
  refine hold fun z_ k_ => ?_
  obtain ⟨⟨⟨h1, h2⟩, h3⟩, h4⟩ := hy
  refine k_ ?_
  have ne' : q = true → NoExc (ρ.set i v) := fun hq => (x.b.ne hq).set hv.noexc
  have uniq : ∀ z, cx.ctx.lookup z = some i → z = y := by
    intro z hz
    rw [x.b.ck.ctx] at hz
    have a1 := lookup_mem hz
    have a2 := lookup_mem h1
    have : ∀ (l : List (Str × Nat)), (l.map (·.2)).Nodup → (z, i) ∈ l → (y, i) ∈ l → z = y := by
      intro l
      induction l with
      | nil => intro _ h _; simp at h
      | cons p l ih =>
        intro hn hz hy
        rw [List.map_cons, List.nodup_cons] at hn
        rcases List.mem_cons.mp hz with hz1 | hz2
        · rcases List.mem_cons.mp hy with hy1 | hy2
          · rw [← hz1] at hy1; cases hy1; rfl
          · exact absurd (List.mem_map.mpr ⟨(y, i), hy2, by rw [← hz1]⟩ : p.2 ∈ l.map (·.2)) hn.1
        · rcases List.mem_cons.mp hy with hy1 | hy2
          · exact absurd (List.mem_map.mpr ⟨(z, i), hz2, by rw [← hy1]⟩ : p.2 ∈ l.map (·.2)) hn.1
          · exact ih hn.2 hz2 hy2
    exact this _ hinj a1 a2
  have excOff : ∀ {d : String} {a C : Addr} {h' : Heap}, ExcAt (am.at res) s.heap d a → (∃ o, s.heap.get? C = some o ∧ ∀ us, o.data ≠ .fields us) → Poke C s.heap h' → ExcAt (am.at res) h' d a := by
    intro d a C h' e hC p
    refine hold fun z_ k_ => ?_
    obtain ⟨C', o, vs, e1, e2, e3, e4, e5, e6⟩ := e
    refine k_ ?_
    exact ⟨C', o, vs, e1, p a o (fun q => (ne_nf hC e2 e4) q.symm) e2, e3, e4, e5, e6⟩
  have hdOff : ∀ {C : Addr} {h' : Heap}, (∃ o, s.heap.get? C = some o ∧ ∀ us, o.data ≠ .fields us) → Poke C s.heap h' → Hd q A π (Fs cx.stack) h' := by
    intro C h' hC p
    have e := x.st.hd
    unfold Hd at e ⊢
    split
    · rename_i hq; rw [if_pos hq] at e; exact e
    · rename_i hq
      rw [if_neg hq] at e
      refine hold fun z_ k_ => ?_
      obtain ⟨he, o, vs, e1, e2, e3, e4, e5, e6⟩ := e
      refine k_ ?_
      exact ⟨he, o, vs, e1, e2, e3, p he o (fun q => (ne_nf hC e4 e5) q.symm) e4, e5, e6⟩
  have main : ∀ (C : Addr) (h' : Heap) (tk : Nat), C ∈ (am.at res).res → (am.at res).B.get? C = none → C ∉ π → s₀.heap.get? C = none → (∃ o, s.heap.get? C = some o ∧ ∀ us, o.data ≠ .fields us) → (∃ o, h'.get? C = some o ∧ ∀ us, o.data ≠ .fields us) → Poke C s.heap h' →
      ER (am.at res) cx (ρ.set i v) π h' → Stm am n q F c cx A res outer π₀ s₀ G (ρ.set i v) π Hc { s with heap := h', toks := tk } := by
    intro C h' tk c1 c2 c3 c4 c5 c6 p er
    exact ⟨x.b.set ne', x.f, x.go.poke c4 p, ⟨x.st.hr.freed c1 c2 c3 p c6, er, hdOff c5 p⟩, x.low, x.gk _ _ _ _ x.g (Mv.poke (.of (Step.refl _ _ _)) (.inl ⟨c1, let ⟨o, ho, _⟩ := c6; ⟨o, ho⟩⟩) p), x.gk⟩
  have srOff : ∀ {C : Addr} {h' : Heap} {w : V} {u : Value}, C ∈ (am.at res).res → (∃ o, s.heap.get? C = some o ∧ ∀ us, o.data ≠ .fields us) → Poke C s.heap h' → SR (am.at res) π s.heap w u → SR (am.at res) π h' w u := by
    intro C h' w u c1 c5 p e
    rcases e with e | ⟨d, a, e1, e2, e3, e4⟩
    · exact .inl (e.free fun b o hb z => p b o (fun q => hb (q ▸ c1)) z)
    · exact .inr ⟨d, a, e1, e2, e3, excOff e4 c5 p⟩
  have hvis : cx.env.kindOf y = some .local ∨ cx.env.kindOf y = some .cell := by
    rw [kind_is x.b.ck]
    unfold visible at h2
    simp only [Bool.or_eq_true, beq_iff_eq] at h2
    rcases h2 with (h2 | h2) | h2
    · exact .inl h2
    · exact .inr h2
    · exact absurd h2 hk
  have hlt : ∀ w, (ρ.set i v)[i]? = some w → w = v := fun w hw => by
    have hl : i < ρ.length := by have := (List.getElem?_eq_some_iff.mp hw).1; simpa using this
    rw [List.getElem?_set_self hl] at hw; cases hw; rfl
  have er := x.st.er
  rcases hvis with hkl | hkc
  · obtain ⟨m, hm⟩ := er.ns
    refine wpAny_storeName_local hkl hm (fun h' hn' sb => ?_) (by simp [x.b.cxk.kind])
    have p : Poke cx.env.locals s.heap h' := fun b o hb e => sb.extBut b o hb e
    refine h _ (main cx.env.locals h' (s.toks + 1) x.f.res x.f.base er.locOff x.f.fresh (Ns.nf hm) (Ns.nf hn') p ?_) (fun C z_ hC z_ o ho => p C o hC ho) (fun b o hb e => p b o (fun q => hb (q ▸ x.f.res)) e)
    refine ⟨⟨_, hn'⟩, er.locOff, fun z d hd => ?_, er.apart, fun z j w e1 e2 e3 e4 => ?_⟩
    · refine hold fun z_ k_ => ?_
      obtain ⟨a1, a2, u, o, ho, r⟩ := er.cellOff z d hd
      refine k_ ?_
      exact ⟨a1, a2, u, o, p d o a2 ho, r⟩
    · by_cases hj : j = i
      · subst hj
        have := uniq z e1; subst this
        have := hlt w e2; subst this
        exact ⟨xv, .inl ⟨hkl, _, hn', by simp⟩, .inl (hv.free fun b o hb z => p b o (fun q => hb (q ▸ x.f.res)) z)⟩
      · have hz : z ≠ y := fun q => by
          subst q; rw [x.b.ck.ctx, h1] at e1; cases e1; exact hj rfl
        rw [List.getElem?_set_ne (Ne.symm hj)] at e2
        obtain ⟨u, e5, e6⟩ := er.var z j w e1 e2 e3 e4
        refine ⟨u, ?_, srOff x.f.res (Ns.nf hm) p e6⟩
        rcases e5 with ⟨k, m', e7, e8⟩ | ⟨k, d, e7, o, ho, r⟩
        · refine .inl ⟨k, _, hn', ?_⟩
          have hmm : m z = m' z := by
            refine hold fun z_ k_ => ?_
            obtain ⟨o1, es1, ep1, a1, a2, a3, a4⟩ := hm
            refine k_ ?_
            refine hold fun z_ k_ => ?_
            obtain ⟨o2, es2, ep2, b1, b2, b3, b4⟩ := e7
            refine k_ ?_
            rw [a1] at b1; cases b1; rw [a2] at b2; cases b2
            rw [← a4 z, ← b4 z]
          simp only [hz, if_false]
          rw [hmm]; exact e8
        · exact .inr ⟨k, d, e7, o, p d o (er.cellOff z d e7).2.1 ho, r⟩
  · obtain ⟨d, hd⟩ := x.b.cxk.clos y (.inl hkc)
    refine hold fun z_ k_ => ?_
    obtain ⟨a1, a2, u, hcell⟩ := er.cellOff y d hd
    refine k_ ?_
    obtain ⟨f1, f2, f3⟩ := x.f.cell y d hd
    have nfc : ∀ {h : Heap} {u : Option Value}, h.IsCell d u → ∃ o, h.get? d = some o ∧ ∀ us, o.data ≠ .fields us := fun {h u} hc => let ⟨o, ho, hdd⟩ := hc; ⟨o, ho, fun us q => by rw [hdd] at q; cases q⟩
    refine wpAny_storeName_cell x.b.cxk.kind hkc hd hcell fun h' hc' sb => ?_
    have p : Poke d s.heap h' := fun b o hb e => sb.extBut b o hb e
    refine h _ (main d h' s.toks f1 f2 a1 f3 (nfc hcell) (nfc hc') p ?_) (fun C z_ z_ hC o ho => p C o (fun q => hC y d hd q.symm) ho) (fun b o hb e => p b o (fun q => hb (q ▸ f1)) e)
    obtain ⟨m, hm⟩ := er.ns
    refine ⟨⟨m, Ns.at hm fun o e => p _ o (Ne.symm a2) e⟩, er.locOff, fun z d' hd' => ?_, er.apart, fun z j w e1 e2 e3 e4 => ?_⟩
    · refine hold fun z_ k_ => ?_
      obtain ⟨b1, b2, u', o, ho, r⟩ := er.cellOff z d' hd'
      refine k_ ?_
      by_cases hdd : d' = d
      · subst hdd; exact ⟨b1, b2, _, hc'⟩
      · exact ⟨b1, b2, u', o, p d' o hdd ho, r⟩
    · by_cases hj : j = i
      · subst hj
        have := uniq z e1; subst this
        have := hlt w e2; subst this
        exact ⟨xv, .inr ⟨.inl hkc, d, hd, hc'⟩, .inl (hv.free fun b o hb z => p b o (fun q => hb (q ▸ f1)) z)⟩
      · have hz : z ≠ y := fun q => by
          subst q; rw [x.b.ck.ctx, h1] at e1; cases e1; exact hj rfl
        rw [List.getElem?_set_ne (Ne.symm hj)] at e2
        obtain ⟨u', e5, e6⟩ := er.var z j w e1 e2 e3 e4
        refine ⟨u', ?_, srOff f1 (nfc hcell) p e6⟩
        rcases e5 with ⟨k, m', e7, e8⟩ | ⟨k, d', e7, o, ho, r⟩
        · exact .inl ⟨k, m', Ns.at e7 fun o e => p _ o (Ne.symm a2) e, e8⟩
        · have hdd : d' ≠ d := fun q => hz (er.apart z y d (q ▸ e7) hd)
          exact .inr ⟨k, d', e7, o, p d' o hdd ho, r⟩
end
theorem via_sub {am am' : Amb} (k : ∀ a, a ∈ am'.res → a ∈ am.res) {π : List Addr} {h : Heap} : Via am am' π π h h := ⟨fun a o ho z_ h1 h2 => ⟨⟨o.slots, ho⟩, h1, fun q => h2 (k a q)⟩, fun z_ z_ e => e⟩
theorem VR.sub {am am' : Amb} (k : ∀ a, a ∈ am'.res → a ∈ am.res) {π : List Addr} {h : Heap} {v : V} {y : Value} (e : VR am π h v y) : VR am' π h v y := e.via (via_sub k)
theorem VRs.sub {am am' : Amb} (k : ∀ a, a ∈ am'.res → a ∈ am.res) {π : List Addr} {h : Heap} {vs : List V} {ys : List Value} (e : VRs am π h vs ys) : VRs am' π h vs ys := e.via (via_sub k)
theorem HR.sub {am : Amb} {r r' : List Addr} (k : ∀ a, a ∈ r' → a ∈ r) {stack : List Env} {π : List Addr} {Hc : H} {h : Heap} (x : HR (am.at r) stack π Hc h) : HR (am.at r') stack π Hc h :=
  ⟨x.base, x.frames, x.len, x.nodup, fun a ha => x.res a (k a ha), x.off, fun i c a h1 h2 => by
    obtain ⟨o, xs, e0, e1, e2, e3⟩ := x.cell i c a h1 h2
    exact ⟨o, xs, e0, e1, e2, e3.sub k⟩⟩
section
variable {am : Amb} {n : Nat} {q : Bool} {F : Fn} {c : Ck}
noncomputable def SJ (am : Amb) (n : Nat) (q : Bool) (F : Fn) (c : Ck) (p : PS) (x : Stmt) : Prop := ∀ ⦃cx : Cx⦄ ⦃ρ : List V⦄ ⦃A : Around⦄ ⦃res : List Addr⦄ ⦃outer : List Env⦄ ⦃π₀ : List Addr⦄ ⦃s₀ : Shared⦄ ⦃G : List Addr → Shared → Prop⦄ ⦃π : List Addr⦄ ⦃Hc : H⦄ ⦃s : Shared⦄,
  Stm am n q F c cx A res outer π₀ s₀ G ρ π Hc s → SP (am.at res) cx outer q A π₀ s₀ G (fun Q E s => wpAny am.M A (exec x cx.env) Q E s) (exS q F p ρ Hc) s
noncomputable def SsJ (am : Amb) (n : Nat) (q : Bool) (F : Fn) (c : Ck) (ps : List PS) (xs : List Stmt) : Prop := ∀ ⦃cx : Cx⦄ ⦃ρ : List V⦄ ⦃A : Around⦄ ⦃res : List Addr⦄ ⦃outer : List Env⦄ ⦃π₀ : List Addr⦄ ⦃s₀ : Shared⦄ ⦃G : List Addr → Shared → Prop⦄ ⦃π : List Addr⦄ ⦃Hc : H⦄ ⦃s : Shared⦄,
  Stm am n q F c cx A res outer π₀ s₀ G ρ π Hc s → SP (am.at res) cx outer q A π₀ s₀ G (fun Q E s => wpAny am.M A (execs xs cx.env) Q E s) (exSs q F ps ρ Hc) s
theorem SOk.here {G : List Addr → Shared → Prop} (x : Stm am n q F c cx A res outer π₀ s₀ G ρ π Hc s) : SOk (am.at res) cx outer q A π₀ s₀ G (.ok .next ρ Hc) .next s :=
  ⟨.next, ρ, Hc, π, rfl, x.go, x.st, x.b.ne, rfl, x.g⟩
theorem ss_nil : SsJ am n q F c [] [] := fun cx ρ A res outer π₀ s₀ G π Hc s x => by
  simp only [qSs_1, qSs_2]
  exact .inr (wpAny_execs_nil (SOk.here x))
theorem sp_cons {G : List Addr → Shared → Prop} (x : Stm am n q F c cx A res outer π₀ s₀ G ρ π Hc s)
    (h1 : SP (am.at res) cx outer q A π₀ s₀ G (fun Q E s => wpAny am.M A (exec y cx.env) Q E s) (exS q F p ρ Hc) s)
    (h2 : ∀ ρ' π' H' s', Stm am n q F c cx A res outer π₀ s₀ G ρ' π' H' s' → SP (am.at res) cx outer q A π₀ s₀ G (fun Q E s => wpAny am.M A (execs ys cx.env) Q E s) (exSs q F ps ρ' H') s') :
    SP (am.at res) cx outer q A π₀ s₀ G (fun Q E s => wpAny am.M A (execs (y :: ys) cx.env) Q E s) (exSs q F (p :: ps) ρ Hc) s := by
  rw [qSs_2]
  rcases h1 with h | h
  · exact .inl (by rw [h]; rfl)
  · cases hr : exS q F p ρ Hc with
    | bad => exact .inl rfl
    | err d ρ' H' =>
      rw [hr] at h
      refine .inr (wpAny_execs_cons (wpAny_mono h (fun f s' z => ?_) fun e s' z => z))
      obtain ⟨_, _, _, _, z, _⟩ := z; cases z
    | ok fl ρ' H' =>
      rw [hr] at h
      cases fl with
      | ret v =>
        refine .inr (wpAny_execs_cons (wpAny_mono h (fun f s' z => ?_) fun e s' z => z))
        refine hold fun z_ k_ => ?_
        obtain ⟨fl, ρ2, H2, π2, z1, z2, z3, z4, z5, zg⟩ := z
        refine k_ ?_
        cases z1
        obtain ⟨xv, rfl, z6⟩ := z5
        exact ⟨_, _, _, _, rfl, z2, z3, z4, ⟨xv, rfl, z6⟩, zg⟩
      | next =>
        rw [RS.then_next]
        by_cases hb : exSs q F ps ρ' H' = .bad
        · exact .inl hb
        · refine .inr (wpAny_execs_cons (wpAny_mono h (fun f s' z => ?_) fun e s' z => ?_))
          · refine hold fun z_ k_ => ?_
            obtain ⟨fl, ρ2, H2, π2, z1, z2, z3, z4, z5, zg⟩ := z
            refine k_ ?_
            cases z1
            cases z5
            rcases h2 ρ' π2 H' s' ⟨x.b.set z4, x.f, z2, z3, x.low, zg, x.gk⟩ with h3 | h3
            · exact absurd h3 hb
            · exact h3
          · obtain ⟨_, _, _, _, _, _, _, z, _⟩ := z; cases z
theorem ss_cons (h1 : SJ am n q F c p y) (h2 : SsJ am n q F c ps ys) : SsJ am n q F c (p :: ps) (y :: ys) := fun cx ρ A res outer π₀ s₀ G π Hc s x => sp_cons x (h1 x) fun z_ z_ z_ z_ x' => h2 x'
theorem s_pass : SJ am n q F c .pass (.Pass p) := fun cx ρ A res outer π₀ s₀ G π Hc s x => by
  simp only [qS_1, qS_2, qS_3, qS_4, qS_5, qS_6, qS_7, qS_8, qS_9, qS_10, qS_11, qS_12, qS_13, qS_14]
  exact .inr (wpAny_Pass (SOk.here x))
theorem s_ret {e : PE} {y : Expr} {p : Pos} (h : EJ am n q F c e y) : SJ am n q F c (.ret e) (.Return (some y) p) := fun cx ρ A res outer π₀ s₀ G π Hc s x => by
  simp only [qS_1, qS_2, qS_3, qS_4, qS_5, qS_6, qS_7, qS_8, qS_9, qS_10, qS_11, qS_12, qS_13, qS_14]
  refine SP.rule (T := fun Q E s => wpAny am.M A (eval y cx.env) (fun v s₁ => Q (.ret v) s₁) E s) (sbind x (h x.b x.st) fun a b H' π' s' z_ x' hv => .inr ⟨.ret b, ρ, H', π', rfl, x'.go, x'.st, x'.b.ne, ⟨a, rfl, hv⟩, x'.g⟩) fun Q E h => wpAny_Return_some h
theorem s_if {t : PE} {a b : List PS} {y : Expr} {ys zs : List Stmt} {p : Pos} (ht : TJ am n q F c t y) (ha : SsJ am n q F c a ys) (hb : SsJ am n q F c b zs) : SJ am n q F c (.ifs t a b) (.If y ys zs p) := fun cx ρ A res outer π₀ s₀ G π Hc s x => by
  have e : exS q F (.ifs t a b) ρ Hc = (tr (evE q F ρ t Hc)).st ρ fun v h => if v then exSs q F a ρ h else exSs q F b ρ h := by
    simp only [qS_1, qS_2, qS_3, qS_4, qS_5, qS_6, qS_7, qS_8, qS_9, qS_10, qS_11, qS_12, qS_13, qS_14]
    cases evE q F ρ t Hc with
    | ok v h =>
      simp only [tr, R.bind_ok, R.st_ok]
      cases truthy v with
      | none => rfl
      | some u => cases u <;> rfl
    | _ => rfl
  rw [e]
  refine SP.rule (T := fun Q E s => wpAny am.M A (isTrue y cx.env (eval y cx.env)) (fun v s₁ => if v then wpAny am.M A (execs ys cx.env) Q E s₁ else wpAny am.M A (execs zs cx.env) Q E s₁) E s) (sbind x (ht x.b x.st) fun v b' H' π' s' z_ x' hv => ?_) fun Q E h => wpAny_If h
  unfold BR at hv; subst hv
  cases b' with
  | true => exact ha x'
  | false => exact hb x'
theorem not_interactive (h : CxOK cx) : interactive cx.env = false := by
  unfold interactive; simp [h.kind]
noncomputable def isCall (e : Expr) : Bool := @Expr.casesOn (fun z_ => Bool) e (fun z_ z_ z_ => false) (fun z_ z_ z_ => false) (fun z_ z_ z_ z_ => false) (fun z_ z_ z_ => false) (fun z_ z_ z_ z_ => false) (fun z_ z_ z_ z_ => false) (fun z_ z_ z_ => false) (fun z_ z_ z_ => false) (fun z_ z_ z_ z_ => false) (fun z_ z_ z_ z_ => false) (fun z_ z_ z_ z_ z_ => false) (fun z_ z_ z_ z_ => false) (fun z_ z_ => false) (fun z_ z_ => false) (fun z_ z_ => false) (fun z_ z_ z_ z_ => false) (fun z_ z_ z_ z_ => true) (fun z_ z_ z_ z_ => false) (fun z_ z_ => false) (fun z_ z_ z_ => false) (fun z_ z_ z_ => false) (fun z_ z_ z_ => false) (fun z_ z_ => false) (fun z_ z_ => false) (fun z_ z_ => false) (fun z_ z_ z_ => false) (fun z_ z_ z_ z_ => false)
theorem s_expr {e : PE} {y : Expr} {p : Pos} (hc : isCall y = true) (h : EJ am n q F c e y) : SJ am n q F c (.expr e) (.Expr y p) := fun cx ρ A res outer π₀ s₀ G π Hc s x => by
  simp only [qS_1, qS_2, qS_3, qS_4, qS_5, qS_6, qS_7, qS_8, qS_9, qS_10, qS_11, qS_12, qS_13, qS_14]
  refine SP.rule (T := fun Q E s => wpAny am.M A (eval y cx.env) (fun v s₁ => match v with | .ref _ => False | _ => Q .next s₁) E s) (sbind x (h x.b x.st) fun a b H' π' s' z_ x' hv => ?_) fun Q E h => wpAny_Expr h (not_interactive x.b.cxk) (by cases y <;> first | rfl | exact noB hc)
  cases b with
  | none => simp only [VR] at hv; subst hv; exact .inr (SOk.here x')
  | int i => first | exact .inl rfl | (simp only [VR] at hv; obtain ⟨t, rfl⟩ := hv; exact .inr (SOk.here x'))
  | _ => exact .inl rfl
noncomputable def isComp (e : Expr) : Bool := @Expr.casesOn (fun z_ => Bool) e (fun z_ z_ z_ => false) (fun z_ z_ z_ => false) (fun z_ z_ z_ z_ => false) (fun z_ z_ z_ => false) (fun z_ z_ z_ z_ => false) (fun z_ z_ z_ z_ => false) (fun z_ z_ z_ => false) (fun z_ z_ z_ => false) (fun z_ z_ z_ z_ => true) (fun z_ z_ z_ z_ => true) (fun z_ z_ z_ z_ z_ => true) (fun z_ z_ z_ z_ => false) (fun z_ z_ => false) (fun z_ z_ => false) (fun z_ z_ => false) (fun z_ z_ z_ z_ => false) (fun z_ z_ z_ z_ => false) (fun z_ z_ z_ z_ => false) (fun z_ z_ => false) (fun z_ z_ z_ => false) (fun z_ z_ z_ => false) (fun z_ z_ z_ => false) (fun z_ z_ => false) (fun z_ z_ => false) (fun z_ z_ => false) (fun z_ z_ z_ => false) (fun z_ z_ z_ z_ => false)
theorem swaps_plain (h : isComp y = false) (t : Option Expr) (l : Nat) (env : Env) : swapsWith y t l env = pure false := by
  cases y <;> first | rfl | exact noB h.symm
theorem s_asg_plain {i : Nat} {e : PE} {y : Expr} {v : Str} {p p' : Pos} (hv : c.var v i = true) (hk : c.names.lookup v ≠ some .free) (hinj : (c.ctx.map (·.2)).Nodup) (h : EJ am n q F c e y)
    {cx : Cx} {ρ : List V} {A : Around} {res : List Addr} {outer : List Env} {π₀ : List Addr} {s₀ : Shared} {G : List Addr → Shared → Prop} {π : List Addr} {Hc : H} {s : Shared} (x : Stm am n q F c cx A res outer π₀ s₀ G ρ π Hc s) (hs : swapsWith y (some (.Name v p')) p.line cx.env = pure false) :
    SP (am.at res) cx outer q A π₀ s₀ G (fun Q E s => wpAny am.M A (exec (.Assign [.Name v p'] y p) cx.env) Q E s) (exS q F (.asg i e) ρ Hc) s := by
  simp only [qS_1, qS_2, qS_3, qS_4, qS_5, qS_6, qS_7, qS_8, qS_9, qS_10, qS_11, qS_12, qS_13, qS_14]
  refine SP.rule (T := fun Q E s => wpAny am.M A (eval y cx.env) (fun w s₁ => wpAny am.M A (storeName cx.env v w) (fun z_ => Q .next) E s₁) E s) (sbind x (h x.b x.st) fun a b H' π' s' z_ x' hw => ?_) fun Q E h => wpAny_Assign_Name h hs
  exact .inr (assign_ok x' hw hv hk hinj fun s'' x'' z_ z_ => SOk.here x'')
end
section
variable {am : Amb} {A : Around} {s : Shared}
theorem seti_dcell (hd : dcell h a = false) : seti h a b c = Option.none := by
  cases a with
  | ref r =>
    simp only [dcell] at hd
    simp only [seti]
    cases hq : h[r]? with
    | none => rfl
    | some k =>
      rw [hq] at hd
      cases k with
      | list vs => rfl
      | dict es => cases hd
  | _ => rfl
end
section
variable {am : Amb} {n : Nat} {q : Bool} {F : Fn} {c : Ck}
theorem PT.wpv {α γ : Type} (M : Model) (m : Sem α) (f : α → γ) : PT.Mono (fun (Q : γ → Shared → Prop) E s => wpAny M A m (fun a s₁ => Q (f a) s₁) E s) := fun z_ z_ z_ z_ z_ h1 h2 h => wpAny_mono h (fun a s x => h1 _ _ x) h2
theorem s_setIdx {o i e : PE} {yo yi y : Expr} {p tp : Pos} (hc : isComp y = false) (ho : EJ am n q F c o yo) (hi : EJ am n q F c i yi) (he : EJ am n q F c e y) : SJ am n q F c (.setIdx o i e) (.Assign [.Subscript yo yi tp] y p) := fun cx ρ A res outer π₀ s₀ G π Hc s x => by
  have shape : exS q F (.setIdx o i e) ρ Hc = ((evE q F ρ e Hc).bind fun v h => (evE q F ρ o h).bind fun x h => (evE q F ρ i h).bind fun y h => R.ok (v, x, y) h).st ρ fun t h => match seti h t.2.1 t.2.2 t.1 with
      | some h => .ok .next ρ h
      | Option.none => .bad := by
    rw [qS_4]
    cases evE q F ρ e Hc with
    | ok v h =>
      simp only [R.st_ok, R.bind_ok]
      cases evE q F ρ o h with
      | ok v h =>
        simp only [R.st_ok, R.bind_ok]
        cases evE q F ρ i h <;> rfl
      | _ => rfl
    | _ => rfl
  rw [shape]
  refine SP.rule (T := fun Q E s => wpAny am.M A (eval y cx.env) (fun v s₁ => wpAny am.M A (eval yo cx.env) (fun ov s₂ => wpAny am.M A (eval yi cx.env) (fun iv s₃ => wpAny am.M A (setItem ov iv v) (fun z_ => Q .next) E s₃) E s₂) E s₁) E s)
    (sbindT (T0 := fun Q E s => wpAny am.M A (eval y cx.env) (fun v s₁ => wpAny am.M A (eval yo cx.env) (fun ov s₂ => wpAny am.M A (eval yi cx.env) (fun iv s₃ => Q (v, ov, iv) s₃) E s₂) E s₁) E s) (T := fun t Q E s => wpAny am.M A (setItem t.2.1 t.2.2 t.1) (fun z_ => Q .next) E s) (PT.seq _ _ fun z_ => PT.seq _ _ fun z_ => PT.wpv _ _ _) x
      (Rel := fun π h (b : V × V × V) (t : Value × Value × Value) => VR (am.at res) π h b.1 t.1 ∧ VR (am.at res) π h b.2.1 t.2.1 ∧ VR (am.at res) π h b.2.2 t.2.2)
      (JT.bind (fun z_ => PT.seq _ _ fun z_ => PT.wpv _ _ _) (he x.b x.st) fun v b H1 π1 s1 z_ hs1 hr1 hv1 => JT.bind (fun z_ => PT.wpv _ _ _) (ho x.b (x.st.step hs1 hr1)) fun ov b2 H2 π2 s2 z_ hs2 hr2 hv2 =>
        JT.bind (T := fun iv Q E s => Q (v, ov, iv) s) (fun z_ z_ z_ z_ z_ z_ h z_ y => h _ _ y) (hi x.b ((x.st.step hs1 hr1).step hs2 hr2)) fun iv b3 H3 π3 s3 z_ hs3 hr3 hv3 =>
        .inr (OkP.here hr3 ⟨(hv1.step hs2).step hs3, hv2.step hs3, hv3⟩)) fun t b H' π' s' z_ x' hw => ?_) fun Q E h => wpAny_Assign_Subscript h (swaps_plain hc _ _ _)
  obtain ⟨h1, h2, h3⟩ := hw
  cases hd : dcell H' b.2.1 with
  | false => rw [seti_dcell hd]; exact .inl rfl
  | true =>
    cases hs : seti H' b.2.1 b.2.2 b.1 with
    | none => exact .inl rfl
    | some H2 => exact .inr (wp_setD (am := am.at res) x'.b.as x'.st.hr h2 h3 h1 hd hs fun s2 hs2 hr2 => SOk.here (x'.step hs2 hr2))
end
section
variable {am : Amb} {n : Nat} {q : Bool} {F : Fn} {c : Ck}
theorem SR.sub (k : ∀ a, a ∈ am'.res → a ∈ am.res) (hmg : am'.mg = am.mg) (hB : am'.B = am.B) (e : SR am π h v x) : SR am' π h v x := by
  rcases e with e | ⟨d, a, h1, h2, h3, C, o, vs, e1, e2⟩
  · exact .inl (e.sub k)
  · exact .inr ⟨d, a, h1, h2, h3, C, o, vs, by rw [hmg]; exact e1, by rw [hB]; exact e2⟩
theorem ER.sub (k : ∀ a, a ∈ r' → a ∈ r) (e : ER (am.at r) cx ρ π h) : ER (am.at r') cx ρ π h :=
  ⟨e.ns, e.locOff, e.cellOff, e.apart, fun x i v h1 h2 h3 h4 => let ⟨v', h5, h6⟩ := e.var x i v h1 h2 h3 h4; ⟨v', h5, SR.sub (am := am.at r) (am' := am.at r') k rfl rfl h6⟩⟩
theorem ER.poke {am : Amb} {cx : Cx} {ρ : List V} {π : List Addr} {h h' : Heap} {C : Addr} (e : ER am cx ρ π h) (hC : C ∈ am.res) (p : Poke C h h') (hnf : ∃ o, h.get? C = some o ∧ ∀ us, o.data ≠ .fields us) (hl : cx.env.locals ≠ C) (hc : ∀ z d, cx.env.cells.lookup z = some d → d ≠ C) : ER am cx ρ π h' := by
  obtain ⟨m, hm⟩ := e.ns
  refine ⟨⟨m, Ns.at hm fun o z => p _ o hl z⟩, e.locOff, fun z d hd => ?_, e.apart, fun z j w e1 e2 e3 e4 => ?_⟩
  · refine hold fun z_ k_ => ?_
    obtain ⟨a1, a2, u, o, ho, r⟩ := e.cellOff z d hd
    refine k_ ?_
    exact ⟨a1, a2, u, o, p d o (hc z d hd) ho, r⟩
  · obtain ⟨u, e5, e6⟩ := e.var z j w e1 e2 e3 e4
    refine ⟨u, ?_, ?_⟩
    · rcases e5 with ⟨k, m', e7, e8⟩ | ⟨k, d, e7, o, ho, r⟩
      · exact .inl ⟨k, m', Ns.at e7 fun o z => p _ o hl z, e8⟩
      · exact .inr ⟨k, d, e7, o, p d o (hc z d e7) ho, r⟩
    · rcases e6 with e6 | ⟨d, a, f1, f2, f3, C', o, vs, g1, g2, g3, g4, g5⟩
      · exact .inl (e6.free fun b o hb z => p b o (fun q => hb (q ▸ hC)) z)
      · exact .inr ⟨d, a, f1, f2, f3, C', o, vs, g1, p a o (fun q => (ne_nf hnf g2 g4) q.symm) g2, g3, g4, g5⟩
theorem Mv.unhold {R Fs π π' : List Addr} {s s' : Shared} {C : Addr} (x : Mv (C :: R) Fs π s π' s') (hC : s.heap.get? C = none) : Mv R Fs π s π' s' := by
  have ne : ∀ {b o}, s.heap.get? b = some o → b ∉ R → b ∉ C :: R := fun {b o} e hb q => by
    rcases List.mem_cons.mp q with rfl | h
    · rw [hC] at e; cases e
    · exact hb h
  exact ⟨x.same, fun a o e h1 h2 h3 => x.keep a o e h1 h2 (ne e h3), fun a o e h1 h3 => x.slots a o e h1 (ne e h3), x.alive, x.grow⟩
theorem cell_in {am : Amb} {stack : List Env} {π π1 : List Addr} {s s' : Shared} {vs : List V} {H1 : H} {l : Addr} {xs : List Value} (h3 : vs.length ≤ 1000000) (h4 : s.heap.get? l = none) (h5 : l ∉ π1 ∧ l ∉ Fs stack ∧ am.B.get? l = none) (h6 : Step (Fs stack) π s π1 s') (h7 : HR (am.hold l) stack π1 H1 s'.heap)
    (h8 : PL s'.heap l xs) (h9 : VRs (am.hold l) π1 s'.heap vs xs) : Step (Fs stack) π s (π1 ++ [l]) s' ∧ HR am stack (π1 ++ [l]) (H1 ++ [.list vs]) s'.heap ∧ VR am (π1 ++ [l]) s'.heap (.ref H1.length) (.ref l) := by
  refine ⟨⟨h6.same, h6.ext, ?_⟩, ⟨h7.base, h7.frames, by simp [h7.len], ?_, h7.unhold.res, ?_, ?_⟩, ?_⟩
  · obtain ⟨δ, rfl, hδ⟩ := h6.grow
    refine ⟨δ ++ [l], by simp, fun a ha => ?_⟩
    rcases List.mem_append.mp ha with ha | ha
    · exact hδ a ha
    · rw [List.mem_singleton.mp ha]; exact h4
  · rw [List.nodup_append]
    exact ⟨h7.nodup, by simp, fun a ha b hb => by rw [List.mem_singleton.mp hb]; exact fun q => h5.1 (q ▸ ha)⟩
  · intro a ha
    rcases List.mem_append.mp ha with ha | ha
    · exact h7.off a ha
    · rw [List.mem_singleton.mp ha]; exact ⟨h5.2.2, h5.2.1⟩
  · intro i c a hi ha
    by_cases hlt : i < H1.length
    · rw [List.getElem?_append_left hlt] at hi
      rw [List.getElem?_append_left (by rw [h7.len]; exact hlt)] at ha
      obtain ⟨o, ys, q0, q1, q2, q3⟩ := h7.cell i c a hi ha
      exact ⟨o, ys, q0, q1, q2, q3.reserve.1⟩
    · have hi' : i = H1.length := by
        have := (List.getElem?_eq_some_iff.mp hi).1
        simp only [List.length_append, List.length_singleton] at this
        omega
      subst hi'
      simp only [List.getElem?_concat_length, Option.some.injEq] at hi
      rw [← h7.len] at ha
      simp only [List.getElem?_concat_length, Option.some.injEq] at ha
      subst hi ha
      exact .ofList h8 h3 h9.reserve.1
  · simp only [VR]
    exact ⟨l, rfl, by rw [← h7.len]; simp⟩
noncomputable def asgFin (own : Bool) (i : Nat) (ρ : List V) (rs : List V) (Hf : H) : RS := if own then .ok .next (ρ.set i (.ref Hf.length)) (Hf ++ [.list rs]) else .ok .next (ρ.set i (.lst rs)) Hf
theorem asg_shape {F : Fn} {own : Bool} {i j : Nat} {elt : PE} {it : PIt} {cond : Option PE} {ρ : List V} {Hc : H} : exS true F (.asg i (if own then .own (.comp elt j it cond) else .comp elt j it cond)) ρ Hc = (evIt true F ρ it Hc).st ρ fun vs h =>
    match compL vs.2 (fun v h => evE true F (ρ.set j v) elt h) (fun v h => evC true F (ρ.set j v) cond h) vs.1 h with
    | .ok r h => if r.length ≤ 1000000 then asgFin own i ρ r h else .bad
    | _ => .bad := by
  simp only [qS_1, qS_2, qS_3, qS_4, qS_5, qS_6, qS_7, qS_8, qS_9, qS_10, qS_11, qS_12, qS_13, qS_14]
  have hc : evE true F ρ (.comp elt j it cond) Hc = (evIt true F ρ it Hc).bind fun vs h => match compL vs.2 (fun v h => evE true F (ρ.set j v) elt h) (fun v h => evC true F (ρ.set j v) cond h) vs.1 h with
    | .ok r h => R.opt (mkL r) h
    | _ => .bad := by first | (simp only [qE_1, qE_2, qE_3, qE_4, qE_5, qE_6, qE_7, qE_8, qE_9, qE_10, qE_11, qE_12, qE_13, qE_14, qE_15, qE_16, qE_17, qE_18, qE_19, qE_20, qE_21, qE_22, qE_23, qE_24, qE_25, qE_26, qE_27, qE_28, qE_29, qE_30, qE_31, qE_32, qE_33, qE_34, qE_35, qE_36, qE_37, qE_38]; rw [if_neg (by simp)]; done) | (simp only [qE_1, qE_2, qE_3, qE_4, qE_5, qE_6, qE_7, qE_8, qE_9, qE_10, qE_11, qE_12, qE_13, qE_14, qE_15, qE_16, qE_17, qE_18, qE_19, qE_20, qE_21, qE_22, qE_23, qE_24, qE_25, qE_26, qE_27, qE_28, qE_29, qE_30, qE_31, qE_32, qE_33, qE_34, qE_35, qE_36, qE_37, qE_38]; rw [if_neg (by simp)]; rfl)
  cases own with
  | false =>
    simp only [Bool.false_eq_true, if_false, asgFin]
    rw [hc]
    cases evIt true F ρ it Hc with
    | ok b h =>
      simp only [R.bind_ok, R.st_ok]
      cases compL b.2 (fun v h => evE true F (ρ.set j v) elt h) (fun v h => evC true F (ρ.set j v) cond h) b.1 h with
      | ok r h => simp only [mkL]; split <;> rfl
      | _ => rfl
    | _ => rfl
  | true =>
    simp only [if_true, asgFin]
    have ho : evE true F ρ (.own (.comp elt j it cond)) Hc = (evE true F ρ (.comp elt j it cond) Hc).bind fun x h => match x with | .lst vs => .ok (.ref h.length) (h ++ [.list vs]) | _ => .bad := by first | (simp only [qE_1, qE_2, qE_3, qE_4, qE_5, qE_6, qE_7, qE_8, qE_9, qE_10, qE_11, qE_12, qE_13, qE_14, qE_15, qE_16, qE_17, qE_18, qE_19, qE_20, qE_21, qE_22, qE_23, qE_24, qE_25, qE_26, qE_27, qE_28, qE_29, qE_30, qE_31, qE_32, qE_33, qE_34, qE_35, qE_36, qE_37, qE_38]; done) | (simp only [qE_1, qE_2, qE_3, qE_4, qE_5, qE_6, qE_7, qE_8, qE_9, qE_10, qE_11, qE_12, qE_13, qE_14, qE_15, qE_16, qE_17, qE_18, qE_19, qE_20, qE_21, qE_22, qE_23, qE_24, qE_25, qE_26, qE_27, qE_28, qE_29, qE_30, qE_31, qE_32, qE_33, qE_34, qE_35, qE_36, qE_37, qE_38]; rfl)
    rw [ho, hc]
    cases evIt true F ρ it Hc with
    | ok b h =>
      simp only [R.bind_ok, R.st_ok]
      cases compL b.2 (fun v h => evE true F (ρ.set j v) elt h) (fun v h => evC true F (ρ.set j v) cond h) b.1 h with
      | ok r h => simp only [mkL]; split <;> rfl
      | _ => rfl
    | _ => rfl
set_option tactic.hygienic true in
theorem s_asg_comp {i : Nat} {elt : PE} {j : Nat} {it : PIt} {cond : Option PE} {own : Bool} {e iter : Expr} {x : Str} {px pos p p' : Pos} {ifs : List Expr} {scope : Scope} {v : Str} (hset : isSet iter = false) (hsc : scopeOk c x scope = true) (hi : c.ctx.all (fun p => p.2 != j) = true)
    (hit : ItJ am n F c it iter) (helt : EJ am n true F (c.inner x j scope) elt e) (hcond : CJ am n F (c.inner x j scope) cond ifs)
    (hv : c.var v i = true) (hk : c.names.lookup v ≠ some .free) (hinj : (c.ctx.map (·.2)).Nodup)
    {cx : Cx} {ρ : List V} {A : Around} {res : List Addr} {outer : List Env} {π₀ : List Addr} {s₀ : Shared} {G : List Addr → Shared → Prop} {π : List Addr} {Hc : H} {s : Shared} (X : Stm am n true F c cx A res outer π₀ s₀ G ρ π Hc s)
    (hs : swapsWith (.ListComp e [⟨.Name x px, iter, ifs, 0⟩] scope pos) (some (.Name v p')) p.line cx.env = pure true) :
    SP (am.at res) cx outer true A π₀ s₀ G (fun Q E s => wpAny am.M A (exec (.Assign [.Name v p'] (.ListComp e [⟨.Name x px, iter, ifs, 0⟩] scope pos) p) cx.env) Q E s) (exS true F (.asg i (if own then .own (.comp elt j it cond) else .comp elt j it cond)) ρ Hc) s := by
  have hsc0 := hsc
  unfold scopeOk at hsc
  simp only [Bool.and_eq_true, List.all_eq_true, beq_iff_eq, Bool.not_eq_true', Bool.or_eq_true, bne_iff_ne, ne_eq] at hsc
  refine hold fun z_ k_ => ?_
  obtain ⟨⟨⟨⟨hkind, hall⟩, hxl⟩, hx0⟩, h00⟩ := hsc
  refine k_ ?_
  have B := X.b
  obtain ⟨cl, hclos, hcl1, hcl2⟩ := closure_for (scope := scope) (env := cx.env) (fun p hp hf => B.cxk.clos p.1 (by
    unfold Env.kindOf; rw [B.ck.names]
    rcases (hall p hp).1.2 with (z | z) | z
    · exact absurd hf z
    · exact .inl z
    · exact .inr z))
  have hnames : ∀ y ∈ scope.names, y.2 = .local → scope.names.lookup y.1 = some .local := fun y hy hl => by
    rcases (hall y hy).1.1 with z | z
    · exact absurd hl z
    · exact z.2
  rw [asg_shape]
  have hI := hit B X.st
  have key : ∀ (r : RS), (∀ vs wt H1, evIt true F ρ it Hc = .ok (vs, wt) H1 → ∃ rs Hf, compL wt (fun v h => evE true F (ρ.set j v) elt h) (fun v h => evC true F (ρ.set j v) cond h) vs H1 = .ok rs Hf ∧ rs.length ≤ 1000000 ∧ r = asgFin own i ρ rs Hf) →
      (∀ c' H', evIt true F ρ it Hc = .err c' H' → r = .err c' ρ H') → evIt true F ρ it Hc ≠ .bad →
      SP (am.at res) cx outer true A π₀ s₀ G (fun Q E s => wpAny am.M A (exec (.Assign [.Name v p'] (.ListComp e [⟨.Name x px, iter, ifs, 0⟩] scope pos) p) cx.env) Q E s) r s := by
    intro r h1 h2 h3
    rcases hI with hI | hI
    · exact absurd hI h3
    · refine .inr ?_
      have erp : ∀ y s', ErP (am.at res) cx.stack π s (evIt true F ρ it Hc) y s' → SEr (am.at res) cx outer true A π₀ s₀ r y s' := fun y s' h => by
        refine hold fun z_ k_ => ?_
        obtain ⟨c', H'', π', e', C, fl, hh, g2, g3, g4, g5, g6⟩ := h
        refine k_ ?_
        have Y := X.step g4 g5
        exact ⟨c', ρ, H'', π', e', C, fl, h2 c' H'' hh, g2, g3, Y.go, Y.st, X.b.ne, g6.mono (ground_in X.f X.go)⟩
      refine wp_gen fun Q' E' kq ke => ?_
      replace erp := fun y s' h => ke y s' (erp y s' h)
      rw [exec_Assign_Name_used _ _ _ _ hs, arm_evalThenUse_ListComp]
      refine wpAny_bind (wpAny_standAt (wpAny_bind (wpAny_bind ?_)))
      refine wpAny_comprehension_free (Q := fun z_ s' => wpAny am.M A (pure () : Sem Unit) (fun z_ s' => wpAny am.M A (pure Flow.next : Sem Flow) Q' E' s') E' s')
        (use := some (assign (.Name v p') cx.env)) rfl (set_iter hset cx.env) hclos hkind hnames (wpAny_mono hI (fun xv s₁ h₁ => wpAny_mono h₁ (fun itv s₂ h₂ => ?_) erp) erp)
      refine hold fun z_ k_ => ?_
      obtain ⟨⟨vs, wt⟩, H1, π1, e1, e2, e3, e4⟩ := h₂
      refine k_ ?_
      refine hold fun z_ k_ => ?_
      obtain ⟨rs, Hf, e5, e6, e7⟩ := h1 vs wt H1 e1
      refine k_ ?_
      refine comp_core (RR := fun acc C => compPost am.M A E' (some (assign (.Name v p') cx.env)) _ acc C) B X.st e2 e3 e4 hsc0 hi helt hcond hcl1 hcl2 e5 e6 fun D C s' le => ?_
      refine hold fun z_ k_ => ?_
      obtain ⟨π', xs, m, l1, l2, l3, l4, l5, l6, l7⟩ := le.rest
      refine k_ ?_
      show wpAny am.M A (assign (.Name v p') cx.env (.ref D)) _ _ s'
      have hs0C : s₀.heap.get? C = none := by
        cases hq : s₀.heap.get? C with
        | none => rfl
        | some o => obtain ⟨o', z⟩ := X.go.ext.alive C o hq; rw [le.freshC] at z; cases z
      have hDC : D ∉ (am.at (C :: res)).res := by simp only [Amb.at, List.mem_cons, not_or]; exact ⟨le.ne, le.resD⟩
      have hR : HR (am.at (D :: C :: res)) cx.stack π' Hf s'.heap := HR.sub (am := am) (r := C :: D :: res) (r' := D :: C :: res) (by intro a ha; simp only [List.mem_cons] at ha ⊢; rcases ha with ha | ha | ha <;> simp [ha]) l2
      have hV : VRs ((am.at (C :: res)).hold D) π' s'.heap rs xs := VRs.sub (am' := (am.at (C :: res)).hold D) (by intro a ha; simp only [Amb.hold, Amb.at, List.mem_cons] at ha ⊢; rcases ha with ha | ha | ha <;> simp [ha]) l4
      have hok : ∃ w H2 π2, r = .ok .next (ρ.set i w) H2 ∧ Step (Fs cx.stack) π s π2 s' ∧ HR (am.at (C :: res)) cx.stack π2 H2 s'.heap ∧ VR (am.at (C :: res)) π2 s'.heap w (.ref D) ∧ C ∉ π2 := by
        cases own with
        | false =>
          refine ⟨.lst rs, Hf, π', by rw [e7]; rfl, l1, HR.unhold (am := am.at (C :: res)) hR, ?_, l7⟩
          simp only [VR]
          exact ⟨D, xs, rfl, ⟨l6, hDC⟩, l3.is, e6, hV.reserve.2⟩
        | true =>
          have z := cell_in (am := am.at (C :: res)) (s := s) e6 le.freshD ⟨l6, le.fsD, le.baseD⟩ l1 hR l3 hV
          refine ⟨_, _, π' ++ [D], by rw [e7]; rfl, z.1, z.2.1, z.2.2, ?_⟩
          rw [List.mem_append, not_or, List.mem_singleton]
          exact ⟨l7, Ne.symm le.ne⟩
      refine hold fun z_ k_ => ?_
      obtain ⟨w, H2, π2, k2, k3, k4, k5, k6⟩ := hok
      refine k_ ?_
      have erC : ER (am.at (C :: res)) cx ρ π2 s'.heap := (X.st.er.held (l := C) le.freshC).step k3
      have Y : Stm am n true F c cx A (C :: res) outer π₀ s₀ (fun π' s' => Mv (C :: res) (Fs cx.stack) π s π' s') ρ π2 H2 s' :=
        ⟨X.b, ⟨X.f.top, List.mem_cons_of_mem _ X.f.res, X.f.base, X.f.fresh, fun z d hd => let ⟨a1, a2, a3⟩ := X.f.cell z d hd; ⟨List.mem_cons_of_mem _ a1, a2, a3⟩⟩, X.go.inn X.f k3, ⟨k4, erC, X.st.hd.step k3⟩, X.low, .of k3, fun z_ z_ z_ z_ h m => h.trans m⟩
      have hlC : cx.env.locals ≠ C := fun q => by
        obtain ⟨m0, hm0⟩ := X.st.er.ns
        obtain ⟨o, ho⟩ := Heap.Ns.exist hm0
        rw [q, le.freshC] at ho; cases ho
      have hcC : ∀ z d, cx.env.cells.lookup z = some d → d ≠ C := fun z d hd q => by
        refine hold fun z_ k_ => ?_
        obtain ⟨_, _, u, hu⟩ := X.st.er.cellOff z d hd
        refine k_ ?_
        obtain ⟨o, ho⟩ := Heap.IsCell.exist hu
        rw [q, le.freshC] at ho; cases ho
      refine wpAny_assign_Name (assign_ok Y k5 hv hk hinj fun s'' Z hkeep z_ => ?_)
      refine ⟨m, Ns.at l5 fun o ho => hkeep C hs0C (Ne.symm hlC) hcC o ho, fun h' sb => ?_⟩
      have p' : Poke C s''.heap h' := fun b o hb e => sb.extBut b o hb e
      have l5' : s''.heap.Ns C m := Ns.at l5 fun o ho => hkeep C hs0C (Ne.symm hlC) hcC o ho
      refine wpAny_pure (wpAny_pure ?_)
      subst k2
      refine kq _ _ ⟨.next, _, _, π2, rfl, Z.go.poke (tk := s''.toks) hs0C p', ⟨HR.out (am := am.at res) Z.st.hr le.resC le.baseC k6 le.fsC p', ?_, ?_⟩, Z.b.ne, rfl, ?_⟩
      · exact ER.sub (am := am) (r := C :: res) (fun a ha => List.mem_cons_of_mem _ ha) (Z.st.er.poke (am := am.at (C :: res)) List.mem_cons_self p' (Ns.nf l5') hlC hcC)
      · exact Z.st.hd
      · refine X.gk _ _ _ _ X.g (Mv.poke (tk := s''.toks) (Mv.unhold Z.g le.freshC) (.inr le.freshC) p')
  cases hev : evIt true F ρ it Hc with
  | bad => exact .inl rfl
  | err c' H' => exact key _ (fun z_ z_ z_ z => by rw [hev] at z; cases z) (fun z_ z_ z => by rw [hev] at z; cases z; rfl) (by rw [hev]; simp)
  | ok b H1 =>
    obtain ⟨vs, wt⟩ := b
    simp only [R.st_ok]
    cases hc : compL wt (fun v h => evE true F (ρ.set j v) elt h) (fun v h => evC true F (ρ.set j v) cond h) vs H1 with
    | bad => exact .inl rfl
    | err _ _ => exact .inl rfl
    | ok rs Hf =>
      simp only
      split
      · rename_i hle
        refine key _ (fun vs' wt' H1' z => ?_) (fun z_ z_ z => by rw [hev] at z; cases z) (by rw [hev]; simp)
        rw [hev] at z; cases z
        exact ⟨rs, Hf, hc, hle, rfl⟩
      · exact .inl rfl
end
section
variable {am : Amb} {n : Nat} {q : Bool} {F : Fn} {c : Ck}
theorem frames_low (f : Frm am cx outer s₀) (hr : HR am cx.stack π Hc h) : h.FunFrames (ground outer π₀ s₀.heap) cx.stack := by
  have go : ∀ l : List Env, (∀ a ∈ Fs l, (ground outer π₀ s₀.heap).get? a = none) → h.FunFrames am.B l → h.FunFrames (ground outer π₀ s₀.heap) l := by
    intro l
    induction l with
    | nil => intro _ _; trivial
    | cons e l ih =>
      intro hn ⟨h1, ⟨L, o, h2, _, h4, h5⟩, h6⟩
      refine ⟨h1, ⟨L, o, h2, hn L (by simp [Fs, h2]), h4, h5⟩, ih (fun a ha => hn a ?_) h6⟩
      simp only [Fs, List.filterMap_cons, h2, List.mem_cons]
      exact .inr ha
  refine go _ (fun a ha => ?_) hr.frames
  rw [f.fs] at ha
  rcases List.mem_cons.mp ha with rfl | ha
  · cases hq : (ground outer π₀ s₀.heap).get? cx.env.locals with
    | none => rfl
    | some o => have := of_hideAll _ hq; rw [f.fresh] at this; cases this
  · exact hideAll_none _ (List.mem_append.mpr (.inr ha))
theorem Step.touch (f : Frm am cx outer s₀) (x : Step (Fs outer) π₀ s₀ π s) (hr : HR am cx.stack π Hc s.heap) (t : Touch (ground outer π₀ s₀.heap) s.heap h') : Step (Fs outer) π₀ s₀ π { s with heap := h' } := by
  have frm : ∀ a ∈ Fs outer, ∃ o, s.heap.get? a = some o ∧ ∀ us, o.data ≠ .fields us := fun a ha => (hr.frames.mem (show a ∈ Fs cx.stack by rw [f.fs]; exact List.mem_cons_of_mem _ ha)).2
  have cel : ∀ a ∈ π₀, ∃ o, s.heap.get? a = some o ∧ ∀ us, o.data ≠ .fields us := fun a ha => by
    obtain ⟨δ, e, _⟩ := x.grow
    obtain ⟨i, hi, e1⟩ := List.getElem_of_mem (show a ∈ π by rw [e]; exact List.mem_append.mpr (.inl ha))
    have h1 : π[i]? = some a := by rw [List.getElem?_eq_getElem hi, e1]
    have h2 : i < Hc.length := by rw [← hr.len]; exact hi
    exact (hr.cell i Hc[i] a (by simp [h2]) h1).obj
  have keep : ∀ a o, s₀.heap.get? a = some o → a ∉ π₀ → a ∉ Fs outer → h'.get? a = some o := fun a o e h1 h2 => t.stays a o (hideAll_get _ e (by rw [List.mem_append, not_or]; exact ⟨h1, h2⟩))
  obtain ⟨hh, tk, rfl⟩ := x.same
  refine ⟨⟨h', tk, rfl⟩, ⟨keep, fun a o e h1 => ?_, fun a o e => ?_⟩, x.grow⟩
  · by_cases h2 : a ∈ Fs outer
    · obtain ⟨sl, h3⟩ := x.ext.slots a o e h1
      obtain ⟨o', h4, h5⟩ := frm a h2
      rw [h3] at h4; cases h4
      obtain ⟨sl', h6⟩ := t.slots a _ h3 h5
      exact ⟨sl', h6⟩
    · exact ⟨o.slots, keep a o e h1 h2⟩
  · by_cases h1 : a ∈ π₀
    · obtain ⟨o', h4, h5⟩ := cel a h1
      obtain ⟨sl', h6⟩ := t.slots a _ h4 h5
      exact ⟨_, h6⟩
    · by_cases h2 : a ∈ Fs outer
      · obtain ⟨o', h4, h5⟩ := frm a h2
        obtain ⟨sl', h6⟩ := t.slots a _ h4 h5
        exact ⟨_, h6⟩
      · exact ⟨o, keep a o e h1 h2⟩
theorem St.touch (x : St am true cx ρ π Hc A s) (ne : NoExc ρ) (low : am.B.StaysIn base) (t : Touch base s.heap h') : St am true cx ρ π Hc A { s with heap := h' } :=
  ⟨x.hr.upto t.slots fun b o e => t.stays b o (low b o e), x.er.upto t.slots ne, x.hd⟩
theorem SEr.back (f : Frm am cx outer s₀) (fr : A.frames = some cx.stack) (low : am.B.StaysIn (ground outer π₀ s₀.heap)) (h : SEr am cx outer true A π₀ s₀ r y s') {E' : Value → Shared → Prop} (ke : ∀ y s, SEr am cx outer true A π₀ s₀ r y s → E' y s) :
    notedBy am.M A cx.env (cameBackBy am.M A cx.env E') y s' := by
  refine hold fun z_ k_ => ?_
  obtain ⟨d, ρ', H', π', e, C, fl, h1, rfl, h3, h4, h5, h6, h7⟩ := h
  refine k_ ?_
  rw [f.top.1] at fr
  have fl' := frames_low (π₀ := π₀) f h5.hr
  rw [f.top.1] at fl'
  unfold notedBy
  refine x_note fr fl' f.top.2 h7 fun h₁ x₁ t₁ => ?_
  have g1 := h4.touch f h5.hr t₁
  have g2 := h5.touch (h6 rfl) low t₁
  unfold cameBackBy
  refine hold fun z_ k_ => ?_
  obtain ⟨_, _, oe, vs, w1, w2, w3, w4, T, oT, ts, w5, w6, w7, w8, w9, w10⟩ := id x₁
  refine k_ ?_
  refine wpAny_bind (wpAny_field w1 w3 w5 ?_)
  rw [if_neg (by simp)]
  refine x_flight (fr := cx.env.frame) x₁ fun h₂ x₂ t₂ => ?_
  exact ke _ _ ⟨d, ρ', H', π', e, C, _, h1, rfl, h3, g1.touch f g2.hr t₂, g2.touch (h6 rfl) low t₂, h6, x₂⟩
theorem forL_nil {b : List V → V → Option (List V)} {body : List V → H → RS} : forL w b body [] ρ h = if w.ok h then .ok .next ρ h else .bad := rfl
theorem forL_cons {b : List V → V → Option (List V)} {body : List V → H → RS} : forL w b body (v :: vs) ρ h = if w.ok h then (match b ρ v with
      | some ρ' => (body ρ' h).then fun ρ h => forL w b body vs ρ h
      | none => .bad) else .bad := rfl
inductive ForInv (am : Amb) (cx : Cx) (outer : List Env) (A : Around) (π₀ : List Addr) (s₀ : Shared) (res π : List Addr) (s : Shared) (Sx : Nat → List Addr → Heap → Prop) (wt : Watch) (bi : List V → V → Option (List V)) (fb : List V → H → RS) (vs : List V) (r : RS) (k : Nat) (s' : Shared) : Prop
  | mk (j : Nat) (ρ' : List V) (H' : H) (π' : List Addr) (e : k = vs.length - j) (hj : j ≤ vs.length) (ne : NoExc ρ') (g1 : Step (Fs outer) π₀ s₀ π' s') (g2 : St am true cx ρ' π' H' A s') (g3 : Mv res (Fs cx.stack) π s π' s') (g4 : Sx j π' s'.heap) (g5 : forL wt bi fb (vs.drop j) ρ' H' = r)
theorem s_for1 {i : Nat} {it : PIt} {body : List PS} {iter : Expr} {v : Str} {p p' : Pos} {ys : List Stmt} (hset : isSet iter = false) (hit : ItJ am n F c it iter) (hbody : SsJ am n true F c body ys)
    (hv : c.var v i = true) (hk : c.names.lookup v ≠ some .free) (hinj : (c.ctx.map (·.2)).Nodup) : SJ am n true F c (.for1 i it body) (.For (.Name v p') iter ys [] p) := fun cx ρ A res outer π₀ s₀ G π Hc s X => by
  have B := X.b
  have shape : exS true F (.for1 i it body) ρ Hc = (evIt true F ρ it Hc).st ρ fun vs h => forL vs.2 (bind1 i) (fun ρ h => exSs true F body ρ h) vs.1 ρ h := by
    simp only [qS_1, qS_2, qS_3, qS_4, qS_5, qS_6, qS_7, qS_8, qS_9, qS_10, qS_11, qS_12, qS_13, qS_14]; rw [if_neg (by simp)]
  rw [shape]
  have hI := hit B X.st
  have key : ∀ (r : RS), r ≠ .bad → (∀ vs wt H1, evIt true F ρ it Hc = .ok (vs, wt) H1 → forL wt (bind1 i) (fun ρ h => exSs true F body ρ h) vs ρ H1 = r) →
      (∀ c' H', evIt true F ρ it Hc = .err c' H' → r = .err c' ρ H') → evIt true F ρ it Hc ≠ .bad →
      SP (am.at res) cx outer true A π₀ s₀ G (fun Q E s => wpAny am.M A (exec (.For (.Name v p') iter ys [] p) cx.env) Q E s) r s := by
    intro r hrb h1 h2 h3
    rcases hI with hI | hI
    · exact absurd hI h3
    · refine .inr ?_
      have erp : ∀ y s', ErP (am.at res) cx.stack π s (evIt true F ρ it Hc) y s' → SEr (am.at res) cx outer true A π₀ s₀ r y s' := fun y s' h => by
        refine hold fun z_ k_ => ?_
        obtain ⟨c', H'', π', e', C, fl, hh, g2, g3, g4, g5, g6⟩ := h
        refine k_ ?_
        have Y := X.step g4 g5
        exact ⟨c', ρ, H'', π', e', C, fl, h2 c' H'' hh, g2, g3, Y.go, Y.st, X.b.ne, g6.mono (ground_in X.f X.go)⟩
      refine wp_gen fun Q' E' kq ke => ?_
      replace erp := fun y s' h => ke y s' (erp y s' h)
      refine wpAny_For (wpAny_mono hI (fun xv s₁ h₁ => wpAny_mono h₁ (fun itv s₂ h₂ => ?_) erp) erp) (set_iter hset cx.env)
      refine hold fun z_ k_ => ?_
      obtain ⟨⟨vs, wt⟩, H1, π1, e1, e2, e3, I, rfl, e5, e6, ⟨Sx, IT, e7⟩, _⟩ := h₂
      refine k_ ?_
      have e0 := h1 vs wt H1 e1
      have fr : A.frames = some cx.stack := B.as.frames
      have back : ∀ y s', SEr (am.at res) cx outer true A π₀ s₀ r y s' → notedBy am.M A cx.env (cameBackBy am.M A cx.env E') y s' := fun y s' h => SEr.back X.f fr X.low h ke
      have hs0I : s₀.heap.get? I = none := by
        cases hq : s₀.heap.get? I with
        | none => rfl
        | some o => obtain ⟨o', z⟩ := X.go.ext.alive I o hq; rw [e5] at z; cases z
      have poke : ∀ {ρ' : List V} {π' : List Addr} {H' : H} {s' : Shared} {h' : Heap} {tk k : Nat}, NoExc ρ' → Step (Fs outer) π₀ s₀ π' s' → St (am.at res) true cx ρ' π' H' A s' → Mv res (Fs cx.stack) π s π' s' → Sx k π' s'.heap → Poke I s'.heap h' →
          Step (Fs outer) π₀ s₀ π' { s' with heap := h', toks := tk } ∧ St (am.at res) true cx ρ' π' H' A { s' with heap := h', toks := tk } ∧ Mv res (Fs cx.stack) π s π' { s' with heap := h', toks := tk } := by
        intro ρ' π' H' s' h' tk k ne g1 g2 g3 g4 pk
        refine hold fun z_ k_ => ?_
        obtain ⟨_, _, o, us, ho, hd⟩ := IT.own k π' _ g4
        refine k_ ?_
        exact ⟨g1.poke hs0I pk, ⟨g2.hr.poke pk ho hd e6, g2.er.upto (pk.slots ho hd) ne, g2.hd⟩, g3.poke (.inr e5) pk⟩
      refine hold fun z_ k_ => ?_
      obtain ⟨Inv, toInv, ofInv⟩ : ∃ Inv : Nat → Shared → Prop, (∀ k s', ForInv (am.at res) cx outer A π₀ s₀ res π s Sx wt (bind1 i) (fun ρ h => exSs true F body ρ h) vs r k s' → Inv k s') ∧ (∀ k s', Inv k s' → ForInv (am.at res) cx outer A π₀ s₀ res π s Sx wt (bind1 i) (fun ρ h => exSs true F body ρ h) vs r k s') := ⟨_, fun z_ z_ h => h, fun z_ z_ h => h⟩
      refine k_ ?_
      refine codeAny_forLoop_any Inv
        (fun k s' hk' => ?_) vs.length (toInv _ _ ⟨0, ρ, H1, π1, by omega, by omega, B.ne rfl, X.go.inn X.f e2, X.st.step e2 e3, .of e2, e7, by simpa using e0⟩)
      refine hold fun z_ k_ => ?_
      obtain ⟨j, ρ', H', π', rfl, hj, ne, g1, g2, g3, g4, g5⟩ := ofInv _ _ hk'
      refine k_ ?_
      rcases Nat.lt_or_ge j vs.length with hlt | hge
      · have hdrop : vs.drop j = vs[j] :: vs.drop (j + 1) := List.drop_eq_getElem_cons hlt
        rw [hdrop, forL_cons] at g5
        by_cases hw : wt.ok H' = true
        · rw [if_pos hw] at g5
          simp only [bind1] at g5
          refine IT.item j π' H' s' vs[j] _ _ g4 g2.hr hw (by simp [hlt]) fun x h' tk pk hx hs' => ?_
          obtain ⟨k1, k2, k3⟩ := poke (tk := tk) ne g1 g2 g3 g4 pk
          show wpAny am.M A (letOwnedTupleGo (.Name v p') (.ref I) x) _ _ _
          refine wpAny_of_eq (a := ()) rfl ?_
          let G' : List Addr → Shared → Prop := fun π' s' => Mv res (Fs cx.stack) π s π' s' ∧ Sx (j + 1) π' s'.heap
          have Y : Stm am n true F c cx A res outer π₀ s₀ G' ρ' π' H' { s' with heap := h', toks := tk } :=
            ⟨B.set fun z_ => ne, X.f, k1, k2, X.low, ⟨k3, hs'⟩, fun z_ z_ z_ z_ h m => ⟨h.1.trans m, IT.move _ _ _ _ _ h.2 m⟩⟩
          refine wpAny_assign_Name (assign_ok Y hx hv hk hinj fun s'' Z z_ z_ => ?_)
          rcases hbody Z with hb | hb
          · rw [hb] at g5; exact absurd g5.symm hrb
          · refine wpAny_mono hb (fun fl s3 hs3 => ?_) fun y s3 hs3 => ?_
            · refine hold fun z_ k_ => ?_
              obtain ⟨f', ρ2, H2, π2, z1, z2, z3, z4, z5, z6⟩ := hs3
              refine k_ ?_
              rw [z1] at g5
              cases f' with
              | next =>
                cases z5
                exact ⟨vs.length - (j + 1), by omega, toInv _ _ ⟨j + 1, ρ2, H2, π2, rfl, by omega, z4 rfl, z2, z3, z6.1, z6.2, by simpa using g5⟩⟩
              | ret w =>
                obtain ⟨xv, rfl, hxv⟩ := z5
                exact kq _ _ ⟨.ret w, ρ2, H2, π2, g5.symm, z2, z3, z4, ⟨xv, rfl, hxv⟩, X.gk _ _ _ _ X.g z6.1⟩
            · refine hold fun z_ k_ => ?_
              obtain ⟨d, ρ2, H2, π2, e', C, fl, z1, z2, z3, z4, z5, z6, z7⟩ := hs3
              refine k_ ?_
              rw [z1] at g5
              exact back y s3 ⟨d, ρ2, H2, π2, e', C, fl, g5.symm, z2, z3, z4, z5, z6, z7⟩
        · rw [if_neg hw] at g5; exact absurd g5.symm hrb
      · have hje : j = vs.length := by omega
        subst hje
        rw [List.drop_length, forL_nil] at g5
        by_cases hw : wt.ok H' = true
        · rw [if_pos hw] at g5
          refine IT.done π' H' s' _ _ g4 g2.hr hw fun h' tk pk => ?_
          obtain ⟨k1, k2, k3⟩ := poke (tk := tk) ne g1 g2 g3 g4 pk
          refine wpAny_execs_nil ?_
          exact kq _ _ ⟨.next, ρ', H', π', g5.symm, k1, k2, fun z_ => ne, rfl, X.gk _ _ _ _ X.g k3⟩
        · rw [if_neg hw] at g5; exact absurd g5.symm hrb
  cases hev : evIt true F ρ it Hc with
  | bad => exact .inl rfl
  | err c' H' => exact key _ (by simp [R.st]) (fun z_ z_ z_ z => by rw [hev] at z; cases z) (fun z_ z_ z => by rw [hev] at z; cases z; rfl) (by rw [hev]; simp)
  | ok b H1 =>
    obtain ⟨vs, wt⟩ := b
    simp only [R.st_ok]
    by_cases hb : forL wt (bind1 i) (fun ρ h => exSs true F body ρ h) vs ρ H1 = .bad
    · exact .inl hb
    · refine key _ hb (fun vs' wt' H1' z => ?_) (fun z_ z_ z => by rw [hev] at z; cases z) (by rw [hev]; simp)
      rw [hev] at z; cases z; rfl
end
section
variable {am : Amb} {n : Nat} {F : Fn} {c : Ck}
inductive WhInv (am : Amb) (cx : Cx) (outer : List Env) (A : Around) (π₀ : List Addr) (s₀ : Shared) (res π : List Addr) (s : Shared) (f : Nat → List V → H → RS) (r : RS) (k : Nat) (s' : Shared) : Prop
  | mk (ρ' : List V) (H' : H) (π' : List Addr) (ne : NoExc ρ') (g1 : Step (Fs outer) π₀ s₀ π' s') (g2 : St am true cx ρ' π' H' A s') (g3 : Mv res (Fs cx.stack) π s π' s') (g5 : f k ρ' H' = r)
theorem whileL_succ (t : PE) (body : List PS) (k : Nat) (ρ : List V) (h : H) : whileL (fun ρ h => evE true F ρ t h) (fun ρ h => exSs true F body ρ h) (k + 1) ρ h =
    (tr (evE true F ρ t h)).st ρ fun b h => if b then (exSs true F body ρ h).then fun ρ h => whileL (fun ρ h => evE true F ρ t h) (fun ρ h => exSs true F body ρ h) k ρ h else .ok .next ρ h := by
  rw [whileL]
  cases evE true F ρ t h with
  | ok v h =>
    simp only [tr, R.bind_ok, R.st_ok]
    cases truthy v with
    | none => rfl
    | some u => cases u <;> rfl
  | _ => rfl
theorem s_while {t : PE} {body : List PS} {y : Expr} {ys : List Stmt} {p : Pos} (ht : TJ am n true F c t y) (hbody : SsJ am n true F c body ys) : SJ am n true F c (.while t body) (.While y ys [] p) := fun cx ρ A res outer π₀ s₀ G π Hc s X => by
  have B := X.b
  have shape : exS true F (.while t body) ρ Hc = whileL (fun ρ h => evE true F ρ t h) (fun ρ h => exSs true F body ρ h) turns ρ Hc := by
    rw [qS_10, if_neg (by decide)]
  rw [shape]
  generalize hr : whileL (fun ρ h => evE true F ρ t h) (fun ρ h => exSs true F body ρ h) turns ρ Hc = r
  by_cases hrb : r = .bad
  · exact .inl hrb
  refine .inr (wp_gen fun Q' E' kq ke => ?_)
  have fr : A.frames = some cx.stack := B.as.frames
  have back : ∀ y s', SEr (am.at res) cx outer true A π₀ s₀ r y s' → notedBy am.M A cx.env (cameBackBy am.M A cx.env E') y s' := fun y s' h => SEr.back X.f fr X.low h ke
  refine hold fun z_ k_ => ?_
  obtain ⟨Inv, toInv, ofInv⟩ : ∃ Inv : Nat → Shared → Prop, (∀ k s', WhInv (am.at res) cx outer A π₀ s₀ res π s (whileL (fun ρ h => evE true F ρ t h) (fun ρ h => exSs true F body ρ h)) r k s' → Inv k s') ∧ (∀ k s', Inv k s' → WhInv (am.at res) cx outer A π₀ s₀ res π s (whileL (fun ρ h => evE true F ρ t h) (fun ρ h => exSs true F body ρ h)) r k s') := ⟨_, fun z_ z_ h => h, fun z_ z_ h => h⟩
  refine k_ ?_
  refine wpAny_While (codeAny_whileLoop Inv (fun k s' hk => ?_) turns (toInv _ _ ⟨ρ, Hc, π, B.ne rfl, X.go, X.st, .of (Step.refl _ _ _), hr⟩))
  refine hold fun z_ k_ => ?_
  obtain ⟨ρ', H', π', ne, g1, g2, g3, g5⟩ := ofInv _ _ hk
  refine k_ ?_
  cases k with
  | zero => exact absurd g5.symm hrb
  | succ k =>
    rw [whileL_succ] at g5
    have Y : Stm am n true F c cx A res outer π₀ s₀ (fun π' s' => Mv res (Fs cx.stack) π s π' s') ρ' π' H' s' := ⟨B.set fun z_ => ne, X.f, g1, g2, X.low, g3, fun z_ z_ z_ z_ h m => h.trans m⟩
    rcases ht Y.b Y.st with hb | hb
    · rw [hb] at g5; exact absurd g5.symm hrb
    · refine wpAny_mono hb (fun b s2 h2 => ?_) fun e s2 h2 => ?_
      · refine hold fun z_ k_ => ?_
        obtain ⟨b', H2, π2, e1, e2, e3, e4⟩ := h2
        refine k_ ?_
        unfold BR at e4; subst e4
        rw [e1, R.st_ok] at g5
        have Z := Y.step e2 e3
        cases b' with
        | false =>
          rw [if_neg (by simp)] at g5 ⊢
          exact wpAny_execs_nil (kq _ _ ⟨.next, ρ', H2, π2, g5.symm, Z.go, Z.st, fun z_ => ne, rfl, X.gk _ _ _ _ X.g Z.g⟩)
        | true =>
          rw [if_pos rfl] at g5 ⊢
          rcases hbody Z with hb | hb
          · rw [hb] at g5; exact absurd g5.symm hrb
          · refine wpAny_mono hb (fun fl s3 hs3 => ?_) fun y s3 hs3 => ?_
            · refine hold fun z_ k_ => ?_
              obtain ⟨f', ρ2, H2, π2, z1, z2, z3, z4, z5, z6⟩ := hs3
              refine k_ ?_
              rw [z1] at g5
              cases f' with
              | next =>
                cases z5
                exact ⟨k, Nat.lt_succ_self k, toInv _ _ ⟨ρ2, H2, π2, z4 rfl, z2, z3, z6, g5⟩⟩
              | ret w =>
                obtain ⟨xv, rfl, hxv⟩ := z5
                exact kq _ _ ⟨.ret w, ρ2, H2, π2, g5.symm, z2, z3, z4, ⟨xv, rfl, hxv⟩, X.gk _ _ _ _ X.g z6⟩
            · refine hold fun z_ k_ => ?_
              obtain ⟨d, ρ2, H2, π2, e', C, fl, z1, z2, z3, z4, z5, z6, z7⟩ := hs3
              refine k_ ?_
              rw [z1] at g5
              exact back y s3 ⟨d, ρ2, H2, π2, e', C, fl, g5.symm, z2, z3, z4, z5, z6, z7⟩
      · refine hold fun z_ k_ => ?_
        obtain ⟨c', H2, π2, e', C, fl, e1, e2, e3, e4, e5, e6⟩ := h2
        refine k_ ?_
        rw [e1] at g5
        have Z := Y.step e4 e5
        exact back e s2 ⟨c', ρ', H2, π2, e', C, fl, g5.symm, e2, e3, Z.go, Z.st, fun z_ => ne, e6.mono (ground_in X.f g1)⟩
end
theorem tail_keeps {h h' : Heap} {bmB tl : List Value} (T : OwnTail h bmB tl) (hk : ∀ b o, h.get? b = some o → h'.get? b = some o) : OwnTail h' bmB tl := by
  induction T with
  | base => exact .base
  | own h1 h2 h3 _ ih => exact .own (hk _ _ h1) (ns_stays hk h2) h3 ih
section
variable {am : Amb} {n : Nat} {q : Bool} {F : Fn} {c : Ck}
theorem s_raise {d : String} {t : Str} {k : Nat} {np cpos pos p : Pos} (hd : d ∈ excNames) (hg : c.glob (Str.ofString d) = true) :
    SJ am n q F c (.raise d) (.Raise (some (.Call (.Name (Str.ofString d) np) [.Constant (.str t) k p] [] cpos)) none pos) := fun cx ρ A res outer π₀ s₀ G π Hc s x => by
  simp only [qS_1, qS_2, qS_3, qS_4, qS_5, qS_6, qS_7, qS_8, qS_9, qS_10, qS_11, qS_12, qS_13, qS_14]
  cases q with
  | false => exact .inl rfl
  | true =>
    rw [if_neg (by simp)]
    obtain ⟨C, X⟩ := x.b.ok.exc d hd
    refine hold fun z_ k_ => ?_
    obtain ⟨nm, qn, N, bs, bm, hdct, sn, sub, ab, col, dd, k0, k1, k2, k3, k5, mN, r1, r2, r3, r4⟩ := x.b.ok.rs d hd C X.name
    refine k_ ?_
    have hpl : backTo cpos (starEach [.Constant (.str t) k p] cx.env) = plainArgs [.Constant (.str t) k p] cx.env := starEach_plain _ (fun z hz => by rw [List.mem_singleton.mp hz]; rfl) _
    have kb := x.st.hr.base
    refine .inr (wpAny_Raise_call_subT (C := C) (nm := nm) (q := qn) (N := N) (bs := bs) (bm := bm) (hdct := hdct) (sn := sn) (sub := sub) (ab := ab) (col := col) (dd := dd) (k0 := k0) (k1 := k1) (k2 := k2) (k3 := k3) (k5 := k5) _root_.PySem.F.excBase_ValueError (r4.tail.hasType (by decide)) x.st.hd (by rw [hpl]; rfl) (r3 _ (.head _)) (wp_glob x.b x.st.hr hg X.name ⟨rfl, ?_⟩))
    rw [hpl]
    refine Calls.evalArgs_plain (spl1 (wpAny_Constant_str ⟨rfl, by simp; decide, kb _ _ r1, ns_stays kb r2, tail_keeps r4.tail kb, fun h' e hm => ?_⟩))
    have y : Step (Fs cx.stack) π s π { s with heap := h', toks := s.toks + 1 } := .keeps hm.keeps
    have Y := x.step y (x.st.hr.keeps hm.keeps)
    refine hold fun z_ k_ => ?_
    obtain ⟨t', e1, e2, e3⟩ := hm.there
    refine k_ ?_
    have low : (ground outer π₀ s₀.heap).StaysIn s.heap := fun b o e => of_hideAll _ (ground_in x.f x.go b o e)
    exact ⟨d, ρ, Hc, π, e, C, none, rfl, rfl, X.name, Y.go, Y.st, x.b.ne, ⟨fun b o e => hm.keeps b o (low b o e), none_of_stays low hm.new, _, _, e1, ⟨rfl, rfl⟩, rfl, rfl, rfl⟩⟩
theorem ER.setLocal {am : Amb} {cx : Cx} {ρ : List V} {π : List Addr} {h h' : Heap} {v : Str} {i : Nat} {w : V} {xo : Option Value} {m : Str → Option Value} (er : ER am cx ρ π h) (hm : h.Ns cx.env.locals m) (hn' : h'.Ns cx.env.locals (fun y => if y = v then xo else m y)) (p : Poke cx.env.locals h h') (hres : cx.env.locals ∈ am.res)
    (hv : cx.ctx.lookup v = some i) (hkl : cx.env.kindOf v = some .local) (uniq : ∀ z, cx.ctx.lookup z = some i → z = v) (hw : w ≠ .undef → ∃ xv, xo = some xv ∧ SR am π h' w xv) : ER am cx (ρ.set i w) π h' := by
  have hlt : ∀ u, (ρ.set i w)[i]? = some u → u = w := fun u hu => by
    have hl : i < ρ.length := by have := (List.getElem?_eq_some_iff.mp hu).1; simpa using this
    rw [List.getElem?_set_self hl] at hu; cases hu; rfl
  refine ⟨⟨_, hn'⟩, er.locOff, fun z d hd => ?_, er.apart, fun z j u e1 e2 e3 e4 => ?_⟩
  · refine hold fun z_ k_ => ?_
    obtain ⟨a1, a2, u, o, ho, r⟩ := er.cellOff z d hd
    refine k_ ?_
    exact ⟨a1, a2, u, o, p d o a2 ho, r⟩
  · by_cases hj : j = i
    · subst hj
      have := uniq z e1; subst this
      have := hlt u e2; subst this
      obtain ⟨xv, rfl, hs⟩ := hw e3
      exact ⟨xv, .inl ⟨hkl, _, hn', by simp⟩, hs⟩
    · have hz : z ≠ v := fun q => by subst q; rw [hv] at e1; cases e1; exact hj rfl
      rw [List.getElem?_set_ne (Ne.symm hj)] at e2
      obtain ⟨x', e5, e6⟩ := er.var z j u e1 e2 e3 e4
      refine ⟨x', ?_, ?_⟩
      · rcases e5 with ⟨k, m', e7, e8⟩ | ⟨k, d, e7, o, ho, r⟩
        · refine .inl ⟨k, _, hn', ?_⟩
          have hmm : m z = m' z := by
            refine hold fun z_ k_ => ?_
            obtain ⟨o1, es1, ep1, a1, a2, a3, a4⟩ := hm
            refine k_ ?_
            refine hold fun z_ k_ => ?_
            obtain ⟨o2, es2, ep2, b1, b2, b3, b4⟩ := e7
            refine k_ ?_
            rw [a1] at b1; cases b1; rw [a2] at b2; cases b2
            rw [← a4 z, ← b4 z]
          simp only [hz, if_false]
          rw [hmm]; exact e8
        · exact .inr ⟨k, d, e7, o, p d o (er.cellOff z d e7).2.1 ho, r⟩
      · rcases e6 with e6 | ⟨d, a, f1, f2, f3, C', o, vs, g1, g2, g3, g4, g5⟩
        · exact .inl (e6.free fun b o hb z => p b o (fun q => hb (q ▸ hres)) z)
        · exact .inr ⟨d, a, f1, f2, f3, C', o, vs, g1, p a o (fun q => (ne_nf (Ns.nf hm) g2 g4) q.symm) g2, g3, g4, g5⟩
theorem one_slot (ck : CkR am c cx) (h1 : c.ctx.lookup v = some i) (hinj : (c.ctx.map (·.2)).Nodup) : ∀ z, cx.ctx.lookup z = some i → z = v := by
  intro z hz
  rw [ck.ctx] at hz
  have a1 := lookup_mem hz
  have a2 := lookup_mem h1
  have : ∀ (l : List (Str × Nat)), (l.map (·.2)).Nodup → (z, i) ∈ l → (v, i) ∈ l → z = v := by
    intro l
    induction l with
    | nil => intro _ h _; simp at h
    | cons p l ih =>
      intro hn hz hy
      rw [List.map_cons, List.nodup_cons] at hn
      rcases List.mem_cons.mp hz with hz1 | hz2
      · rcases List.mem_cons.mp hy with hy1 | hy2
        · rw [← hz1] at hy1; cases hy1; rfl
        · exact absurd (List.mem_map.mpr ⟨(v, i), hy2, by rw [← hz1]⟩ : p.2 ∈ l.map (·.2)) hn.1
      · rcases List.mem_cons.mp hy with hy1 | hy2
        · exact absurd (List.mem_map.mpr ⟨(z, i), hz2, by rw [← hy1]⟩ : p.2 ∈ l.map (·.2)) hn.1
        · exact ih hn.2 hz2 hy2
  exact this _ hinj a1 a2
theorem rec_off {am : Amb} {stack : List Env} {π : List Addr} {Hc : H} {h : Heap} (hr : HR am stack π Hc h) {e : Addr} {o : Obj} {vs : Array Value} (ho : h.get? e = some o) (hd : o.data = .fields vs) : e ∉ π ∧ e ∉ Fs stack := by
  refine ⟨fun hm => ?_, fun hm => ?_⟩
  · obtain ⟨i, hi, e1⟩ := List.getElem_of_mem hm
    have h1 : π[i]? = some e := by rw [List.getElem?_eq_getElem hi, e1]
    have h2 : i < Hc.length := by rw [← hr.len]; exact hi
    obtain ⟨o', ho', hn⟩ := (hr.cell i Hc[i] e (by simp [h2]) h1).obj
    rw [ho] at ho'; cases ho'; exact hn vs hd
  · refine hold fun z_ k_ => ?_
    obtain ⟨_, o', ho', hn⟩ := hr.frames.mem hm
    refine k_ ?_
    rw [ho] at ho'; cases ho'; exact hn vs hd
theorem try_shape : exS true F (.try body "RingError" i [.ret (.callX f i)]) ρ Hc = (match exSs true F body ρ Hc with
    | .err d ρ' H' => if excNames.contains d then (match evE false F (ρ'.set i (.exc d)) (.callX f i) H' with
      | .ok w H2 => .ok (.ret w) ((ρ'.set i (.exc d)).set i .undef) H2
      | _ => .bad) else .bad
    | r => r) := by
  simp only [qS_1, qS_2, qS_3, qS_4, qS_5, qS_6, qS_7, qS_8, qS_9, qS_10, qS_11, qS_12, qS_13, qS_14]
  rw [if_neg (by simp)]
  cases exSs true F body ρ Hc with
  | bad => rfl
  | ok f ρ h => rfl
  | err d ρ' H' =>
    simp only [beq_self_eq_true, Bool.and_true, qSs_1, qSs_2, qS_1, qS_2, qS_3, qS_4, qS_5, qS_6, qS_7, qS_8, qS_9, qS_10, qS_11, qS_12, qS_13, qS_14]
    split
    · cases evE false F (ρ'.set i (.exc d)) (.callX f i) H' <;> rfl
    · rfl
theorem s_try {body : List PS} {ys : List Stmt} {i : Nat} {f : String} {v : Str} {p p1 p2 p3 p4 tp hp : Pos} (hbody : SsJ am n true F c body ys) (hg : c.glob (Str.ofString "RingError") = true) (hv : c.var v i = true) (hkl : c.names.lookup v = some .local) (hinj : (c.ctx.map (·.2)).Nodup)
    (hx : c.glob (Str.ofString f) = true) (hf : f ∈ c.fns) {cx : Cx} {ρ : List V} {A : Around} {res : List Addr} {outer : List Env} {π₀ : List Addr} {s₀ : Shared} {π : List Addr} {Hc : H} {s : Shared} (X : Stm am n true F c cx A res outer π₀ s₀ (fun z_ z_ => True) ρ π Hc s) :
    SP (am.at res) cx outer true A π₀ s₀ (fun z_ z_ => True) (fun Q E s => wpAny am.M A (exec (.Try ys [.ExceptHandler (some (.Name (Str.ofString "RingError") tp)) (some v) [.Return (some (.Call (.Name (Str.ofString f) p1) [.Name v p2] [] p3)) p4] hp] [] [] p) cx.env) Q E s)
      (exS true F (.try body "RingError" i [.ret (.callX f i)]) ρ Hc) s := by
  rw [try_shape]
  rcases hbody X with hb | hb
  · rw [hb]; exact .inl rfl
  cases hr : exSs true F body ρ Hc with
  | bad => exact .inl rfl
  | ok fl ρ' H' =>
    rw [hr] at hb
    refine .inr (wpAny_Try_except (wpAny_mono hb (fun g s' z => ?_) fun y s' z => ?_))
    · refine hold fun z_ k_ => ?_
      obtain ⟨fl', ρ2, H2, π2, z1, z2, z3, z4, z5, z6⟩ := z
      refine k_ ?_
      cases z1
      cases fl with
      | next => cases z5; exact wpAny_execs_nil ⟨.next, _, _, π2, rfl, z2, z3, z4, rfl, trivial⟩
      | ret w => obtain ⟨xv, rfl, hxv⟩ := z5; exact ⟨.ret w, _, _, π2, rfl, z2, z3, z4, ⟨xv, rfl, hxv⟩, trivial⟩
    · obtain ⟨_, _, _, _, _, _, _, z, _⟩ := z; cases z
  | err d ρ' H' =>
    rw [hr] at hb
    simp only
    by_cases hdc : excNames.contains d = true
    · rw [if_pos hdc]
      have hdm : d ∈ excNames := by simpa using hdc
      cases hev : evE false F (ρ'.set i (.exc d)) (.callX f i) H' with
      | bad => exact .inl rfl
      | err _ _ => exact .inl rfl
      | ok w H2 =>
        simp only
        refine .inr (wp_gen fun Q' E' kq z_ => ?_)
        refine wpAny_Try_except (wpAny_mono hb (fun g s' z => ?_) fun y s' z => ?_)
        · obtain ⟨_, _, _, _, z, _⟩ := z; cases z
        refine hold fun z_ k_ => ?_
        obtain ⟨d', ρ2, H3, π', e, C, fl, z1, rfl, hC, g1, g2, ne, x0⟩ := z
        refine k_ ?_
        cases z1
        have fr : A.frames = some cx.stack := X.b.as.frames
        have ne := ne rfl
        have fr' : A.frames = some (cx.env :: outer) := by rw [← X.f.top.1]; exact fr
        have fl' := frames_low (π₀ := π₀) X.f g2.hr
        rw [X.f.top.1] at fl'
        refine x_note fr' fl' X.f.top.2 x0 fun h₁ x₁ t₁ => ?_
        have g1 := g1.touch X.f g2.hr t₁
        have g2 := g2.touch ne X.low t₁
        refine x_flight (fr := none) x₁ fun h₂ x₂ t₂ => ?_
        have g1 := g1.touch X.f g2.hr t₂
        have g2 := g2.touch ne X.low t₂
        obtain ⟨D, XD⟩ := X.b.ok.exc "RingError" (by simp [excNames])
        have AS' : AS n cx.stack (A.mark (some (.ref e))) := ⟨X.b.as.frames, X.b.as.depth, X.b.as.units⟩
        have BF : ∀ ρ, Base am n false F c cx ρ (A.mark (some (.ref e))) := fun ρ => ⟨X.b.ok, X.b.fn, X.b.ck, X.b.cxk, AS', fun q => by cases q⟩
        refine wpAny_handleBy_cons (codeAny_handlers_test (wp_glob (BF ρ') g2.hr hg XD.name ?_)) (by intro q; cases q)
        refine hold fun z_ k_ => ?_
        obtain ⟨_, _, oe, vs, w1, w2, w3, w4, _⟩ := id x₂
        refine k_ ?_
        have LT : Looks am.M h₂ (typeOf (.ref e)) (.ref C) := by
          rw [← w2.1]
          exact (Looks.ld w1).andThen .now
        have XK : Frag.In am.K h₂ := fun a o q => g2.hr.base a o (X.b.ok.K a o q)
        refine (exm_one (M := am.M) XK LT (X.b.ok.exm d hdm C D hC XD.name)) _ _ _ _ (fun z_ z_ q => q) ?_
        refine codeAny_handlers_suite_as (x_flight (fr := none) x₂ fun h₃ x₃ t₃ => ?_)
        have g1 := g1.touch X.f g2.hr t₃
        have g2 := g2.touch ne X.low t₃
        have hv0 := hv
        unfold Ck.var at hv
        simp only [Bool.and_eq_true, beq_iff_eq, Bool.not_eq_true'] at hv
        refine hold fun z_ k_ => ?_
        obtain ⟨⟨⟨hv1, hv2⟩, hv3⟩, hv4⟩ := hv
        refine k_ ?_
        have hkl' : cx.env.kindOf v = some .local := by rw [kind_is X.b.ck]; exact hkl
        have hctx : cx.ctx.lookup v = some i := by rw [X.b.ck.ctx]; exact hv1
        have uniq := one_slot X.b.ck hv1 hinj
        obtain ⟨m, hm⟩ := g2.er.ns
        refine wpAny_storeName_local hkl' hm (fun h₄ hn₄ sb₄ => ?_) (by simp [X.b.cxk.kind])
        have p₄ : Poke cx.env.locals h₃ h₄ := fun b o hb q => sb₄.extBut b o hb q
        refine hold fun z_ k_ => ?_
        obtain ⟨st3, bn3, oe3, vs3, q1, q2, q3, q4, _⟩ := id x₃
        refine k_ ?_
        have off := rec_off g2.hr q1 q3
        have hel : e ≠ cx.env.locals := fun q => (ne_nf (Ns.nf hm) q1 q3) q.symm
        have hr4 : HR (am.at res) cx.stack π' H' h₄ := g2.hr.freed X.f.res X.f.base g2.er.locOff p₄ (Ns.nf hn₄)
        have ex4 : ExcAt (am.at res) h₄ d e := ⟨C, oe3, vs3, hC, p₄ e oe3 hel q1, q2, q3, q4, none_of_stays X.low bn3⟩
        have er4 : ER (am.at res) cx (ρ'.set i (.exc d)) π' h₄ := ER.setLocal (am := am.at res) g2.er hm hn₄ p₄ X.f.res hctx hkl' uniq (fun z_ => ⟨.ref e, rfl, .inr ⟨d, e, rfl, rfl, off.1, ex4⟩⟩)
        have hd4 : Hd false (A.mark (some (.ref e))) π' (Fs cx.stack) h₄ := ⟨e, oe3, vs3, rfl, off.1, off.2, p₄ e oe3 hel q1, q3, q4⟩
        have g1 := g1.poke (tk := s'.toks + 1) X.f.fresh p₄
        have J := ej_callX (p := p1) (p' := p3) (p2 := p2) hx hf hv0 (BF (ρ'.set i (.exc d))) (s := { s' with heap := h₄, toks := s'.toks + 1 }) ⟨hr4, er4, hd4⟩
        rw [hev] at J
        rcases J with J | J
        · cases J
        refine wpAny_execs_cons (wpAny_Return_some (wpAny_mono J (fun xv s₅ z => ?_) fun y s₅ z => ?_))
        · refine hold fun z_ k_ => ?_
          obtain ⟨b, H4, π5, z1, z2, z3, z4⟩ := z
          refine k_ ?_
          cases z1
          have er5 := er4.step (s' := s₅) z2
          obtain ⟨m5, hm5⟩ := er5.ns
          have g1 := g1.inn X.f z2
          refine wpAny_nameGoes_keeps hkl' hm5 (by simp [X.b.cxk.kind]) fun h₆ v₆ hn₆ sb₆ => ?_
          have p₆ : Poke cx.env.locals s₅.heap h₆ := fun b o hb q => sb₆.extBut b o hb q
          have g1 := g1.poke (tk := s₅.toks + 1) X.f.fresh p₆
          refine kq _ _ ⟨.ret w, _, _, π5, rfl, g1, ⟨z3.freed X.f.res X.f.base er5.locOff p₆ (Ns.nf hn₆), ER.setLocal (am := am.at res) er5 hm5 hn₆ p₆ X.f.res hctx hkl' uniq (fun q => absurd rfl q), X.st.hd⟩, fun z_ => ?_, ⟨xv, rfl, z4.free fun b o hb z => p₆ b o (fun q => hb (q ▸ X.f.res)) z⟩, trivial⟩
          intro u hu k hk
          rw [List.set_set] at hu
          exact ne.set (v := .undef) (by simp) u hu k hk
        · obtain ⟨_, _, _, _, _, _, z, _⟩ := z; cases z
    · rw [if_neg hdc]; exact .inl rfl
end
noncomputable def yExpr (e : Stmt) (p : Expr → Bool) : Bool := dite (e.ctorIdx = 24) (fun hc => (@Stmt.Expr.elim (fun z_ => Bool) e hc fun y z_ => p y)) fun z_ => false
theorem expr_any {p : Expr → Bool} {G : Stmt → Prop} (h : yExpr e p = true) (k : ∀ y q, p y = true → G (.Expr y q)) : G e :=
  dite_any h fun hc h => @Stmt.Expr.elim (fun e => ∀ hc : e.ctorIdx = 24, (@Stmt.Expr.elim (fun z_ => Bool) e hc fun y z_ => p y) = true → G e) e hc (fun y q z_ h => k y q h) hc h
noncomputable def yAsg (e : Stmt) (p : List Expr → Expr → Bool) : Bool := dite (e.ctorIdx = 5) (fun hc => (@Stmt.Assign.elim (fun z_ => Bool) e hc fun ts y z_ => p ts y)) fun z_ => false
theorem asg_any {p : List Expr → Expr → Bool} {G : Stmt → Prop} (h : yAsg e p = true) (k : ∀ ts y q, p ts y = true → G (.Assign ts y q)) : G e :=
  dite_any h fun hc h => @Stmt.Assign.elim (fun e => ∀ hc : e.ctorIdx = 5, (@Stmt.Assign.elim (fun z_ => Bool) e hc fun ts y z_ => p ts y) = true → G e) e hc (fun ts y q z_ h => k ts y q h) hc h
noncomputable def yRet (e : Stmt) (p : Option Expr → Bool) : Bool := dite (e.ctorIdx = 3) (fun hc => (@Stmt.Return.elim (fun z_ => Bool) e hc fun y z_ => p y)) fun z_ => false
theorem ret_any {p : Option Expr → Bool} {G : Stmt → Prop} (h : yRet e p = true) (k : ∀ y q, p y = true → G (.Return y q)) : G e :=
  dite_any h fun hc h => @Stmt.Return.elim (fun e => ∀ hc : e.ctorIdx = 3, (@Stmt.Return.elim (fun z_ => Bool) e hc fun y z_ => p y) = true → G e) e hc (fun y q z_ h => k y q h) hc h
noncomputable def yIf (e : Stmt) (p : Expr → List Stmt → List Stmt → Bool) : Bool := dite (e.ctorIdx = 12) (fun hc => (@Stmt.If.elim (fun z_ => Bool) e hc fun t a b z_ => p t a b)) fun z_ => false
theorem ifs_any {p : Expr → List Stmt → List Stmt → Bool} {G : Stmt → Prop} (h : yIf e p = true) (k : ∀ t a b q, p t a b = true → G (.If t a b q)) : G e :=
  dite_any h fun hc h => @Stmt.If.elim (fun e => ∀ hc : e.ctorIdx = 12, (@Stmt.If.elim (fun z_ => Bool) e hc fun t a b z_ => p t a b) = true → G e) e hc (fun t a b q z_ h => k t a b q h) hc h
noncomputable def yWhile (e : Stmt) (p : Expr → List Stmt → List Stmt → Bool) : Bool := dite (e.ctorIdx = 11) (fun hc => (@Stmt.While.elim (fun z_ => Bool) e hc fun t a b z_ => p t a b)) fun z_ => false
theorem while_any {p : Expr → List Stmt → List Stmt → Bool} {G : Stmt → Prop} (h : yWhile e p = true) (k : ∀ t a b q, p t a b = true → G (.While t a b q)) : G e :=
  dite_any h fun hc h => @Stmt.While.elim (fun e => ∀ hc : e.ctorIdx = 11, (@Stmt.While.elim (fun z_ => Bool) e hc fun t a b z_ => p t a b) = true → G e) e hc (fun t a b q z_ h => k t a b q h) hc h
noncomputable def yFor (e : Stmt) (p : Expr → Expr → List Stmt → List Stmt → Bool) : Bool := dite (e.ctorIdx = 9) (fun hc => (@Stmt.For.elim (fun z_ => Bool) e hc fun t y a b z_ => p t y a b)) fun z_ => false
theorem for_any {p : Expr → Expr → List Stmt → List Stmt → Bool} {G : Stmt → Prop} (h : yFor e p = true) (k : ∀ t y a b q, p t y a b = true → G (.For t y a b q)) : G e :=
  dite_any h fun hc h => @Stmt.For.elim (fun e => ∀ hc : e.ctorIdx = 9, (@Stmt.For.elim (fun z_ => Bool) e hc fun t y a b z_ => p t y a b) = true → G e) e hc (fun t y a b q z_ h => k t y a b q h) hc h
noncomputable def yRaise (e : Stmt) (p : Option Expr → Option Expr → Bool) : Bool := dite (e.ctorIdx = 16) (fun hc => (@Stmt.Raise.elim (fun z_ => Bool) e hc fun y z z_ => p y z)) fun z_ => false
theorem raise_any {p : Option Expr → Option Expr → Bool} {G : Stmt → Prop} (h : yRaise e p = true) (k : ∀ y z q, p y z = true → G (.Raise y z q)) : G e :=
  dite_any h fun hc h => @Stmt.Raise.elim (fun e => ∀ hc : e.ctorIdx = 16, (@Stmt.Raise.elim (fun z_ => Bool) e hc fun y z z_ => p y z) = true → G e) e hc (fun y z q z_ h => k y z q h) hc h
noncomputable def yPass (e : Stmt) (p : Bool) : Bool := dite (e.ctorIdx = 25) (fun hc => (@Stmt.Pass.elim (fun z_ => Bool) e hc fun z_ => p)) fun z_ => false
theorem pass_any {G : Stmt → Prop} (h : yPass e p = true) (k : ∀ q, p = true → G (.Pass q)) : G e :=
  dite_any h fun hc h => @Stmt.Pass.elim (fun e => ∀ hc : e.ctorIdx = 25, (@Stmt.Pass.elim (fun z_ => Bool) e hc fun z_ => p) = true → G e) e hc (fun q z_ h => k q h) hc h
noncomputable def yTry (e : Stmt) (p : List Stmt → List ExceptHandler → List Stmt → List Stmt → Bool) : Bool := dite (e.ctorIdx = 17) (fun hc => (@Stmt.Try.elim (fun z_ => Bool) e hc fun a hs b d z_ => p a hs b d)) fun z_ => false
theorem try_any {p : List Stmt → List ExceptHandler → List Stmt → List Stmt → Bool} {G : Stmt → Prop} (h : yTry e p = true) (k : ∀ a hs b d q, p a hs b d = true → G (.Try a hs b d q)) : G e :=
  dite_any h fun hc h => @Stmt.Try.elim (fun e => ∀ hc : e.ctorIdx = 17, (@Stmt.Try.elim (fun z_ => Bool) e hc fun a hs b d z_ => p a hs b d) = true → G e) e hc (fun a hs b d q z_ h => k a hs b d q h) hc h
noncomputable def yHand (x : ExceptHandler) (p : Option Expr → Option Str → List Stmt → Bool) : Bool := @ExceptHandler.casesOn (fun z_ => Bool) x fun t v b z_ => p t v b
theorem hand_any {p : Option Expr → Option Str → List Stmt → Bool} {G : ExceptHandler → Prop} (h : yHand x p = true) (k : ∀ t v b q, p t v b = true → G (.ExceptHandler t v b q)) : G x :=
  @ExceptHandler.casesOn (fun x => yHand x p = true → G x) x (fun t v b q h => k t v b q h) h
noncomputable def xStr (e : Expr) : Bool := dite (e.ctorIdx = 19) (fun hc => @Expr.Constant.elim (fun z_ => Bool) e hc fun v z_ z_ => decide (v.ctorIdx = (Const.str "").ctorIdx)) fun z_ => false
theorem str_any {G : Expr → Prop} (h : xStr e = true) (k : ∀ t n q, G (.Constant (.str t) n q)) : G e :=
  dite_any h fun hc h => @Expr.Constant.elim (fun e => ∀ hc : e.ctorIdx = 19, (@Expr.Constant.elim (fun z_ => Bool) e hc fun v z_ z_ => decide (v.ctorIdx = (Const.str "").ctorIdx)) = true → G e) e hc (fun v n q z_ h => @Const.str.elim (fun v => G (.Constant v n q)) v (of_decide_eq_true h) fun t => k t n q) hc h
noncomputable def pComp (e : PE) (p : PE → Nat → PIt → Option PE → Bool) : Bool := match e with | .comp a b c d => p a b c d | _ => false
theorem pComp_any {p : PE → Nat → PIt → Option PE → Bool} {G : PE → Prop} (h : pComp e p = true) (k : ∀ a b c d, p a b c d = true → G (.comp a b c d)) : G e := by
  cases e <;> first | exact k _ _ _ _ h | exact absurd h Bool.false_ne_true
noncomputable def pOwn (e : PE) (p : PE → Bool) : Bool := match e with | .own a => p a | _ => false
theorem pOwn_any {p : PE → Bool} {G : PE → Prop} (h : pOwn e p = true) (k : ∀ a, p a = true → G (.own a)) : G e := by
  cases e <;> first | exact k _ h | exact absurd h Bool.false_ne_true
noncomputable def pCompO (e : PE) (p : Bool → PE → Bool) : Bool := (pComp e fun a b c d => p false (.comp a b c d)) || pOwn e fun a => pComp a fun a b c d => p true (.comp a b c d)
theorem pCompO_any {p : Bool → PE → Bool} {G : PE → Prop} (h : pCompO e p = true) (k : ∀ o a b c d, p o (.comp a b c d) = true → G (if o then .own (.comp a b c d) else .comp a b c d)) : G e := by
  rcases (Bool.or_eq_true _ _).mp h with h | h
  · exact pComp_any h fun a b c d h => k false a b c d h
  · exact pOwn_any h fun a h => pComp_any (G := fun a => G (.own a)) h fun a b c d h => k true a b c d h
noncomputable def ckA (c : Ck) (e : PE) (y : Expr) : Bool := (!isComp y && ckE c e y) || pCompO e fun z_ e => ckE c e y
mutual
noncomputable def ckS (c : Ck) : PS → Stmt → Bool
  | .expr e, x => yExpr x fun y => isCall y && ckE c e y
  | .asg i e, x => yAsg x fun ts y => one ts fun u => xName u fun v => c.var v i && (c.names.lookup v != some .free && ckA c e y)
  | .setIdx o i e, x => yAsg x fun ts y => one ts fun u => xSub u fun v s => !isComp y && (ckE c o v && (ckE c i s && ckE c e y))
  | .ret e, x => yRet x fun t => oneO t fun y => ckE c e y
  | .ifs t a b, x => yIf x fun t' a' b' => ckE c t t' && (ckSs c a a' && ckSs c b b')
  | .while t a, x => yWhile x fun t' a' b' => ckE c t t' && (ckSs c a a' && b'.isEmpty)
  | .for1 i it body, x => yFor x fun t y a b => b.isEmpty && (ckIt c it y && (!isSet y && ((xName t fun v => c.var v i && c.names.lookup v != some .free) && ckSs c body a)))
  | .raise d, x => yRaise x fun y z => z.isNone && oneO y fun e => xNamed e (Str.ofString d) fun xs => one xs fun z => c.glob (Str.ofString d) && (excNames.contains d && xStr z)
  | .pass, x => yPass x true
  | _, _ => false
noncomputable def ckSs (c : Ck) : List PS → List Stmt → Bool
  | [], xs => xs.isEmpty
  | p :: ps, xs => (match xs with | x :: xs => ckS c p x && ckSs c ps xs | [] => false)
end
noncomputable def pRet (e : PS) (p : PE → Bool) : Bool := match e with | .ret a => p a | _ => false
theorem pRet_any {p : PE → Bool} {G : PS → Prop} (h : pRet e p = true) (k : ∀ a, p a = true → G (.ret a)) : G e := by
  cases e <;> first | exact k _ h | exact absurd h Bool.false_ne_true
noncomputable def pCallX (e : PE) (p : String → Nat → Bool) : Bool := match e with | .callX a b => p a b | _ => false
theorem pCallX_any {p : String → Nat → Bool} {G : PE → Prop} (h : pCallX e p = true) (k : ∀ a b, p a b = true → G (.callX a b)) : G e := by
  cases e <;> first | exact k _ _ h | exact absurd h Bool.false_ne_true
noncomputable def ckHand (c : Ck) (i : Nat) (hd : List PS) (z : ExceptHandler) : Bool :=
  one hd fun r => pRet r fun e => pCallX e fun f j => decide (j = i) && yHand z fun t v b => (oneO t fun e => xNameIs e (Str.ofString "RingError") true) &&
    oneO v fun v => c.var v i && (c.names.lookup v == some .local && one b fun b => yRet b fun r => oneO r fun e => xNamed e (Str.ofString f) fun xs => one xs fun a => xNameIs a v true && (c.glob (Str.ofString f) && c.fns.contains f))
noncomputable def ckTry (c : Ck) (body : List PS) (d : String) (i : Nat) (hd : List PS) (x : Stmt) : Bool :=
  yTry x fun a hs b e => one hs fun z => b.isEmpty && (e.isEmpty && (decide (d = "RingError") && (ckSs c body a && (c.glob (Str.ofString "RingError") && ckHand c i hd z))))
noncomputable def ckT (c : Ck) : PS → Stmt → Bool
  | .try body d i hd, x => ckTry c body d i hd x
  | p, x => ckS c p x
noncomputable def ckTs (c : Ck) : List PS → List Stmt → Bool
  | [], xs => xs.isEmpty
  | p :: ps, xs => (match xs with | x :: xs => ckT c p x && ckTs c ps xs | [] => false)
section
variable {am : Amb} {n : Nat} {F : Fn}
theorem swaps_comp : ∃ b, swapsWith (.ListComp e gs scope pos) (some (.Name v p')) l env = pure b := ⟨_, rfl⟩
theorem asgComp_ok {q own : Bool} {c : Ck} (hinj : (c.ctx.map (·.2)).Nodup) {i j : Nat} {elt : PE} {it : PIt} {cond : Option PE} {v : Str} {y : Expr} {p p' : Pos} (hv : c.var v i = true) (hk : c.names.lookup v ≠ some .free) (h : ckE c (.comp elt j it cond) y = true) : SJ am n q F c (.asg i (if own then .own (.comp elt j it cond) else .comp elt j it cond)) (.Assign [.Name v p'] y p) := by
  have hx := ckE_ok (am := am) (n := n) (F := F) q c (.comp elt j it cond) y h
  have he : EJ am n q F c (if own then .own (.comp elt j it cond) else .comp elt j it cond) y := by
    cases own
    · exact hx.1.1
    · exact (hx.2 rfl).1
  refine lc_any (G := fun y => EJ am n q F c (if own then .own (.comp elt j it cond) else .comp elt j it cond) y → SJ am n q F c (.asg i (if own then .own (.comp elt j it cond) else .comp elt j it cond)) (.Assign [.Name v p'] y p)) h (fun el gs scope pos h he => ?_) he
  refine gen_any (G := fun gs => EJ am n q F c (if own then .own (.comp elt j it cond) else .comp elt j it cond) (.ListComp el gs scope pos) → SJ am n q F c (.asg i (if own then .own (.comp elt j it cond) else .comp elt j it cond)) (.Assign [.Name v p'] (.ListComp el gs scope pos) p)) h (fun x' iter ifs px hh he => ?_) he
  have h1 := al hh
  have hh := ar hh
  have h2 := nt (al hh)
  have hh := ar hh
  have h3 := al hh
  have hh := ar hh
  have h4 := al hh
  have hh := ar hh
  intro cx ρ A res outer π₀ s₀ G π Hc s x
  obtain ⟨b, hb⟩ := swaps_comp (e := el) (gs := [⟨.Name x' px, iter, ifs, 0⟩]) (scope := scope) (pos := pos) (p' := p') (v := v) (l := p.line) (env := cx.env)
  cases b with
  | false => exact s_asg_plain hv hk hinj he x hb
  | true =>
    cases q with
    | false => exact .inl (by cases own <;> rfl)
    | true => exact s_asg_comp h2 h3 h4 (ckIt_ok c it _ h1) (ckE_ok true _ elt _ (al hh)).1.1 (ckC_ok _ cond _ (ar hh)) hv hk hinj x hb
theorem asg_ok {q : Bool} {c : Ck} (hinj : (c.ctx.map (·.2)).Nodup) {i : Nat} {e : PE} {v : Str} {y : Expr} {p p' : Pos} (hv : c.var v i = true) (hk : c.names.lookup v ≠ some .free) (h : ckA c e y = true) : SJ am n q F c (.asg i e) (.Assign [.Name v p'] y p) := by
  rcases (Bool.or_eq_true _ _).mp h with h | h
  · exact fun cx ρ A res outer π₀ s₀ G π Hc s x => s_asg_plain hv hk hinj (ckE_ok (am := am) (n := n) (F := F) q c e y (ar h)).1.1 x (swaps_plain (nt (al h)) _ _ _)
  · exact pCompO_any (G := fun e => SJ am n q F c (.asg i e) (.Assign [.Name v p'] y p)) h fun o a b d e h => asgComp_ok hinj hv hk h
mutual
theorem ckS_ok {c : Ck} (hinj : (c.ctx.map (·.2)).Nodup) (q : Bool) : ∀ (p : PS) (x : Stmt), ckS c p x = true → SJ am n q F c p x
  | .expr e, x, h => by
    refine expr_any (G := SJ am n q F c (.expr e)) h fun y p h => ?_
    exact s_expr (al h) (ckE_ok q c e _ (ar h)).1.1
  | .asg i e, x, h => by
    refine asg_any (G := SJ am n q F c (.asg i e)) h fun ts y p h => ?_
    refine one_any (G := fun ts => SJ am n q F c (.asg i e) (.Assign ts y p)) h fun u h => ?_
    refine name_any (G := fun u => SJ am n q F c (.asg i e) (.Assign [u] y p)) h fun v p' h => ?_
    exact asg_ok hinj (al h) (bne_iff_ne.mp (al (ar h))) (ar (ar h))
  | .ret e, x, h => by
    refine ret_any (G := SJ am n q F c (.ret e)) h fun t p h => ?_
    refine oneO_any (G := fun t => SJ am n q F c (.ret e) (.Return t p)) h fun y h => ?_
    exact s_ret (ckE_ok q c e _ h).1.1
  | .ifs t a b, x, h => by
    refine ifs_any (G := SJ am n q F c (.ifs t a b)) h fun t' a' b' p h => ?_
    exact s_if (ckE_ok q c t _ (al h)).1.2 (ckSs_ok hinj q a _ (al (ar h))) (ckSs_ok hinj q b _ (ar (ar h)))
  | .for1 i it body, x, h => by
    refine for_any (G := SJ am n q F c (.for1 i it body)) h fun t y a b p h => ?_
    refine emp_any (G := fun b => SJ am n q F c (.for1 i it body) (.For t y a b p)) (al h) ?_
    refine name_any (G := fun t => SJ am n q F c (.for1 i it body) (.For t y a [] p)) (al (ar (ar (ar h)))) fun v p' h7 => ?_
    cases q with
    | true => exact s_for1 (nt (al (ar (ar h)))) (ckIt_ok c it _ (al (ar h))) (ckSs_ok hinj true body _ (ar (ar (ar (ar h))))) (al h7) (bne_iff_ne.mp (ar h7)) hinj
    | false => exact fun cx ρ A res outer π₀ s₀ G π Hc s x => .inl rfl
  | .raise d, x, h => by
    refine raise_any (G := SJ am n q F c (.raise d)) h fun y z p h => ?_
    refine none_any (G := fun z => SJ am n q F c (.raise d) (.Raise y z p)) (al h) ?_
    refine oneO_any (G := fun y => SJ am n q F c (.raise d) (.Raise y none p)) (ar h) fun e h => ?_
    refine named_any (G := fun e => SJ am n q F c (.raise d) (.Raise (some e) none p)) h fun xs q1 q2 h => ?_
    refine one_any (G := fun xs => SJ am n q F c (.raise d) (.Raise (some (.Call (.Name (Str.ofString d) q1) xs [] q2)) none p)) h fun z h => ?_
    refine str_any (G := fun z => SJ am n q F c (.raise d) (.Raise (some (.Call (.Name (Str.ofString d) q1) [z] [] q2)) none p)) (ar (ar h)) fun t k p3 => ?_
    exact s_raise (List.contains_iff_mem.mp (al (ar h))) (al h)
  | .pass, x, h => pass_any (G := SJ am n q F c .pass) h fun p z_ => s_pass
  | .asgT .., x, h => by cases h
  | .while t a, x, h => by
    refine while_any (G := SJ am n q F c (.while t a)) h fun t' a' b' p h => ?_
    refine emp_any (G := fun b' => SJ am n q F c (.while t a) (.While t' a' b' p)) (ar (ar h)) ?_
    cases q with
    | true => exact s_while (ckE_ok true c t _ (al h)).1.2 (ckSs_ok hinj true a _ (al (ar h)))
    | false => exact fun cx ρ A res outer π₀ s₀ G π Hc s x => .inl rfl
  | .setIdx o i e, x, h => by
    refine asg_any (G := SJ am n q F c (.setIdx o i e)) h fun ts y p h => ?_
    refine one_any (G := fun ts => SJ am n q F c (.setIdx o i e) (.Assign ts y p)) h fun u h => ?_
    refine sub_any (G := fun u => SJ am n q F c (.setIdx o i e) (.Assign [u] y p)) h fun v s tp h => ?_
    exact s_setIdx (nt (al h)) (ckE_ok q c o _ (al (ar h))).1.1 (ckE_ok q c i _ (al (ar (ar h)))).1.1 (ckE_ok q c e _ (ar (ar (ar h)))).1.1
  | .setIdx2 .., x, h => by cases h
  | .for2 .., x, h => by cases h
  | .try .., x, h => by cases h
  | .frz .., x, h => by cases h
theorem ckSs_ok {c : Ck} (hinj : (c.ctx.map (·.2)).Nodup) (q : Bool) : ∀ (ps : List PS) (xs : List Stmt), ckSs c ps xs = true → SsJ am n q F c ps xs
  | [], xs, h => emp_any (G := SsJ am n q F c []) h ss_nil
  | p :: ps, xs, h => by
    cases xs with
    | nil => cases h
    | cons x xs =>
      have h : (ckS c p x && ckSs c ps xs) = true := h
      exact ss_cons (ckS_ok hinj q p x (al h)) (ckSs_ok hinj q ps xs (ar h))
end
noncomputable def YJ (am : Amb) (n : Nat) (F : Fn) (c : Ck) (body hd : List PS) (d : String) (i : Nat) (x : Stmt) : Prop := ∀ ⦃cx : Cx⦄ ⦃ρ : List V⦄ ⦃A : Around⦄ ⦃res : List Addr⦄ ⦃outer : List Env⦄ ⦃π₀ : List Addr⦄ ⦃s₀ : Shared⦄ ⦃π : List Addr⦄ ⦃Hc : H⦄ ⦃s : Shared⦄,
    Stm am n true F c cx A res outer π₀ s₀ (fun z_ z_ => True) ρ π Hc s → SP (am.at res) cx outer true A π₀ s₀ (fun z_ z_ => True) (fun Q E s => wpAny am.M A (exec x cx.env) Q E s) (exS true F (.try body d i hd) ρ Hc) s
theorem hand_ok {c : Ck} (hinj : (c.ctx.map (·.2)).Nodup) {body hd : List PS} {i : Nat} {a : List Stmt} {z : ExceptHandler} {p : Pos} (ha : SsJ am n true F c body a) (hg : c.glob (Str.ofString "RingError") = true) (h : ckHand c i hd z = true) : YJ am n F c body hd "RingError" i (.Try a [z] [] [] p) := by
  refine one_any (G := fun hd => YJ am n F c body hd "RingError" i (.Try a [z] [] [] p)) h fun r h => ?_
  refine pRet_any (G := fun r => YJ am n F c body [r] "RingError" i (.Try a [z] [] [] p)) h fun e h => ?_
  refine pCallX_any (G := fun e => YJ am n F c body [.ret e] "RingError" i (.Try a [z] [] [] p)) h fun f j h => ?_
  cases of_decide_eq_true (al h)
  refine hand_any (G := fun z => YJ am n F c body [.ret (.callX f i)] "RingError" i (.Try a [z] [] [] p)) (ar h) fun t v b hp h => ?_
  refine oneO_any (G := fun t => YJ am n F c body [.ret (.callX f i)] "RingError" i (.Try a [.ExceptHandler t v b hp] [] [] p)) (al h) fun e h0 => ?_
  refine nameIs_any (G := fun e => YJ am n F c body [.ret (.callX f i)] "RingError" i (.Try a [.ExceptHandler (some e) v b hp] [] [] p)) h0 fun tp z_ => ?_
  refine oneO_any (G := fun v => YJ am n F c body [.ret (.callX f i)] "RingError" i (.Try a [.ExceptHandler (some (.Name (Str.ofString "RingError") tp)) v b hp] [] [] p)) (ar h) fun v h => ?_
  have b1 := al h
  have b2 := beq_iff_eq.mp (al (ar h))
  refine one_any (G := fun b => YJ am n F c body [.ret (.callX f i)] "RingError" i (.Try a [.ExceptHandler (some (.Name (Str.ofString "RingError") tp)) (some v) b hp] [] [] p)) (ar (ar h)) fun b h => ?_
  refine ret_any (G := fun b => YJ am n F c body [.ret (.callX f i)] "RingError" i (.Try a [.ExceptHandler (some (.Name (Str.ofString "RingError") tp)) (some v) [b] hp] [] [] p)) h fun r p4 h => ?_
  refine oneO_any (G := fun r => YJ am n F c body [.ret (.callX f i)] "RingError" i (.Try a [.ExceptHandler (some (.Name (Str.ofString "RingError") tp)) (some v) [.Return r p4] hp] [] [] p)) h fun e h => ?_
  refine named_any (G := fun e => YJ am n F c body [.ret (.callX f i)] "RingError" i (.Try a [.ExceptHandler (some (.Name (Str.ofString "RingError") tp)) (some v) [.Return (some e) p4] hp] [] [] p)) h fun xs p1 p3 h => ?_
  refine one_any (G := fun xs => YJ am n F c body [.ret (.callX f i)] "RingError" i (.Try a [.ExceptHandler (some (.Name (Str.ofString "RingError") tp)) (some v) [.Return (some (.Call (.Name (Str.ofString f) p1) xs [] p3)) p4] hp] [] [] p)) h fun y h => ?_
  refine nameIs_any (G := fun y => YJ am n F c body [.ret (.callX f i)] "RingError" i (.Try a [.ExceptHandler (some (.Name (Str.ofString "RingError") tp)) (some v) [.Return (some (.Call (.Name (Str.ofString f) p1) [y] [] p3)) p4] hp] [] [] p)) (al h) fun p2 z_ => ?_
  exact fun cx ρ A res outer π₀ s₀ π Hc s X => s_try ha hg b1 b2 hinj (al (ar h)) (List.contains_iff_mem.mp (ar (ar h))) X
theorem ckTry_true {c : Ck} (hinj : (c.ctx.map (·.2)).Nodup) {body hd : List PS} {d : String} {i : Nat} {x : Stmt} (h : ckTry c body d i hd x = true) : YJ am n F c body hd d i x := by
  refine try_any (G := YJ am n F c body hd d i) h fun a hs b e p h => ?_
  refine one_any (G := fun hs => YJ am n F c body hd d i (.Try a hs b e p)) h fun z h => ?_
  refine emp_any (G := fun b => YJ am n F c body hd d i (.Try a [z] b e p)) (al h) ?_
  have h := ar h
  refine emp_any (G := fun e => YJ am n F c body hd d i (.Try a [z] [] e p)) (al h) ?_
  have h := ar h
  cases of_decide_eq_true (al h)
  have h := ar h
  exact hand_ok hinj (ckSs_ok hinj true _ _ (al h)) (al (ar h)) (ar (ar h))
theorem ckTry_ok (hinj : (c.ctx.map (·.2)).Nodup) (q : Bool) (h : ckTry c body d i hd x = true) ⦃cx : Cx⦄ ⦃ρ : List V⦄ ⦃A : Around⦄ ⦃res : List Addr⦄ ⦃outer : List Env⦄ ⦃π₀ : List Addr⦄ ⦃s₀ : Shared⦄ ⦃π : List Addr⦄ ⦃Hc : H⦄ ⦃s : Shared⦄
    (X : Stm am n q F c cx A res outer π₀ s₀ (fun z_ z_ => True) ρ π Hc s) : SP (am.at res) cx outer q A π₀ s₀ (fun z_ z_ => True) (fun Q E s => wpAny am.M A (exec x cx.env) Q E s) (exS q F (.try body d i hd) ρ Hc) s := by
  cases q with
  | true => exact ckTry_true hinj h X
  | false => exact .inl rfl
noncomputable def TsJ (am : Amb) (n : Nat) (q : Bool) (F : Fn) (c : Ck) (ps : List PS) (xs : List Stmt) : Prop := ∀ ⦃cx : Cx⦄ ⦃ρ : List V⦄ ⦃A : Around⦄ ⦃res : List Addr⦄ ⦃outer : List Env⦄ ⦃π₀ : List Addr⦄ ⦃s₀ : Shared⦄ ⦃π : List Addr⦄ ⦃Hc : H⦄ ⦃s : Shared⦄,
  Stm am n q F c cx A res outer π₀ s₀ (fun z_ z_ => True) ρ π Hc s → SP (am.at res) cx outer q A π₀ s₀ (fun z_ z_ => True) (fun Q E s => wpAny am.M A (execs xs cx.env) Q E s) (exSs q F ps ρ Hc) s
theorem ts_cons 
    (h1 : ∀ ⦃cx : Cx⦄ ⦃ρ : List V⦄ ⦃A : Around⦄ ⦃res : List Addr⦄ ⦃outer : List Env⦄ ⦃π₀ : List Addr⦄ ⦃s₀ : Shared⦄ ⦃π : List Addr⦄ ⦃Hc : H⦄ ⦃s : Shared⦄, Stm am n q F c cx A res outer π₀ s₀ (fun z_ z_ => True) ρ π Hc s → SP (am.at res) cx outer q A π₀ s₀ (fun z_ z_ => True) (fun Q E s => wpAny am.M A (exec y cx.env) Q E s) (exS q F p ρ Hc) s)
    (h2 : TsJ am n q F c ps ys) : TsJ am n q F c (p :: ps) (y :: ys) := fun cx ρ A res outer π₀ s₀ π Hc s x => sp_cons x (h1 x) fun z_ z_ z_ z_ x' => h2 x'
theorem ckTs_ok (hinj : (c.ctx.map (·.2)).Nodup) (q : Bool) : ∀ (ps : List PS) (xs : List Stmt), ckTs c ps xs = true → TsJ am n q F c ps xs
  | [], xs, h => by
    cases xs with
    | nil => exact fun cx ρ A res outer π₀ s₀ π Hc s x => ss_nil x
    | cons _ _ => cases h
  | p :: ps, xs, h => by
    cases xs with
    | nil => cases h
    | cons x xs =>
      obtain ⟨h1, h2⟩ := Bool.and_eq_true_iff.mp (show (ckT c p x && ckTs c ps xs) = true from h)
      refine ts_cons ?_ (ckTs_ok hinj q ps xs h2)
      intro cx ρ A res outer π₀ s₀ π Hc s X
      cases p with
      | «try» body d i hd => exact ckTry_ok hinj q h1 X
      | _ => exact ckS_ok hinj q _ _ h1 X
end
theorem fm_congr {α β : Type} {f g : α → Option β} : ∀ {l : List α}, (∀ x ∈ l, f x = g x) → l.filterMap f = l.filterMap g
  | [], _ => rfl
  | a :: l, h => by
    rw [List.filterMap_cons, List.filterMap_cons, h a (by simp), fm_congr fun x hx => h x (by simp [hx])]
theorem lookup_zip {ns : List Str} (hn : ns.Nodup) : ∀ {vs : List Value}, vs.length = ns.length → ns.filterMap (fun n => ((ns.zip vs).lookup n).map (n, ·)) = ns.zip vs := by
  induction ns with
  | nil => intro vs _; simp
  | cons a ns ih =>
    intro vs hl
    cases vs with
    | nil => simp at hl
    | cons v vs =>
      rw [List.nodup_cons] at hn
      simp only [List.zip_cons_cons, List.filterMap_cons, List.lookup_cons, beq_self_eq_true, Option.map_some]
      congr 1
      refine Eq.trans (fm_congr fun x hx => ?_) (ih hn.2 (vs := vs) (by simpa using hl))
      have : (x == a) = false := by
        rw [beq_eq_false_iff_ne]; rintro rfl; exact hn.1 hx
      rw [this]
theorem lookup_some {ns : List Str} : ∀ {vs : List Value}, vs.length = ns.length → ∀ n ∈ ns, ((ns.zip vs).lookup n).isSome = true := by
  induction ns with
  | nil => intro vs _ n hn; cases hn
  | cons a ns ih =>
    intro vs hl n hn
    cases vs with
    | nil => simp at hl
    | cons v vs =>
      simp only [List.zip_cons_cons, List.lookup_cons]
      cases hq : n == a with
      | true => rfl
      | false =>
        rcases List.mem_cons.mp hn with rfl | h
        · simp at hq
        · exact ih (by simpa using hl) n h
theorem bind_shape :
    ∃ (X Y : Sem (List (Str × Value))) (f : Str × Value → List (Str × Value) → Sem (ForInStep (List (Str × Value)))) (g : List (Str × Value) → Sem (List (Str × Value))), (∀ slots, g slots = pure ((as.map Arg.arg ++ []).filterMap fun n => (List.lookup n slots).map (n, ·))) ∧
      bindArgs ⟨nm, qn, ⟨[], as, none, [], kd, none, df⟩, body, scope, globals, closure, .none, kwd, doc, pm, an, co, ct, bi⟩ ⟨vals, []⟩ =
       (if (decide (vals.length > (as.map Arg.arg).length) && true) = true then X
        else if (!((((as.map Arg.arg).take ((as.map Arg.arg).length - (([] : List Value).drop (([] : List Value).length - (as.map Arg.arg).length)).length)).filter fun n => (List.lookup n ((as.map Arg.arg).zip vals)).isNone).isEmpty)) = true then Y
        else forIn (((as.map Arg.arg).drop ((as.map Arg.arg).length - (([] : List Value).drop (([] : List Value).length - (as.map Arg.arg).length)).length)).zip (([] : List Value).drop (([] : List Value).length - (as.map Arg.arg).length))) ((as.map Arg.arg).zip vals) f >>= g) := by
  refine ⟨_, _, _, _, fun z_ => rfl, rfl⟩
theorem bind_plain {fd : FuncData} {vals : List Value} (hp : fd.params.posonlyargs = []) (hk : fd.params.kwonlyargs = []) (hv : fd.params.vararg = none) (hw : fd.params.kwarg = none) (hd : fd.defaults = .none)
    (hn : (fd.params.args.map (·.arg)).Nodup) (hl : vals.length = fd.params.args.length) : bindArgs fd ⟨vals, []⟩ = pure ((fd.params.args.map (·.arg)).zip vals) := by
  have hl' : vals.length = (fd.params.args.map (·.arg)).length := by simpa using hl
  have hm : ((fd.params.args.map (·.arg)).filter fun n => (((fd.params.args.map (·.arg)).zip vals).lookup n).isNone) = [] := by
    rw [List.filter_eq_nil_iff]
    intro n hn'
    have := lookup_some hl' n hn'
    cases hq : ((fd.params.args.map (·.arg)).zip vals).lookup n with
    | none => rw [hq] at this; cases this
    | some _ => simp
  have hz := lookup_zip hn hl'
  obtain ⟨nm, qn, ⟨po, as, va, ko, kd, kw, df⟩, body, scope, globals, closure, dfl, kwd, doc, pm, an, co, ct, bi⟩ := fd
  simp only at hp hk hv hw hd hm hz hl'
  subst hp hk hv hw hd
  obtain ⟨X, Y, f, g, hg, e⟩ := bind_shape (nm := nm) (qn := qn) (as := as) (kd := kd) (df := df) (body := body) (scope := scope) (globals := globals) (closure := closure) (kwd := kwd) (doc := doc) (pm := pm) (an := an) (co := co) (ct := ct) (bi := bi) (vals := vals)
  rw [e]
  generalize as.map Arg.arg = ns at hl' hm hz hg
  have hgt : ¬ vals.length > ns.length := by omega
  rw [List.drop_nil, if_neg (by simp [hgt]), List.zip_nil_right, if_neg (by simp [hm])]
  show g (ns.zip vals) = _
  rw [hg, List.append_nil, hz]
noncomputable def plainDefaults : Value → Bool
  | .none => true
  | _ => false
noncomputable def stmtsOf : FuncBody → Option (List Stmt)
  | .stmts b => some b
  | _ => none
noncomputable def ckFn (fns : List String) (nums : List (String × Int)) (d : FnDef) (nm : List String) (fd : FuncData) : Bool :=
  let ns := nm.map Str.ofString
  (match stmtsOf fd.body with | some b => ckTs ⟨ns.zipIdx, fd.scope.names, fns, nums⟩ d.body b | none => false) &&
  fd.params.posonlyargs.isEmpty && fd.params.kwonlyargs.isEmpty && fd.params.vararg.isNone && fd.params.kwarg.isNone && plainDefaults fd.defaults &&
  decide (fd.params.args.map (·.arg) = ns.take d.arity) && decide (d.arity ≤ nm.length) && decide (nm.length ≤ d.slots) && decide ns.Nodup &&
  fd.closure.isEmpty && fd.scope.kind == .function && !fd.scope.isGenerator && !fd.scope.isCoroutine && decide (fd.globals = mainGlobals) && decide (fd.builtins = builtinsNs) &&
  ns.all (fun x => fd.scope.names.lookup x == some .local || fd.scope.names.lookup x == some .cell) && fd.scope.names.all (fun p => p.2 != .free)
structure ProgOK (am : Amb) (P : Tab) (nm : String → List String) (fns : List String) (nums : List (String × Int)) : Prop where
  fn : ∀ f d a o fd, P f = some d → am.mg (Str.ofString f) = some (.ref a) → am.B.get? a = some o → o.data = .func fd → ckFn fns nums d (nm f) fd = true ∧ am.B.CodeRec fd.code fd.qualname
  fns : ∀ f ∈ fns, ∃ a, FunAt am f a
  nums : ∀ p ∈ nums, ∃ t, am.mg (Str.ofString p.1) = some (.int p.2 t)
theorem VR.more {am : Amb} {π : List Addr} {h : Heap} {r : List Addr} {v : V} {x : Value} : ∀ (new : List Addr), (∀ l ∈ new, h.get? l = none) → VR (am.at r) π h v x → VR (am.at (new ++ r)) π h v x
  | [], _, e => e
  | l :: new, hl, e => VR.held (am := am.at (new ++ r)) (hl l (by simp)) (VR.more new (fun a ha => hl a (by simp [ha])) e)
theorem VRs.more {am : Amb} {π : List Addr} {h : Heap} {r : List Addr} {vs : List V} {xs : List Value} : ∀ (new : List Addr), (∀ l ∈ new, h.get? l = none) → VRs (am.at r) π h vs xs → VRs (am.at (new ++ r)) π h vs xs
  | [], _, e => e
  | l :: new, hl, e => VRs.held (am := am.at (new ++ r)) (hl l (by simp)) (VRs.more new (fun a ha => hl a (by simp [ha])) e)
set_option tactic.hygienic true in
theorem cells_some : ∀ (names : List (Str × NameKind)) (k : Nat) (acc : List (Str × Addr)) (x : Str), (names.lookup x = some .cell ∨ (acc.lookup x).isSome = true) → ((cellsFrom k names acc).lookup x).isSome = true
  | [], k, acc, x, h => by
    rcases h with h | h
    · simp at h
    · exact h
  | (y, kd) :: r, k, acc, x, h => by
    unfold cellsFrom
    cases hxy : x == y with
    | true =>
      have hxy := beq_iff_eq.mp hxy
      subst hxy
      split
      · exact cells_some r _ _ x (.inr (by simp))
      · rename_i hk
        refine cells_some r _ _ x ?_
        rcases h with h | h
        · simp only [List.lookup_cons, beq_self_eq_true, Option.some.injEq] at h
          subst h; simp at hk
        · exact .inr h
    | false =>
      have h' : r.lookup x = some .cell ∨ (acc.lookup x).isSome = true := by
        rcases h with h | h
        · rw [List.lookup_cons, hxy] at h; exact .inl h
        · exact .inr h
      split
      · refine cells_some r _ _ x ?_
        rcases h' with h | h
        · exact .inl h
        · exact .inr (by rw [List.lookup_cons, hxy]; exact h)
      · exact cells_some r _ _ x h'
theorem bindL_get (kd : Str → Option NameKind) : ∀ (ns : List Str) (vs : List Value) (m : Str → Option Value), ns.Nodup → vs.length = ns.length → ∀ (i : Nat) (x : Str) (v : Value), ns[i]? = some x → vs[i]? = some v → kd x = some .local → bindL kd (ns.zip vs) m x = some v
  | [], vs, m, _, _, i, x, v, h, _, _ => by simp at h
  | a :: ns, [], m, _, hl, i, x, v, h, _, _ => by simp at hl
  | a :: ns, w :: vs, m, hn, hl, i, x, v, h1, h2, h3 => by
    have keep : ∀ (ns : List Str) (vs : List Value) (m : Str → Option Value) (x : Str), x ∉ ns → bindL kd (ns.zip vs) m x = m x := by
      intro ns
      induction ns with
      | nil => intro vs m x _; rfl
      | cons b ns ih =>
        intro vs m x hx
        cases vs with
        | nil => rfl
        | cons u vs =>
          simp only [List.mem_cons, not_or] at hx
          rw [List.zip_cons_cons, bindL, ih _ _ _ hx.2]
          split
          · exact if_neg hx.1
          · rfl
    rw [List.nodup_cons] at hn
    rw [List.zip_cons_cons, bindL]
    cases i with
    | zero =>
      simp only [List.getElem?_cons_zero, Option.some.injEq] at h1 h2
      subst h1 h2
      rw [keep _ _ _ _ hn.1, if_pos h3]; simp
    | succ i =>
      exact bindL_get kd ns vs _ hn.2 (by simpa using hl) i x v (by simpa using h1) (by simpa using h2) h3
theorem bindC_get (kd : Str → Option NameKind) : ∀ (ns : List Str) (vs : List Value) (m : Str → Option Value), ns.Nodup → vs.length = ns.length → ∀ (i : Nat) (x : Str) (v : Value), ns[i]? = some x → vs[i]? = some v → kd x = some .cell → bindC kd (ns.zip vs) m x = some v
  | [], vs, m, _, _, i, x, v, h, _, _ => by simp at h
  | a :: ns, [], m, _, hl, i, x, v, h, _, _ => by simp at hl
  | a :: ns, w :: vs, m, hn, hl, i, x, v, h1, h2, h3 => by
    have keep : ∀ (ns : List Str) (vs : List Value) (m : Str → Option Value) (x : Str), x ∉ ns → bindC kd (ns.zip vs) m x = m x := by
      intro ns
      induction ns with
      | nil => intro vs m x _; rfl
      | cons b ns ih =>
        intro vs m x hx
        cases vs with
        | nil => rfl
        | cons u vs =>
          simp only [List.mem_cons, not_or] at hx
          rw [List.zip_cons_cons, bindC, ih _ _ _ hx.2]
          split
          · rfl
          · exact if_neg hx.1
    rw [List.nodup_cons] at hn
    rw [List.zip_cons_cons, bindC]
    cases i with
    | zero =>
      simp only [List.getElem?_cons_zero, Option.some.injEq] at h1 h2
      subst h1 h2
      rw [keep _ _ _ _ hn.1, if_neg (by rw [h3]; simp)]; simp
    | succ i =>
      exact bindC_get kd ns vs _ hn.2 (by simpa using hl) i x v (by simpa using h1) (by simpa using h2) h3
theorem zipIdx_lookup {ns : List Str} {x : Str} {i : Nat} (h : ns.zipIdx.lookup x = some i) : ns[i]? = some x := by
  have := lookup_mem h
  rw [List.mem_zipIdx_iff_getElem?] at this
  simpa using this
theorem zipIdx_nodup (ns : List Str) : (ns.zipIdx.map (·.2)).Nodup := by
  have : ns.zipIdx.map (·.2) = List.range ns.length := by
    apply List.ext_getElem
    · simp
    · intro i h1 h2; simp
  rw [this]; exact List.nodup_range
section
variable {am : Amb} {P : Tab} {nm : String → List String} {fns : List String} {nums : List (String × Int)}
theorem VRs.len' (e : VRs am π h vs xs) : xs.length = vs.length := by
  have := e.len; omega
theorem args_len (e : ArgR am q π h vs xs) : xs.length = vs.length := by
  rcases e with e | ⟨_, c, a, rfl, rfl, _⟩
  · exact e.len'
  · rfl
theorem args_get {am : Amb} {q : Bool} {π : List Addr} {h : Heap} {vs : List V} {xs : List Value} (e : ArgR am q π h vs xs) {i : Nat} {v : V} (hv : vs[i]? = some v) : ∃ x, xs[i]? = some x ∧ SR am π h v x := by
  rcases e with e | ⟨_, c, a, rfl, rfl, h1, h2⟩
  · obtain ⟨x, h1, h2⟩ := e.get i v hv
    exact ⟨x, h1, .inl h2⟩
  · cases i with
    | zero =>
      simp only [List.getElem?_cons_zero, Option.some.injEq] at hv
      subst hv
      exact ⟨_, rfl, .inr ⟨c, a, rfl, rfl, h1, h2⟩⟩
    | succ i => simp at hv
set_option tactic.hygienic true in
theorem run_ok (ok : AmbX am) (pk : ProgOK am P nm fns nums) : ∀ n, FnOK am n (run P n)
  | 0 => ⟨fun res q f a vs xs stack A π Hc s z_ z_ z_ z_ z_ => .inl rfl⟩
  | n + 1 => ⟨fun res q f a vs xs stack A π Hc s fa as hr hd ha => by
    have IH := run_ok ok pk n
    refine hold fun z_ k_ => ?_
    obtain ⟨hga, o, fd, ho, hdata⟩ := fa
    refine k_ ?_
    show JAt _ _ _ _ (match P f with | some d => runD q (run P n) d vs Hc | Option.none => .bad) _ _ _
    cases hP : P f with
    | none => exact .inl rfl
    | some d =>
    simp only
    obtain ⟨hck, hcode⟩ := pk.fn f d a o fd hP hga ho hdata
    unfold runD
    by_cases hlen' : ¬ vs.length = d.arity
    · rw [if_neg hlen']; exact .inl rfl
    have hlen := Classical.not_not.mp hlen'
    rw [if_pos hlen]
    unfold ckFn at hck
    simp only [Bool.and_eq_true, decide_eq_true_eq, beq_iff_eq, Bool.not_eq_true', List.isEmpty_iff, Option.isNone_iff_eq_none] at hck
    refine hold fun z_ k_ => ?_
    obtain ⟨⟨⟨⟨⟨⟨⟨⟨⟨⟨⟨⟨⟨⟨⟨⟨⟨k1, k2⟩, k3⟩, k4⟩, k5⟩, k6⟩, k7⟩, k8⟩, k9⟩, k10⟩, k11⟩, k12⟩, k13⟩, k14⟩, k15⟩, k16⟩, k17⟩, k18⟩ := hck
    refine k_ ?_
    cases hb : stmtsOf fd.body with
    | none => rw [hb] at k1; cases k1
    | some body =>
    rw [hb] at k1
    simp only at k1
    have hbody : fd.body = .stmts body := by
      cases hq : fd.body with
      | stmts b => rw [hq] at hb; cases hb; rfl
      | expr e => rw [hq] at hb; cases hb
    have hdef : fd.defaults = .none := by
      cases hq : fd.defaults <;> rw [hq] at k6 <;> first | rfl | cases k6
    let ns := (nm f).map Str.ofString
    let c : Ck := ⟨ns.zipIdx, fd.scope.names, fns, nums⟩
    have hns : ns.Nodup := k10
    have hpn : fd.params.args.map (·.arg) = ns.take d.arity := k7
    have hnl : ns.length = (nm f).length := by simp [ns]
    have hxl : xs.length = d.arity := by rw [args_len ha, hlen]
    have hpl : fd.params.args.length = d.arity := by
      have := congrArg List.length hpn
      rw [List.length_map, List.length_take] at this
      omega
    have hbind : bindArgs fd ⟨xs, []⟩ = pure ((ns.take d.arity).zip xs) := by
      rw [← hpn]
      refine bind_plain k2 k3 k4 k5 hdef ?_ (by omega)
      rw [hpn]; exact hns.sublist (List.take_sublist _ _)
    have hkind : ∀ x ∈ ns, fd.scope.names.lookup x = some .local ∨ fd.scope.names.lookup x = some .cell := fun x hx => by
      have := List.all_eq_true.mp k17 x hx
      simpa using this
    have TS := ckTs_ok (am := am) (n := n) (F := run P n) (c := c) (zipIdx_nodup ns) q d.body body k1
    have hlim : s.heap.NoLimit := ok.nolimit.keeps hr.base
    by_cases hbad : exSs q (run P n) d.body (vs ++ List.replicate (d.slots - d.arity) .undef) Hc = .bad
    · rw [hbad]; exact .inl rfl
    refine .inr (wpAny_call (codeAny_call_cells (binds := (ns.take d.arity).zip xs) (body := body) (o := o) (fd := fd) (by have := as.depth; unfold recursionLimit; omega) (hr.base a o ho) hdata hlim (hcode.keeps hr.base) hbody hbind k11 (fun x hx => ?_) (fun s₁ I => ?_) k14 k13 k12))
    · have hm : x.1 ∈ ns := List.mem_of_mem_take (List.of_mem_zip hx).1
      rcases hkind x.1 hm with h | h
      · exact .inl h
      · exact .inr ⟨h, cells_some _ _ _ _ (.inl h)⟩
    generalize hE : callEnvC fd s.heap.objs.size a = env at I
    have eloc : env.locals = s.heap.objs.size := by rw [← hE]; rfl
    have efr : env.frame = some env.locals := by rw [← hE]; rfl
    have esc : env.scope = fd.scope := by rw [← hE]; rfl
    have egl : env.globals = mainGlobals := by rw [← hE]; exact k15
    have ebl : env.builtins = builtinsNs := by rw [← hE]; exact k16
    have ecl : env.cells = cellsFrom (s.heap.objs.size + 1) fd.scope.names [] := by rw [← hE]; rfl
    have ekd : ∀ x, env.kindOf x = fd.scope.names.lookup x := fun x => by unfold Env.kindOf; rw [esc]
    have hfresh : ∀ b, s.heap.objs.size ≤ b → s.heap.get? b = none := fun b hb => by
      cases hq : s.heap.get? b with
      | none => rfl
      | some o' => exact absurd (Heap.lt_size hq) (Nat.not_lt_of_le hb)
    have fL : s.heap.get? env.locals = none := hfresh _ (by rw [eloc]; exact Nat.le_refl _)
    have fC : ∀ x cc, (x, cc) ∈ env.cells → s.heap.get? cc = none := fun x cc h => hfresh _ (Nat.le_of_lt (eloc ▸ I.above x cc h))
    let new : List Addr := env.locals :: env.cells.filterMap fun p => env.cells.lookup p.1
    have hcm : ∀ l, l ∈ env.cells.filterMap (fun p => env.cells.lookup p.1) → ∃ y, env.cells.lookup y = some l := by
      intro l hl
      obtain ⟨p, _, h2⟩ := List.mem_filterMap.mp hl
      exact ⟨p.1, h2⟩
    have hmc : ∀ y l, env.cells.lookup y = some l → l ∈ env.cells.filterMap (fun p => env.cells.lookup p.1) := fun y l h => List.mem_filterMap.mpr ⟨(y, l), mem_of_lookup h, h⟩
    have hnew : ∀ l ∈ new, s.heap.get? l = none := by
      intro l hl
      rcases List.mem_cons.mp hl with rfl | hl
      · exact fL
      · obtain ⟨y, h1⟩ := hcm l hl
        exact fC y l (mem_of_lookup h1)
    have keep := I.toInCall.keep
    have nfL := Ns.nf I.toInCall.ns
    have bn : ∀ l, s.heap.get? l = none → am.B.get? l = none := fun l h => none_of_stays hr.base h
    have hdn : ∀ a' ∈ π, ∃ o, s.heap.get? a' = some o := by
      intro a' ha'
      obtain ⟨i, hi, e1⟩ := List.getElem_of_mem ha'
      have h1 : π[i]? = some a' := by rw [List.getElem?_eq_getElem hi, e1]
      have h2 : i < Hc.length := by rw [← hr.len]; exact hi
      obtain ⟨o, ho, _⟩ := (hr.cell i Hc[i] a' (by simp [h2]) h1).obj
      exact ⟨o, ho⟩
    have offN : ∀ l, s.heap.get? l = none → l ∉ π := fun l h hm => by obtain ⟨o, ho⟩ := hdn l hm; rw [h] at ho; cases ho
    let cx : Cx := ⟨env, env :: stack, ns.zipIdx⟩
    have hr1 : HR (am.at (new ++ res)) (env :: stack) π Hc s₁.heap := by
      refine ⟨fun b o e => keep b o (hr.base b o e), ⟨by rw [esc, k12]; simp, ?_, hr.frames.of_keeps fun b o e z_ => ⟨o, keep b o e, rfl⟩⟩, hr.len, hr.nodup, ?_, ?_, ?_⟩
      · obtain ⟨o, ho, hn⟩ := nfL
        exact ⟨env.locals, o, efr, bn _ fL, ho, hn⟩
      · intro l hl
        rcases List.mem_append.mp hl with hl | hl
        · rcases List.mem_cons.mp hl with rfl | hl
          · exact nfL
          · obtain ⟨y, h1⟩ := hcm l hl
            obtain ⟨o, ho, hd'⟩ := I.cell y l h1
            exact ⟨o, ho, fun us q => by rw [hd'] at q; cases q⟩
        · obtain ⟨o, ho, hn⟩ := hr.res l hl
          exact ⟨o, keep l o ho, hn⟩
      · intro l hl
        refine ⟨(hr.off l hl).1, ?_⟩
        rw [List.filterMap_cons, efr]
        rw [List.mem_cons, not_or]
        exact ⟨fun q => offN _ fL (q ▸ hl), (hr.off l hl).2⟩
      · intro i cc l h1 h2
        obtain ⟨o, ys, q0, q1, q2, q3⟩ := hr.cell i cc l h1 h2
        exact (show CellAt (am.at (new ++ res)) π s.heap cc l from ⟨o, ys, q0, q1, q2, VRs.more new hnew q3⟩).keeps keep
    have sr1 : ∀ {v : V} {x : Value}, SR (am.at res) π s.heap v x → SR (am.at (new ++ res)) π s₁.heap v x := by
      intro v x e
      rcases e with e | ⟨d', b, e1, e2, e3, C, o', us, e4, e5, e6⟩
      · exact .inl ((VR.more new hnew e).keeps keep)
      · exact .inr ⟨d', b, e1, e2, e3, C, o', us, e4, keep b o' e5, e6⟩
    have er1 : ER (am.at (new ++ res)) cx (vs ++ List.replicate (d.slots - d.arity) .undef) π s₁.heap := by
      refine ⟨⟨_, I.toInCall.ns⟩, offN _ fL, fun y l hl => ⟨offN _ (fC y l (mem_of_lookup hl)), ?_, _, I.cell y l hl⟩, fun x y l h1 h2 => ?_, fun x i v h1 h2 h3 h4 => ?_⟩
      · exact Nat.ne_of_gt (I.above y l (mem_of_lookup hl))
      · exact name_of_addr I.apart (mem_of_lookup h1) (mem_of_lookup h2)
      · have hx : ns[i]? = some x := zipIdx_lookup h1
        have hi : i < vs.length := by
          rcases Nat.lt_or_ge i vs.length with h | h
          · exact h
          · rw [List.getElem?_append_right h] at h2
            have := List.mem_of_getElem? h2
            rw [List.mem_replicate] at this
            exact absurd this.2 h3
        rw [List.getElem?_append_left hi] at h2
        obtain ⟨xv, h5, h6⟩ := args_get ha h2
        have hxi : (ns.take d.arity)[i]? = some x := by rw [List.getElem?_take_of_lt (by omega)]; exact hx
        have hnt : (ns.take d.arity).Nodup := hns.sublist (List.take_sublist _ _)
        have hlt : xs.length = (ns.take d.arity).length := by rw [List.length_take]; omega
        refine ⟨xv, ?_, sr1 h6⟩
        rcases hkind x (List.mem_of_getElem? hx) with hk | hk
        · have hk' : env.kindOf x = some .local := by rw [ekd]; exact hk
          exact .inl ⟨hk', _, I.toInCall.ns, bindL_get _ _ _ _ hnt hlt i x xv hxi h5 hk'⟩
        · have hk' : env.kindOf x = some .cell := by rw [ekd]; exact hk
          have hcs := cells_some fd.scope.names (s.heap.objs.size + 1) [] x (.inl hk)
          rw [← ecl] at hcs
          obtain ⟨l, hl⟩ := Option.isSome_iff_exists.mp hcs
          refine .inr ⟨.inl hk', l, hl, ?_⟩
          have := I.cell x l hl
          rw [bindC_get _ _ _ _ hnt hlt i x xv hxi h5 hk'] at this
          exact this
    have as1 : AS n (env :: stack) (A.deeper env) := by
      refine ⟨?_, ?_, ?_⟩
      · show A.frames.map (env :: ·) = _; rw [as.frames]; rfl
      · show A.depth + 1 + n < 800; have := as.depth; omega
      · show A.units + 3 + 10 * n < 9000; have := as.units; omega
    have hd1 : Hd q (A.deeper env) π (Fs (env :: stack)) s₁.heap := by
      unfold Hd at hd ⊢
      split
      · rename_i hq; rw [if_pos hq] at hd; exact hd
      · rename_i hq
        rw [if_neg hq] at hd
        refine hold fun z_ k_ => ?_
        obtain ⟨he, o', us, e1, e2, e3, e4, e5⟩ := hd
        refine k_ ?_
        refine ⟨he, o', us, e1, e2, ?_, keep he o' e4, e5⟩
        simp only [Fs, List.filterMap_cons, efr, List.mem_cons, not_or]
        exact ⟨(fun q' => by rw [q', fL] at e4; cases e4), e3⟩
    have topE : TopEnv env := ⟨by rw [esc]; exact k13, by rw [esc]; exact k14, egl, ebl⟩
    have cxk : CxOK cx := by
      refine ⟨fun x hx => ?_, by show env.scope.kind = _; rw [esc]; exact k12, egl, ebl, ⟨env, stack, rfl, rfl, topE⟩⟩
      rcases hx with hx | hx
      · have hx : fd.scope.names.lookup x = some .cell := by rw [← ekd]; exact hx
        have hcs := cells_some fd.scope.names (s.heap.objs.size + 1) [] x (.inl hx)
        rw [← ecl] at hcs
        exact Option.isSome_iff_exists.mp hcs
      · have hx : fd.scope.names.lookup x = some .free := by rw [← ekd]; exact hx
        have := List.all_eq_true.mp k18 _ (lookup_mem hx)
        simp at this
    have ne1 : q = true → NoExc (vs ++ List.replicate (d.slots - d.arity) .undef) := by
      intro hq v hv k hk
      subst hk
      rcases List.mem_append.mp hv with hv | hv
      · rcases ha with ha | ⟨h, _⟩
        · obtain ⟨i, hi, e1⟩ := List.getElem_of_mem hv
          obtain ⟨x, _, h2⟩ := ha.get i (.exc k) (by rw [List.getElem?_eq_getElem hi, e1])
          exact h2
        · rw [hq] at h; cases h
      · rw [List.mem_replicate] at hv; cases hv.2
    have st1 : Step (Fs stack) π s π s₁ := by
      obtain ⟨h', tk, e⟩ := I.toInCall.same
      exact ⟨⟨h', tk, e⟩, .of_keeps keep, [], by simp, by simp⟩
    have X : Stm am n q (run P n) c cx (A.deeper env) (new ++ res) stack π s (fun z_ z_ => True) (vs ++ List.replicate (d.slots - d.arity) .undef) π Hc s₁ :=
      ⟨⟨ok, IH, ⟨rfl, by show env.scope.names = _; rw [esc], pk.fns, pk.nums⟩, cxk, as1, ne1⟩,
        ⟨⟨rfl, efr⟩, List.mem_append.mpr (.inl List.mem_cons_self), bn _ fL, fL, fun y l hl => ⟨List.mem_append.mpr (.inl (List.mem_cons_of_mem _ (hmc y l hl))), bn _ (fC y l (mem_of_lookup hl)), fC y l (mem_of_lookup hl)⟩⟩,
        st1, ⟨hr1, er1, hd1⟩, fun b o e => hideAll_get _ (hr.base b o e) (by
          rw [List.mem_append, not_or]
          refine ⟨fun hm => ?_, fun hm => ?_⟩
          · have z : am.B.get? b = none := (hr.off b hm).1
            rw [z] at e; cases e
          · have z : am.B.get? b = none := (hr.frames.mem hm).1
            rw [z] at e; cases e), trivial, fun z_ z_ z_ z_ z_ z_ => trivial⟩
    have down : ∀ {π' : List Addr} {H' : H} {h' : Heap}, HR (am.at (new ++ res)) (env :: stack) π' H' h' → HR (am.at res) stack π' H' h' := fun {π' H' h'} z => by
      have z := HR.sub (am := am) (r := new ++ res) (r' := res) (fun a ha => List.mem_append.mpr (.inr ha)) z
      refine ⟨z.base, z.frames.2.2, z.len, z.nodup, z.res, fun a ha => ⟨(z.off a ha).1, ?_⟩, z.cell⟩
      have := (z.off a ha).2
      rw [List.filterMap_cons, efr, List.mem_cons, not_or] at this
      exact this.2
    rcases TS X with h | h
    · exact absurd h hbad
    refine wpAny_mono h (fun fl s' z => ?_) fun y s' z => ?_
    · refine hold fun z_ k_ => ?_
      obtain ⟨fl', ρ', H', π', z1, z2, z3, z4, z5, _⟩ := z
      refine k_ ?_
      rw [z1]
      cases fl' with
      | next => cases z5; exact ⟨.none, H', π', rfl, z2, down z3.hr, rfl⟩
      | ret w => obtain ⟨xv, rfl, hxv⟩ := z5; exact ⟨w, H', π', rfl, z2, down z3.hr, hxv.sub fun a ha => List.mem_append.mpr (.inr ha)⟩
    · refine hold fun z_ k_ => ?_
      obtain ⟨d', ρ', H', π', e, C, fl, z1, rfl, z3, z4, z5, z6, z7⟩ := z
      refine k_ ?_
      have fl' := frames_low (π₀ := π) X.f z5.hr
      refine x_leave as1.frames fl' efr z7 fun h' x' t' => ?_
      rw [z1]
      refine ⟨d', H', π', e, C, _, rfl, rfl, z3, z4.touch X.f z5.hr t', ?_, x'⟩
      exact (down z5.hr).upto t'.slots fun b o e => t'.stays b o (X.low b o e)⟩
end
end Mine

namespace Mine
noncomputable def forkS (o : Option Bool) (a b : Unit → RS) : RS :=
  match o with
  | some true => a ()
  | some false => b ()
  | none => .bad
noncomputable def tabOf (tl : List (String × FnDef × List String)) : Tab := fun f => (tl.lookup f).map (·.1)
noncomputable def nmOf (tl : List (String × FnDef × List String)) : String → List String := fun f => ((tl.lookup f).map (·.2)).getD []
variable (q : Bool) (F : Fn) (ρ : List V) (h : H)
@[simp] theorem truthy_bool (b : Bool) : truthy (.bool b) = some b := rfl
@[simp] theorem s_ifs (t : PE) (a b : List PS) : exS q F (.ifs t a b) ρ h = (evE q F ρ t h).st ρ fun x h => forkS (truthy x) (fun z_ => exSs q F a ρ h) (fun z_ => exSs q F b ρ h) := rfl
noncomputable def V.val : V → Prop
  | .undef => False
  | .exc _ => False
  | _ => True
@[simp] theorem e_idx (a i : PE) : evE q F ρ (.idx a i) h = (evE q F ρ a h).bind fun x h => (evE q F ρ i h).bind fun y h => R.opt (pyIdx h x y) h := rfl
noncomputable def lstR (r : R (List V)) : R V :=
  match r with
  | .ok r h => R.opt (mkL r) h
  | _ => .bad
@[simp] theorem lstR_ok (r : List V) : lstR (.ok r h) = R.opt (mkL r) h := rfl
@[simp] theorem e_comp (elt : PE) (x : Nat) (it : PIt) (cond : Option PE) : evE q F ρ (.comp elt x it cond) h = if !q then .bad else (evIt q F ρ it h).bind fun vs h =>
      lstR (compL vs.2 (fun v h => evE q F (ρ.set x v) elt h) (fun v h => evC q F (ρ.set x v) cond h) vs.1 h) := rfl
@[simp] theorem es_cons (e : PE) (es : List PE) : evEs q F ρ (e :: es) h = (evE q F ρ e h).bind fun v h => (evEs q F ρ es h).bind fun vs h => .ok (v :: vs) h := rfl
noncomputable def rngR (v : V) (h : H) : R (List V × Watch) :=
  match v with
  | .int n => if -1000000 ≤ n ∧ n ≤ 1000000 then .ok (upto n, Option.none) h else .bad
  | _ => .bad
theorem rngR_int (h1 : -1000000 ≤ n) (h2 : n ≤ 1000000) : rngR (.int n) h = .ok (upto n, Option.none) h := by simp [rngR, h1, h2]
@[simp] theorem i_range1 (a : PE) : evIt q F ρ (.range1 a) h = (evE q F ρ a h).bind fun x h => rngR x h := rfl
@[simp] theorem ss_cons' (s : PS) (ss : List PS) : exSs q F (s :: ss) ρ h = (exS q F s ρ h).then fun ρ h => exSs q F ss ρ h := rfl
@[simp] theorem s_expr' (e : PE) : exS q F (.expr e) ρ h = (evE q F ρ e h).st ρ fun v h => noneS v ρ h := rfl
@[simp] theorem s_asg' (x : Nat) (e : PE) : exS q F (.asg x e) ρ h = (evE q F ρ e h).st ρ fun v h => .ok .next (ρ.set x v) h := rfl
@[simp] theorem s_ret' (e : PE) : exS q F (.ret e) ρ h = (evE q F ρ e h).st ρ fun v h => .ok (.ret v) ρ h := rfl
@[simp] theorem s_for1' (x : Nat) (it : PIt) (body : List PS) : exS q F (.for1 x it body) ρ h = if !q then .bad else (evIt q F ρ it h).st ρ fun vs h => forL vs.2 (bind1 x) (fun ρ h => exSs q F body ρ h) vs.1 ρ h := rfl
theorem runD_eq (d : FnDef) (vs : List V) (hl : vs.length = d.arity) : runD q F d vs h = (exSs q F d.body (vs ++ List.replicate (d.slots - d.arity) .undef) h).out := by
  simp [runD, hl]
theorem mkL_eq (hl : vs.length ≤ 1000000) : mkL vs = some (.lst vs) := by simp [mkL, hl]
theorem pcall_ok (hv : v.plain = true) (h : H) : pcall h (.ok v h) = .ok v h := by
  simp [pcall, frz, mapRef_plain _ v hv]
theorem pcall_new (h n : H) (hv : frz h.length (h ++ n) v = some w) : pcall h (.ok v (h ++ n)) = .ok w h := by
  simp [pcall, hv]
theorem pcall_err (c : String) (h n : H) : pcall h (.err c (h ++ n)) = .err c h := by simp [pcall]
@[simp] theorem isTys_one (h : H) (v : V) (t : Ty) : isTys h v [t] = isTy h v t := by
  simp only [isTys]; cases isTy h v t with
  | none => rfl
  | some b => cases b <;> rfl
theorem isTy_ref_list (h : H) (i : Nat) (vs : List V) (e : h[i]? = some (.list vs)) : isTy h (.ref i) .list = some true := by show refTy h[i]? _ = _; rw [e]; rfl
@[simp] theorem cmp_gt_int (h : H) (a b : Int) : pyCmp .gt h (.int a) (.int b) = some (decide (b < a)) := rfl
@[simp] theorem cmp_le_int (h : H) (a b : Int) : pyCmp .le h (.int a) (.int b) = some (decide (a ≤ b)) := by
  simp only [pyCmp, pyLt, Option.map_some, Option.some.injEq]
  by_cases e : b < a
  · simp [e]
  · simp [e]; omega
@[simp] theorem cmp_ge_int (h : H) (a b : Int) : pyCmp .ge h (.int a) (.int b) = some (decide (b ≤ a)) := by
  simp only [pyCmp, pyLt, Option.map_some, Option.some.injEq]
  by_cases e : a < b
  · simp [e]
  · simp [e]; omega
theorem pyEq_plain (h : H) (ha : a.plain = true) (hb : b.plain = true) (oa : V.ok 8 a = true) (ob : V.ok 8 b = true) : pyEq h a b = some (peq a b) := by
  simp [pyEq, frz, mapRef_plain _ a ha, mapRef_plain _ b hb, oa, ob]
@[simp] theorem pyEq_int (h : H) (a b : Int) : pyEq h (.int a) (.int b) = some (decide (a = b)) := by
  rw [pyEq_plain h rfl rfl rfl rfl]; simp only [peq_none, peq_bool, peq_int, peq_str, peq_tup, peq_lst, Option.some.injEq]; exact Bool.eq_iff_iff.2 (by simp)
theorem bin_mul_int (h : H) (a b : Int) (e : b.natAbs < 9223372036854775808) : pyBin .mul h (.int a) (.int b) = some (.int (a * b)) := if_pos (.inr e)
theorem bin_fdiv_int (h : H) (a b : Int) (e : b ≠ 0) : pyBin .fdiv h (.int a) (.int b) = some (.int (a.fdiv b)) := if_neg e
theorem bin_mod_int (h : H) (a b : Int) (e : b ≠ 0) : pyBin .mod h (.int a) (.int b) = some (.int (a.fmod b)) := if_neg e
@[simp] theorem cell_get (h : H) (c : Cell) : (h ++ [c])[h.length]? = some c := by simp
@[simp] theorem cell_set (h : H) (c d : Cell) : (h ++ [c]).set h.length d = h ++ [d] := by simp
theorem fmod_nat (a b : Nat) : (a : Int).fmod (b : Int) = ((a % b : Nat) : Int) := by
  rw [Int.fmod_eq_emod_of_nonneg _ (by omega)]; rfl
theorem fdiv_nat (a b : Nat) : (a : Int).fdiv (b : Int) = ((a / b : Nat) : Int) := by
  rw [Int.fdiv_eq_ediv_of_nonneg _ (by omega)]; rfl
set_option tactic.hygienic true in
theorem len_of {h : H} {w : V} {vs : List V} (hl : litems h w = some vs) : Mine.bf .len h w = some (.int vs.length) := by
  cases w <;> simp only [litems, Option.some.injEq, reduceCtorEq] at hl
  · subst hl; rfl
  · rename_i i
    cases hc : h[i]? with
    | none => rw [hc] at hl; cases hl
    | some c =>
      rw [hc] at hl
      cases c with
      | dict es => cases hl
      | list us => cases hl; simp [Mine.bf, hc]
set_option tactic.hygienic true in
theorem isList_of {h : H} {w : V} {vs : List V} (hl : litems h w = some vs) : isTy h w .list = some true := by
  cases w <;> simp only [litems, Option.some.injEq, reduceCtorEq] at hl
  · rfl
  · rename_i i
    cases hc : h[i]? with
    | none => rw [hc] at hl; cases hl
    | some c =>
      rw [hc] at hl
      cases c with
      | dict es => cases hl
      | list us => exact isTy_ref_list _ _ _ hc
set_option tactic.hygienic true in
theorem iter_of {h : H} {w : V} {vs : List V} (hl : litems h w = some vs) : ∃ t : Watch, iterOf h w = some (vs, t) ∧ t.ok h = true := by
  cases w <;> simp only [litems, Option.some.injEq, reduceCtorEq] at hl
  · subst hl; exact ⟨Option.none, rfl, rfl⟩
  · rename_i i
    cases hc : h[i]? with
    | none => rw [hc] at hl; cases hl
    | some c =>
      rw [hc] at hl
      cases c with
      | dict es => cases hl
      | list us => cases hl; exact ⟨some (i, .list vs), by simp [iterOf, hc], by simp [Watch.ok, hc]⟩
noncomputable def okV (h : H) (v : V) : Prop :=
  match v with
  | .undef => False
  | .exc _ => False
  | .ref i => (h[i]?).isSome = true
  | _ => True
theorem okV.val (hv : okV h v) : v.val := by
  cases v <;> first | trivial | exact hv.elim
set_option tactic.hygienic true in
theorem okV_of {h : H} {w : V} {vs : List V} (hl : litems h w = some vs) : okV h w := by
  cases w <;> simp only [litems, Option.some.injEq, reduceCtorEq] at hl
  · trivial
  · rename_i i
    cases hc : h[i]? with
    | none => rw [hc] at hl; cases hl
    | some c => simp [okV, hc]
set_option tactic.hygienic true in
theorem notList_of {h : H} {w : V} (hv : okV h w) (hl : litems h w = Option.none) : isTy h w .list = some false := by
  cases w <;> first | rfl | exact hv.elim | cases hl | skip
  rename_i i
  simp only [okV, Option.isSome_iff_exists] at hv
  obtain ⟨c, hc⟩ := hv
  cases c with
  | list vs => simp [litems, hc] at hl
  | dict es => show refTy h[i]? .list = _; rw [hc]; rfl
theorem litems_ref {h : H} {i : Nat} {vs : List V} (hc : h[i]? = some (.list vs)) : litems h (.ref i) = some vs := by simp [litems, hc]
theorem lcell_ref {h : H} {i : Nat} {vs : List V} (hc : h[i]? = some (.list vs)) : lcell h (.ref i) = true := by simp [lcell, hc]
theorem onList_ref {h : H} {i : Nat} {vs : List V} (hc : h[i]? = some (.list vs)) (f : List V → Option (V × List V)) (v : V) (vs' : List V) (e : f vs = some (v, vs')) (hl : vs'.length ≤ 1000000) :
    onList h (.ref i) f = .ok v (h.set i (.list vs')) := by simp [onList, hc, e, hl]
theorem o_asg {q : Bool} {F : Fn} {x : Nat} {e : PE} {ss : List PS} {ρ ρ' : List V} {h h' : H} {v : V} {r : R V} (he : evE q F ρ e h = .ok v h') (hρ : ρ.set x v = ρ') (k : (exSs q F ss ρ' h').out = r) : (exSs q F (.asg x e :: ss) ρ h).out = r := by
  subst hρ; rw [ss_cons', s_asg', he]; exact k
theorem o_ret {q : Bool} {F : Fn} {e : PE} {ss : List PS} {ρ : List V} {h h' : H} {v : V} (he : evE q F ρ e h = .ok v h') : (exSs q F (.ret e :: ss) ρ h).out = .ok v h' := by
  rw [ss_cons', s_ret', he]; rfl
theorem o_expr {q : Bool} {F : Fn} {e : PE} {ss : List PS} {ρ : List V} {h h' : H} {r : R V} (he : evE q F ρ e h = .ok .none h') (k : (exSs q F ss ρ h').out = r) : (exSs q F (.expr e :: ss) ρ h).out = r := by
  rw [ss_cons', s_expr', he]; exact k
theorem o_exprE {q : Bool} {F : Fn} {e : PE} {ss : List PS} {ρ : List V} {h h' : H} {c : String} (he : evE q F ρ e h = .err c h') : (exSs q F (.expr e :: ss) ρ h).out = .err c h' := by
  rw [ss_cons', s_expr', he]; rfl
theorem exSs_app (q : Bool) (F : Fn) (a b : List PS) (ρ : List V) (h : H) : exSs q F (a ++ b) ρ h = (exSs q F a ρ h).then fun ρ h => exSs q F b ρ h := by
  induction a generalizing ρ h with
  | nil => rfl
  | cons s a ih =>
    rw [List.cons_append, ss_cons', ss_cons']
    cases exS q F s ρ h with
    | bad => rfl
    | err c ρ h => rfl
    | ok f ρ h => cases f with
      | next => simp only [RS.then_next]; exact ih ρ h
      | ret v => rfl
theorem o_ifT {q : Bool} {F : Fn} {t : PE} {a b ss : List PS} {ρ : List V} {h h' : H} {r : R V} (ht : evE q F ρ t h = .ok (.bool true) h') (k : (exSs q F (a ++ ss) ρ h').out = r) : (exSs q F (.ifs t a b :: ss) ρ h).out = r := by
  rw [ss_cons', s_ifs, ht]; rw [exSs_app] at k; exact k
theorem o_ifF {q : Bool} {F : Fn} {t : PE} {a b ss : List PS} {ρ : List V} {h h' : H} {r : R V} (ht : evE q F ρ t h = .ok (.bool false) h') (k : (exSs q F (b ++ ss) ρ h').out = r) : (exSs q F (.ifs t a b :: ss) ρ h).out = r := by
  rw [ss_cons', s_ifs, ht]; rw [exSs_app] at k; exact k
set_option tactic.hygienic true in
theorem isTy_int_no {h : H} {v : V} (hv : okV h v) (h1 : ∀ a, v ≠ .int a) (h2 : ∀ b, v ≠ .bool b) : isTy h v .int = some false := by
  cases v <;> first | rfl | exact hv.elim | exact absurd rfl (h1 _) | exact absurd rfl (h2 _) | skip
  rename_i i
  obtain ⟨c, hc⟩ := Option.isSome_iff_exists.mp hv
  simp only [isTy, hc]
  cases c <;> rfl
theorem kind_of (v : V) : (∃ a, v = .int a) ∨ (∃ b, v = .bool b) ∨ ((∀ a, v ≠ .int a) ∧ ∀ b, v ≠ .bool b) := by
  cases v <;> first | exact .inl ⟨_, rfl⟩ | exact .inr (.inl ⟨_, rfl⟩) | exact .inr (.inr ⟨(fun z_ q => nomatch q), (fun z_ q => nomatch q)⟩)
end Mine

namespace Mine
open PySem PySem.W PyProof.Rows
noncomputable def excChk (K : Frag) : Bool := excNames.all fun c => match nsIn K mainGlobals (Str.ofString c) with
  | some (some (.ref C)) =>
      (findIn K (.ref C) "__getattribute__" == some (some (.builtin "BaseException.__getattribute__")) && findIn K (.ref C) "__getattr__" == some none) && (clsIn K C).isSome && findIn K (.ref C) "__class__" == some (some (.builtin "object.__class__")) &&
      specialIn K (.builtin "object.__class__") "__get__" == some (some (.builtin "getset_descriptor.__get__")) && takesIn K (.builtin "object.__class__") == some true &&
      mroIn K C (.type "object") == some true && kitOne K (.ref C) (.type "ValueError") == some true &&
      (excNames.all fun d => match nsIn K mainGlobals (Str.ofString d) with
        | some (some (.ref D)) => kitOne K (.ref C) (.ref D) == some (c == d || d == "RingError")
        | _ => false) &&
      (match nsIn K mainGlobals (Str.ofString "RingError") with
        | some (some (.ref D)) => exmOne K (.ref C) (.ref D) == some true
        | _ => false)
  | _ => false
noncomputable def specChk (p : Program) : Bool := excNames.all fun c => specOf p (Str.ofString c) == some ("ValueError.__new__", [.type "ValueError", .type "Exception", .type "BaseException", .type "object"])
noncomputable def btChk (K : Frag) : Bool := bTab.all fun q => nsIn K mainGlobals q.1 == some none && bootBuiltins q.1 == some q.2 && q.1 != ("__name__" : Str)
noncomputable def defChk (p : Program) (fns : List String) (nums : List (String × Int)) (tl : List (String × FnDef × List String)) : Bool :=
  tl.all fun t => match (recsOf p).find? (fun r => r.name == Str.ofString t.1) with
    | some r => ckFn fns nums t.2.1 t.2.2 (Calls.docDef r.name r.params r.body r.scope .none .none .none)
    | none => false
noncomputable def fnsChk (p : Program) (fns : List String) : Bool := fns.all fun f => ((recsOf p).find? (fun r => r.name == Str.ofString f)).isSome
noncomputable def numsChk (K : Frag) (nums : List (String × Int)) : Bool := nums.all fun q => match nsIn K mainGlobals (Str.ofString q.1) with
  | some (some (.int i _)) => i == q.2
  | _ => false
section
variable {p prog : Program} {w : World} {loose : List Str} {mean : ExcName → Option Value} {mg mb : Str → Option Value} {h : Heap} {K : Frag}
set_option tactic.hygienic true in
theorem exc_at (X : K.In h) (G : h.Ns mainGlobals mg) (hx : excChk K = true) (hc : c ∈ excNames) : ∃ C, nsIn K mainGlobals (Str.ofString c) = some (some (.ref C)) ∧ mg (Str.ofString c) = some (.ref C) := by
  have := List.all_eq_true.mp hx c hc
  split at this
  · rename_i C e; exact ⟨C, e, mg_of X G e⟩
  · cases this
theorem amb_ok (T : Top p loose mean mg mb h) (X : K.In h) (himp : importsNone p = true) (htree : prog.given.tree = none) (hx : excChk K = true) (ho : specChk p = true) (hb : btChk K = true) :
    AmbX { prog, w, B := h, mg, mb, P, K } where
  g := T.g
  b := T.b
  nolimit := T.nolimit
  noseer := T.seer himp
  tree := htree
  K := X
  bt := fun q hq => by
    have := List.all_eq_true.mp hb q hq
    simp only [Bool.and_eq_true, beq_iff_eq, bne_iff_ne, ne_eq] at this
    exact ⟨mg_none_of X T.g this.1.1, (T.builtins q.1 this.2).trans this.1.2⟩
  exc := fun c hc => by
    obtain ⟨C, e1, e2⟩ := exc_at X T.g hx hc
    have := List.all_eq_true.mp hx c hc
    rw [e1] at this
    simp only [Bool.and_eq_true, beq_iff_eq] at this
    refine hold fun z_ k_ => ?_
    obtain ⟨⟨⟨⟨⟨⟨⟨⟨a1, a2⟩, a3⟩, a4⟩, a5⟩, a6⟩, a7⟩, _⟩, _⟩ := this
    refine k_ ?_
    exact ⟨C, e2, a1, a2, a3, a4, a5, a6, a7⟩
  sub := fun c hc d hd C D e1 e2 => by
    obtain ⟨C', f1, f2⟩ := exc_at X T.g hx hc
    obtain ⟨D', g1, g2⟩ := exc_at X T.g hx hd
    have h1 : C' = C := by have := f2.symm.trans e1; cases this; rfl
    have h2 : D' = D := by have := g2.symm.trans e2; cases this; rfl
    subst h1 h2
    have := List.all_eq_true.mp hx c hc
    rw [f1] at this
    simp only [Bool.and_eq_true, beq_iff_eq] at this
    have := List.all_eq_true.mp this.1.2 d hd
    rw [g1] at this
    simpa only [beq_iff_eq] using this
  exm := fun c hc C D e1 e2 => by
    obtain ⟨C', f1, f2⟩ := exc_at X T.g hx hc
    obtain ⟨D', g1, g2⟩ := exc_at (c := "RingError") X T.g hx (by simp [excNames])
    have h1 : C' = C := by have := f2.symm.trans e1; cases this; rfl
    have h2 : D' = D := by have := g2.symm.trans e2; cases this; rfl
    subst h1 h2
    have := List.all_eq_true.mp hx c hc
    rw [f1] at this
    simp only [Bool.and_eq_true, beq_iff_eq] at this
    have := this.2
    rw [g1] at this
    simpa only [beq_iff_eq] using this
  rs := fun c hc C e1 => by
    have hs := List.all_eq_true.mp ho c hc
    rw [beq_iff_eq] at hs
    obtain ⟨C', O, _⟩ := T.ownAt hs
    have h1 : C' = C := by have := O.bound.symm.trans e1; cases this; rfl
    subst h1
    refine hold fun z_ k_ => ?_
    obtain ⟨bm, N, nm, q, bs, hdct, sn, sub, ab, col, dd, k0, k1, k2, k3, k5, mN, hC, hN, hq, TQ⟩ := O.obj
    refine k_ ?_
    exact ⟨nm, q, N, bs, bm, hdct, sn, sub, ab, col, dd, k0, k1, k2, k3, k5, mN, hC, hN, hq, TQ⟩
theorem ckFn_any (pm cd doc : Value) :
    ckFn fns nums d nm (Calls.docDef n ps b sc pm cd doc) = ckFn fns nums d nm (Calls.docDef n ps b sc .none .none .none) := rfl
set_option tactic.hygienic true in
theorem prog_ok (T : Top p loose mean mg mb h) (X : K.In h) (hd : defChk p fns nums tl = true) (hf : fnsChk p fns = true) (hn : numsChk K nums = true) :
    ProgOK { prog, w, B := h, mg, mb, P, K } (tabOf tl) (nmOf tl) fns nums where
  fn := fun f d a o fd e1 e2 e3 e4 => by
    unfold tabOf at e1
    unfold nmOf
    cases hl : tl.lookup f with
    | none => rw [hl] at e1; cases e1
    | some t =>
      rw [hl] at e1
      simp only [Option.map_some, Option.some.injEq] at e1
      subst e1
      have hm : (f, t) ∈ tl := by
        clear hd
        induction tl with
        | nil => simp at hl
        | cons u tl ih =>
          obtain ⟨g, u⟩ := u
          rw [List.lookup_cons] at hl
          cases hq : f == g with
          | true => rw [hq] at hl; cases hl; rw [beq_iff_eq.mp hq]; exact List.mem_cons_self
          | false => rw [hq] at hl; exact List.mem_cons_of_mem _ (ih hl)
      have := List.all_eq_true.mp hd _ hm
      split at this
      · rename_i r hr
        have hrm := List.mem_of_find?_eq_some hr
        have hrn : r.name = Str.ofString f := by have := List.find?_some hr; simpa using this
        refine hold fun z_ k_ => ?_
        obtain ⟨a', o', pm, code, doc, t1, t2, t3, t4⟩ := T.fn r hrm
        refine k_ ?_
        rw [hrn] at t1
        have h1 : a' = a := by have := t1.symm.trans e2; cases this; rfl
        subst h1
        have h2 : o' = o := by have := t2.symm.trans e3; cases this; rfl
        subst h2
        rw [t3] at e4
        cases e4
        refine ⟨?_, t4⟩
        rw [ckFn_any]
        exact this
      · cases this
  fns := fun f hf' => by
    have := List.all_eq_true.mp hf f hf'
    obtain ⟨r, hr⟩ := Option.isSome_iff_exists.mp this
    have hrm := List.mem_of_find?_eq_some hr
    have hrn : r.name = Str.ofString f := by have := List.find?_some hr; simpa using this
    refine hold fun z_ k_ => ?_
    obtain ⟨a', o', pm, code, doc, t1, t2, t3, t4⟩ := T.fn r hrm
    refine k_ ?_
    rw [hrn] at t1
    exact ⟨a', t1, o', _, t2, t3⟩
  nums := fun q hq => by
    have := List.all_eq_true.mp hn q hq
    split at this
    · rename_i i t e
      rw [beq_iff_eq] at this
      subst this
      exact ⟨t, mg_of X T.g e⟩
    · cases this
theorem ints_vr (hi : IntsAre xs l) : VRs am π h (l.map .int) xs := by
  induction hi with
  | nil => simp [VRs]
  | cons n t _ ih => simp only [List.map_cons, VRs, VR]; exact ⟨_, _, rfl, ⟨t, rfl⟩, ih⟩
theorem law_wp (T : Top p loose mean mg mb s₁.heap) (X : K.In s₁.heap) (himp : importsNone p = true) (htree : prog.given.tree = none)
    (hx : excChk K = true) (ho : specChk p = true) (hb : btChk K = true) (hd : defChk p fns nums tl = true) (hf : fnsChk p fns = true) (hn : numsChk K nums = true) (hlaw : "law" ∈ fns)
    (hmg : mg "law" = some (.ref fa)) (hl : s₁.heap.IsList a xs.toArray) (hi : IntsAre xs l) (h63 : ¬ (63 : Int) < (l.length : Int)) (hn9 : n ≤ 400) 
    (hrun : run (tabOf tl) n true "law" [V.ints l] [] = .ok (.bool true) H') {Q : Value → Shared → Prop} {E : Value → Shared → Prop}
    (hQ : ∀ s', (∃ h' tk, s' = { s₁ with heap := h', toks := tk }) → (∀ b o, s₁.heap.get? b = some o → s'.heap.get? b = some o) → Q (.bool true) s') :
    wpAny (model prog w) callerA (PySem.call (.ref fa) [.ref a]) Q E s₁ := by
  have ok : AmbX { prog := prog, w := w, B := s₁.heap, mg := mg, mb := mb, P := tabOf tl, K := K } := amb_ok T X himp htree hx ho hb
  have pk : ProgOK { prog := prog, w := w, B := s₁.heap, mg := mg, mb := mb, P := tabOf tl, K := K } (tabOf tl) (nmOf tl) fns nums := prog_ok T X hd hf hn
  obtain ⟨fa', ff⟩ := pk.fns "law" hlaw
  have hfa : fa' = fa := by have := ff.1.symm.trans hmg; cases this; rfl
  subst hfa
  have hr : HR (({ prog := prog, w := w, B := s₁.heap, mg := mg, mb := mb, P := tabOf tl, K := K } : Amb).at []) [] [] [] s₁.heap :=
    ⟨fun z_ z_ e => e, trivial, rfl, List.nodup_nil, (fun a ha => by cases ha), (fun a ha => by cases ha), (fun i c a h1 => by simp at h1)⟩
  have hlen : xs.length = l.length := by have := (ints_vr (am := { prog := prog, w := w, B := s₁.heap, mg := mg, mb := mb, P := tabOf tl, K := K }) (π := []) (h := s₁.heap) hi).len; simpa using this
  have J := (run_ok ok pk n).call [] true "law" fa' [V.ints l] [.ref a] [] callerA [] [] s₁ ff ⟨rfl, by show 1 + claimMargin + n < 800; unfold claimMargin; omega, by show 4 + 10 * n < 9000; omega⟩ hr rfl (.inl (by
    simp only [VRs, V.ints, VR]
    exact ⟨_, _, rfl, ⟨a, xs, rfl, ⟨by simp, by simp [Amb.at]⟩, hl, by simp; omega, ints_vr hi⟩, rfl⟩))
  rw [hrun] at J
  rcases J with J | J
  · cases J
  · refine wpAny_mono J (fun v s' z => ?_) fun e s' z => ?_
    · refine hold fun z_ k_ => ?_
      obtain ⟨b, H2, π', z1, z2, z3, z4⟩ := z
      refine k_ ?_
      cases z1
      simp only [VR] at z4
      subst z4
      exact hQ s' z2.same fun b o e => z2.ext.keep b o e (by simp) (by simp [Fs])
    · obtain ⟨_, _, _, _, _, _, z, _⟩ := z; cases z
end
noncomputable def exAddrs (h : Heap) : List Addr := excNames.filterMap fun c => match h.nsMap mainGlobals (Str.ofString c) with
  | some (.ref C) => some C
  | _ => none
noncomputable def fragAt (h : Heap) (as : List Addr) : Frag := as.filterMap fun a => (h.get? a).map fun o => (a, o)
noncomputable def exFrag (h : Heap) : Frag := fragAt h (mainGlobals :: exAddrs h ++ (exAddrs h).filterMap fun C => match h.get? C with
  | some ⟨_, _, .cls cd, _⟩ => some cd.ns
  | _ => none)
noncomputable def hookB (nums : List (String × Int)) (h : Heap) : Bool := excChk (exFrag h) && btChk (exFrag h) && numsChk (exFrag h) nums
noncomputable def Leans (nums : List (String × Int)) (h : Heap) : Prop := ∃ K : Frag, K.In h ∧ excChk K = true ∧ btChk K = true ∧ numsChk K nums = true
theorem fragAt_in (h : Heap) : ∀ as : List Addr, (fragAt h as).In h := by
  intro as a o e
  have hm := lookup_mem e
  obtain ⟨b, _, hb⟩ := List.mem_filterMap.mp hm
  cases hq : h.get? b with
  | none => rw [hq] at hb; cases hb
  | some o' => rw [hq] at hb; cases hb; exact hq
noncomputable def keepAt (is : List Nat) (p : Program) : Program := { p with main := { p.main with body := (p.main.body.zipIdx.filter fun x => is.contains x.2).map (·.1) } }
theorem law_head {l : OpenLaw} {q : Program} {N : Nat} {nums : List (String × Int)} (said : l.wellSaid = true) (hrs : l.row.wellSaid = true)
    (left : LeftO l.row.prog q [] (fun s => xlAt q [] s && recOk (RowW.records l.row.toRowW) s) (fun s => hookB nums s.heap) (fun z_ => true) N)
    (d1 : (defOf q l.row.name).isSome = true) (d2 : l.row.prog.theDef l.row.name = (defOf q l.row.name).map fun x => (x.1.params, x.1.body, x.1.scope))
    (d3 : ((defOf q l.row.name).map fun x => kwWritten? x.1.params.kwonlyargs x.1.params.kw_defaults) = (defOf q l.row.name).map fun x => some x.2)
    (hwr : (!l.row.writes || l.row.records.isEmpty) = true) (ok : (chainsOk q && opensWell l.row.prog && (frees l.row.toRowW && l.row.within.isEmpty)) = true) (hb : l.row.prog.bare) (hw : l.row.toRowW.promised)
    (walk : ∀ d kwd, defOf q l.row.name = some (d, kwd) → WalkO q [] (XL q []) (fun z_ h => Leans nums h) l.row.toRowW d kwd fun f vs => PySem.call f vs) : l.Holds := by
  obtain ⟨⟨d, kwd⟩, hdef⟩ := Option.isSome_iff_exists.mp d1
  rw [hdef] at d2 d3
  simp only [Option.map_some, Option.some.injEq] at d2 d3
  refine ⟨said, holds_open (q := q) (loose := []) (Xt := fun s => xlAt q [] s && recOk (RowW.records l.row.toRowW) s) (XP := XL q []) (YP := fun z_ h => Leans nums h) left (fun w s e => ?_) (fun w h h' e k => ?_)
    (fun s e => xl_of s (Bool.and_eq_true_iff.mp e).1) XL.keeps hdef d2 d3 (fun s e => recFacts_of (Bool.and_eq_true_iff.mp e).2) hwr hrs ok hb hw (walk d kwd hdef)⟩
  · simp only [hookB, Bool.and_eq_true] at e
    exact ⟨exFrag s.heap, fragAt_in _ _, e.1.1, e.1.2, e.2⟩
  · obtain ⟨K, k1, k2⟩ := e
    exact ⟨K, fun a o z => k a o (k1 a o z), k2⟩
end Mine

namespace Mine
@[simp] theorem pcall_bool (h : H) (b : Bool) : pcall h (.ok (.bool b) h) = .ok (.bool b) h := pcall_ok rfl h
noncomputable def V.nat (d : Nat) : V := .int d
noncomputable def V.nats (l : List Nat) : List V := l.map V.nat
@[simp] theorem nats_length (l : List Nat) : (V.nats l).length = l.length := by simp [V.nats]
theorem nats_cons (a : Nat) (l : List Nat) : V.nats (a :: l) = .int a :: V.nats l := rfl
theorem nats_append (a b : List Nat) : V.nats (a ++ b) = V.nats a ++ V.nats b := by simp [V.nats]
theorem nats_take (n : Nat) (l : List Nat) : (V.nats l).take n = V.nats (l.take n) := by simp [V.nats]
theorem nats_drop (n : Nat) (l : List Nat) : (V.nats l).drop n = V.nats (l.drop n) := by simp [V.nats]
theorem nats_get {l : List Nat} {i : Nat} {d : Nat} (e : l[i]? = some d) : (V.nats l)[i]? = some (.int d) := by simp [V.nats, e, V.nat]
theorem nats_plains (l : List Nat) : V.plains (V.nats l) = true := by
  induction l with
  | nil => rfl
  | cons a l ih => rw [nats_cons, V.plains, ih]; rfl
theorem nats_plain (l : List Nat) : V.plain (.lst (V.nats l)) = true := nats_plains l
theorem nats_val (hv : v ∈ V.nats l) : ∃ d ∈ l, v = .int d := by
  simp only [V.nats, List.mem_map] at hv
  obtain ⟨d, hd, rfl⟩ := hv; exact ⟨d, hd, rfl⟩
theorem peqs_nats (a b : List Nat) : peqs (V.nats a) (V.nats b) = decide (a = b) := by
  induction a generalizing b with
  | nil => cases b <;> rfl
  | cons x a ih => cases b with
    | nil => rfl
    | cons y b =>
      rw [nats_cons, nats_cons, peqs_cons, peq_int, ih]
      by_cases e1 : x = y <;> by_cases e2 : a = b <;> simp [e1, e2]
      omega
theorem ok_nats (l : List Nat) (n : Nat) : (V.nats l).all (V.ok (n + 1)) = true := by
  rw [List.all_eq_true]; intro v hv
  obtain ⟨d, _, rfl⟩ := nats_val hv; rfl
theorem ok_lnats (l : List Nat) (n : Nat) : V.ok (n + 2) (.lst (V.nats l)) = true := ok_nats l n
theorem pyEq_frz (ha : frz 0 h a = some a') (hb : frz 0 h b = some b') (oa : V.ok 8 a' = true) (ob : V.ok 8 b' = true) : pyEq h a b = some (peq a' b') := by
  simp [pyEq, ha, hb, oa, ob]
theorem frz_plain (n : Nat) (h : H) (v : V) (hv : v.plain = true) : frz n h v = some v := mapRef_plain _ v hv
noncomputable def IsL (h : H) (v : V) (l : List Nat) : Prop := litems h v = some (V.nats l)
theorem IsL.lst (h : H) (l : List Nat) : IsL h (.lst (V.nats l)) l := rfl
theorem IsL.ref {h : H} {i : Nat} {l : List Nat} (e : h[i]? = some (.list (V.nats l))) : IsL h (.ref i) l := litems_ref e
theorem frzAt_nats (hn : n ≤ i) (e : h[i]? = some (.list (V.nats l))) : frzAt (k + 1) n h i = some (.lst (V.nats l)) := by
  rw [frzAt, if_neg (by omega), e]
  show Option.map _ (V.mapRefs _ (V.nats l)) = _
  rw [mapRefs_plain _ _ (nats_plains l)]; rfl
set_option tactic.hygienic true in
theorem litems_cases (e : litems h v = some vs) : v = .lst vs ∨ ∃ i, v = .ref i ∧ h[i]? = some (.list vs) := by
  cases v <;> simp only [litems, Option.some.injEq, reduceCtorEq] at e
  · exact .inl (by rw [e])
  · rename_i i
    refine .inr ⟨i, rfl, ?_⟩
    cases hc : h[i]? with
    | none => rw [hc] at e; cases e
    | some c =>
      rw [hc] at e
      cases c with
      | dict es => cases e
      | list us => cases e; rfl
theorem IsL.frz (e : IsL h v l) : frz 0 h v = some (.lst (V.nats l)) := by
  rcases litems_cases e with rfl | ⟨i, rfl, hc⟩
  · exact frz_plain 0 h _ (nats_plain l)
  · exact frzAt_nats (Nat.zero_le _) hc
theorem IsL.okV {h : H} {v : V} {l : List Nat} (e : IsL h v l) : okV h v := okV_of e
theorem IsL.val {h : H} {v : V} {l : List Nat} (e : IsL h v l) : v.val := (okV_of e).val
theorem IsL.items (e : IsL h v l) : ∀ vs, litems h v = some vs → ∀ x ∈ vs, Mine.okV h x := by
  intro vs hv x hx
  rw [e] at hv; cases hv
  obtain ⟨d, _, rfl⟩ := nats_val hx; trivial
theorem pyEq_L (ha : IsL h a x) (hb : IsL h b y) : pyEq h a b = some (decide (x = y)) := by
  rw [pyEq_frz ha.frz hb.frz (ok_lnats x 6) (ok_lnats y 6), peq_lst, peqs_nats]
theorem IsL.slice {h : H} {v : V} {l : List Nat} (e : IsL h v l) (lo hi : Option V) (a b : Option Int) (ha : lo.mapM asInt? = some a) (hb : hi.mapM asInt? = some b) : pySlice h v lo hi = some (.lst (slc (V.nats l) a b)) := by
  rw [pySlice, ha, hb]
  rcases litems_cases e with rfl | ⟨i, rfl, hc⟩
  · rfl
  · simp only [e, Option.map_some]
    rw [litems_ref hc]; rfl
theorem slice_of {h : H} {v : V} {vs : List V} (e : litems h v = some vs) (lo hi : Option V) (a b : Option Int) (ha : lo.mapM asInt? = some a) (hb : hi.mapM asInt? = some b) : pySlice h v lo hi = some (.lst (slc vs a b)) := by
  rw [pySlice, ha, hb]
  rcases litems_cases e with rfl | ⟨i, rfl, hc⟩
  · rfl
  · simp only
    rw [litems_ref hc]; rfl
theorem slc_to {α : Type} (vs : List α) (j : Nat) : slc vs Option.none (some (j : Int)) = vs.take j := by
  simp only [slc, cut, Int.not_lt.2 (Int.natCast_nonneg j), if_false, Int.toNat_natCast, List.drop_zero]
  rcases Nat.le_total j vs.length with hj | hj
  · rw [Nat.min_eq_left hj]
  · rw [Nat.min_eq_right hj, List.take_length, List.take_of_length_le hj]
theorem slc_from {α : Type} (vs : List α) (i : Nat) : slc vs (some (i : Int)) Option.none = vs.drop i := by
  simp only [slc, cut, Int.not_lt.2 (Int.natCast_nonneg i), if_false, Int.toNat_natCast, List.take_length]
  rcases Nat.le_total i vs.length with hj | hj
  · rw [Nat.min_eq_left hj]
  · rw [Nat.min_eq_right hj, List.drop_length, List.drop_of_length_le hj]
theorem slice_to (e : litems h v = some vs) (j : Nat) : pySlice h v Option.none (some (.int j)) = some (.lst (vs.take j)) := by
  rw [slice_of e _ _ Option.none (some (j : Int)) rfl rfl, slc_to]
theorem slice_from (e : litems h v = some vs) (i : Nat) : pySlice h v (some (.int i)) Option.none = some (.lst (vs.drop i)) := by
  rw [slice_of e _ _ (some (i : Int)) Option.none rfl rfl, slc_from]
theorem idx_of {h : H} {v : V} {vs : List V} (e : litems h v = some vs) {j : Nat} {x : V} (hj : vs[j]? = some x) : pyIdx h v (.int j) = some x := by
  have hl : j < vs.length := (List.getElem?_eq_some_iff.1 hj).1
  have hp : place vs.length (j : Int) = some j := by simp [place, hl]
  rcases litems_cases e with rfl | ⟨i, rfl, hc⟩
  · show (place vs.length (j : Int)).bind _ = _
    rw [hp]; exact hj
  · rw [pyIdx, hc]
    show (place vs.length (j : Int)).bind _ = _
    rw [hp]; exact hj
theorem IsL.idx {h : H} {v : V} {l : List Nat} (e : IsL h v l) {j d : Nat} (hj : l[j]? = some d) : pyIdx h v (.int j) = some (.int d) := idx_of e (nats_get hj)
theorem addLL (h : H) (vs ws : List V) (hl : vs.length + ws.length ≤ 1000000) : pyBin .add h (.lst vs) (.lst ws) = some (.lst (vs ++ ws)) := by
  simp [pyBin, pyAdd, litems, mkL, hl]
theorem mul_of (ha : litems h a = some vs) (n : Nat) (hn : n < 1000000) (hl : n * vs.length ≤ 1000000) : pyBin .mul h a (.int n) = some (.lst (List.replicate n vs).flatten) := by
  have h1 : -1000000 < (n : Int) ∧ (n : Int) < 1000000 := by omega
  have e : (if -1000000 < (n : Int) ∧ (n : Int) < 1000000 then (litems h a).bind fun vs => mkL (rep vs n) else Option.none) = some (.lst (List.replicate n vs).flatten) := by
    rw [if_pos h1, ha, Option.bind_some, rep, Int.toNat_natCast]
    exact mkL_eq (by simpa using hl)
  rcases litems_cases ha with rfl | ⟨i, rfl, _⟩ <;> exact e
theorem fmod_small (x : Int) (m : Nat) (hm : 0 < m) : ∃ j : Nat, j < m ∧ x.fmod m = j := by
  have h1 := Int.fmod_nonneg_of_pos x (show (0 : Int) < m by omega)
  have h2 := Int.fmod_lt_of_pos x (show (0 : Int) < m by omega)
  obtain ⟨j, hj⟩ := Int.eq_ofNat_of_zero_le h1
  exact ⟨j, by omega, hj⟩
noncomputable def cellAt (l : List Int) (k : Nat) : Int := l.getD k 0
theorem rng_nat (h : H) (n : Nat) (hn : n ≤ 1000000) : rngR (.int n) h = .ok (upto n, Option.none) h := rngR_int h (by omega) (by omega)
theorem start {P : Tab} {f : String} {d : FnDef} {n : Nat} {q : Bool} {vs ρ : List V} {h : H} {r : R V} (hf : P f = some d) (hl : vs.length = d.arity) (hρ : vs ++ List.replicate (d.slots - d.arity) .undef = ρ)
    (k : (exSs q (run P n) d.body ρ h).out = r) : run P (n + 1) q f vs h = r := by
  rw [run_succ hf, runD_eq _ _ _ _ _ hl, hρ]; exact k
theorem it_nat {q : Bool} {F : Fn} {ρ : List V} {h h' : H} {a : PE} {n : Nat} (e : evE q F ρ a h = .ok (.int n) h') (hn : n ≤ 1000000) : evIt q F ρ (.range1 a) h = .ok (upto n, Option.none) h' := by
  rw [i_range1, e, R.bind_ok, rng_nat _ _ hn]
theorem compL_M {α : Type} {elt cond : V → H → R V} (c e : α → V) (b : α → Bool) (h : H) (w : Watch) (hw : w.ok h = true) (l : List α)
    (hc : ∀ a ∈ l, cond (c a) h = .ok (.bool (b a)) h) (he : ∀ a ∈ l, b a = true → elt (c a) h = .ok (e a) h) :
    compL w elt cond (l.map c) h = .ok ((l.filter b).map e) h := by
  induction l with
  | nil => simp [compL, hw]
  | cons a l ih =>
    have ih := ih (fun v hv => hc v (List.mem_cons_of_mem _ hv)) (fun v hv => he v (List.mem_cons_of_mem _ hv))
    rw [List.map_cons, compL, if_pos hw, hc a (List.mem_cons_self ..), R.bind_ok, truthy_bool]
    cases hb : b a with
    | true => dsimp only; rw [he a (List.mem_cons_self ..) hb, R.bind_ok, ih, R.bind_ok, List.filter_cons_of_pos hb, List.map_cons]
    | false => dsimp only; rw [ih, List.filter_cons_of_neg (by rw [hb]; exact Bool.false_ne_true)]
theorem ev_compF {α : Type} {F : Fn} {ρ : List V} {h h' : H} {elt cond : PE} {x : Nat} {it : PIt} {l : List α} {c : α → V} {t : Watch} {r : V} (hi : evIt true F ρ it h = .ok (l.map c, t) h') (ht : t.ok h' = true) (e : α → V) (b : α → Bool)
    (hc : ∀ a ∈ l, evE true F (ρ.set x (c a)) cond h' = .ok (.bool (b a)) h') (he : ∀ a ∈ l, b a = true → evE true F (ρ.set x (c a)) elt h' = .ok (e a) h') (hr : mkL ((l.filter b).map e) = some r) :
    evE true F ρ (.comp elt x it (some cond)) h = .ok r h' := by
  rw [e_comp, if_neg (by decide), hi, R.bind_ok, compL_M c e b h' t ht l hc he, lstR_ok, hr]; rfl
theorem ev_comp {α : Type} {F : Fn} {ρ : List V} {h h' : H} {elt : PE} {x : Nat} {it : PIt} {l : List α} {c : α → V} {t : Watch} {r : V} (hi : evIt true F ρ it h = .ok (l.map c, t) h') (ht : t.ok h' = true) (e : α → V)
    (he : ∀ a ∈ l, evE true F (ρ.set x (c a)) elt h' = .ok (e a) h') (hr : mkL (l.map e) = some r) :
    evE true F ρ (.comp elt x it Option.none) h = .ok r h' := by
  rw [e_comp, if_neg (by decide), hi, R.bind_ok, compL_M c e (fun z_ => true) h' t ht l (fun z_ z_ => rfl) (fun a ha z_ => he a ha), lstR_ok, List.filter_eq_self.2 (fun z_ z_ => rfl), hr]; rfl
theorem it_rng {q : Bool} {F : Fn} {ρ : List V} {h h' : H} {a : PE} {n : Nat} (e : evE q F ρ a h = .ok (.int n) h') (hn : n ≤ 1000000) : evIt q F ρ (.range1 a) h = .ok ((List.range n).map fun i : Nat => V.int i, Option.none) h' := it_nat e hn
theorem o_each {α : Type} {F : Fn} {x : Nat} {it : PIt} {body ss : List PS} {ρ : List V} {h h' : H} {l : List α} {c : α → V} {t : Watch} {r : R V} {w₀ : V} (b : α → Bool)
    (hi : evIt true F ρ it h = .ok (l.map c, t) h') (ht : t.ok h' = true) (hx : ρ.set x w₀ = ρ)
    (hb : ∀ a ∈ l, b a = true → exSs true F body (ρ.set x (c a)) h' = .ok .next (ρ.set x (c a)) h')
    (hk : (∀ a ∈ l, b a = true) → ∀ w, (exSs true F ss (ρ.set x w) h').out = r)
    (hl : ∀ p a q, l = p ++ a :: q → (∀ d ∈ p, b d = true) → b a = false → ∀ k, ((exSs true F body (ρ.set x (c a)) h').then k).out = r) :
    (exSs true F (.for1 x it body :: ss) ρ h).out = r := by
  rw [ss_cons', s_for1', if_neg (by decide), hi, R.st_ok]
  have key : ∀ (q p : List α) (w : V), l = p ++ q → (∀ d ∈ p, b d = true) → ((forL t (bind1 x) (fun ρ h => exSs true F body ρ h) (q.map c) (ρ.set x w) h').then fun ρ h => exSs true F ss ρ h).out = r := by
    intro q
    induction q with
    | nil =>
      intro p w e hp
      rw [List.append_nil] at e; subst e
      rw [List.map_nil, forL, if_pos ht]; exact hk hp w
    | cons a q ih =>
      intro p w e hp
      rw [List.map_cons, forL, if_pos ht]
      show (((exSs true F body ((ρ.set x w).set x (c a)) h').then _).then _).out = r
      rw [List.set_set]
      cases hba : b a with
      | true =>
        rw [hb a (by rw [e]; simp) hba, RS.then_next]
        exact ih (p ++ [a]) (c a) (by rw [e, List.append_assoc]; rfl) (fun d hd => by
          rcases List.mem_append.1 hd with h | h
          · exact hp d h
          · rw [List.mem_singleton] at h; rw [h]; exact hba)
      | false =>
        have := hl p a q e hp hba
        cases hq : exSs true F body (ρ.set x (c a)) h' with
        | bad => rw [hq] at this; exact this fun z_ z_ => .bad
        | err d ρ' h => rw [hq] at this; exact this fun z_ z_ => .bad
        | ok fl ρ' h => rw [hq] at this; cases fl with
          | next => exact this fun ρ h => (forL t (bind1 x) (fun ρ h => exSs true F body ρ h) (List.map c q) ρ h).then fun ρ h => exSs true F ss ρ h
          | ret v => exact this fun z_ z_ => .bad
  have := key l [] w₀ rfl (fun z_ h => nomatch h)
  rw [hx] at this; exact this
section
variable {q : Bool} {F : Fn} {ρ : List V} {h : H} {a b : PE} {x y : Int}
theorem b_add (ea : evE q F ρ a h = .ok (.int x) h) (eb : evE q F ρ b h = .ok (.int y) h) : evE q F ρ (.bin .add a b) h = .ok (.int (x + y)) h := by rw [qE_7, ea, R.bind_ok, eb]; rfl
theorem b_sub (ea : evE q F ρ a h = .ok (.int x) h) (eb : evE q F ρ b h = .ok (.int y) h) : evE q F ρ (.bin .sub a b) h = .ok (.int (x - y)) h := by rw [qE_7, ea, R.bind_ok, eb]; rfl
theorem b_mul (ea : evE q F ρ a h = .ok (.int x) h) (eb : evE q F ρ b h = .ok (.int y) h) (hy : y.natAbs < 9223372036854775808) : evE q F ρ (.bin .mul a b) h = .ok (.int (x * y)) h := by rw [qE_7, ea, R.bind_ok, eb, R.bind_ok, bin_mul_int h _ _ hy]; rfl
theorem b_fdiv (ea : evE q F ρ a h = .ok (.int x) h) (eb : evE q F ρ b h = .ok (.int y) h) (hy : y ≠ 0) : evE q F ρ (.bin .fdiv a b) h = .ok (.int (x.fdiv y)) h := by rw [qE_7, ea, R.bind_ok, eb, R.bind_ok, bin_fdiv_int h _ _ hy]; rfl
theorem b_mod (ea : evE q F ρ a h = .ok (.int x) h) (eb : evE q F ρ b h = .ok (.int y) h) (hy : y ≠ 0) : evE q F ρ (.bin .mod a b) h = .ok (.int (x.fmod y)) h := by rw [qE_7, ea, R.bind_ok, eb, R.bind_ok, bin_mod_int h _ _ hy]; rfl
theorem v_at {i : Nat} {v : V} (e : ρ[i]? = some v) (hv : v.val) : evE q F ρ (.var i) h = .ok v h := by
  rw [qE_5, e]
  cases v <;> first | rfl | exact hv.elim
theorem c_eqI (ea : evE q F ρ a h = .ok (.int x) h) (eb : evE q F ρ b h = .ok (.int y) h) : evE q F ρ (.cmp .eq a b) h = .ok (.bool (decide (x = y))) h := by
  rw [qE_13, ea, R.bind_ok, eb, R.bind_ok]
  show R.opt (Option.map V.bool (pyEq h (.int x) (.int y))) h = _
  rw [pyEq_plain h rfl rfl rfl rfl, peq_int]; rfl
theorem b_bf {f : Bf} (hr : ((!true && f.walks) || !f.ready) = false) : evE true F ρ (.bf f a) h = (evE true F ρ a h).bind fun x h => R.opt (Mine.bf f h x) h := by rw [qE_24, hr]; exact if_neg Bool.false_ne_true
theorem call_2 (ea : evE q F ρ a h = .ok v h) (eb : evE q F ρ b h = .ok w h) (hc : pcall h (F q f [v, w] h) = .ok r h) : evE q F ρ (.call false f [a, b]) h = .ok r h := by
  rw [qE_27, qEs_2, ea, R.bind_ok, qEs_2, eb, R.bind_ok, qEs_1, R.bind_ok, R.bind_ok, R.bind_ok]; exact hc
theorem call_3 {f : String} {c : PE} {v w x r : V} (ea : evE true F ρ a h = .ok v h) (eb : evE true F ρ b h = .ok w h) (ec : evE true F ρ c h = .ok x h) (hc : pcall h (F true f [v, w, x] h) = .ok r h) : evE true F ρ (.call false f [a, b, c]) h = .ok r h := by
  rw [qE_27, qEs_2, ea, R.bind_ok, qEs_2, eb, R.bind_ok, qEs_2, ec, R.bind_ok, qEs_1, R.bind_ok, R.bind_ok, R.bind_ok, R.bind_ok]; exact hc
end
/- is_among: 0 thing, 1 low, 2 high -/
noncomputable def D_is_among : FnDef := ⟨3, 3, [
  .ret (.and [.isinst (.var 0) [.int], .not (.isinst (.var 0) [.bool]), .cmp2 .le .le (.var 1) (.var 0) (.var 2)])]⟩
def U_is_among (P : Tab) : Prop := P "is_among" = some D_is_among
theorem U_is_among.self (u : U_is_among P) : P "is_among" = some D_is_among := u
/- how_many: 0 signs, 1 size, 2 found, 3 turn -/
noncomputable def D_how_many : FnDef := ⟨2, 4, [
  .asg 2 (.int 1),
  .for1 3 (.range1 (.var 1)) [
    .asg 2 (.bin .mul (.var 2) (.var 0))],
  .ret (.var 2)]⟩
def U_how_many (P : Tab) : Prop := P "how_many" = some D_how_many
theorem U_how_many.self (u : U_how_many P) : P "how_many" = some D_how_many := u
/- need_signs: 0 signs -/
noncomputable def D_need_signs : FnDef := ⟨1, 1, [
  .ifs (.not (.call false "is_among" [.var 0, .int 1, .glob "MOST_SIGNS" 9])) [
    .raise "BadSize"] []]⟩
def U_need_signs (P : Tab) : Prop := P "need_signs" = some D_need_signs ∧ U_is_among P
theorem U_need_signs.self (u : U_need_signs P) : P "need_signs" = some D_need_signs := And.left u
theorem U_need_signs.is_among (u : U_need_signs P) : U_is_among P := And.right u
/- need_size: 0 size -/
noncomputable def D_need_size : FnDef := ⟨1, 1, [
  .ifs (.not (.call false "is_among" [.var 0, .int 1, .glob "MOST_SIZE" 8])) [
    .raise "BadSize"] []]⟩
def U_need_size (P : Tab) : Prop := P "need_size" = some D_need_size ∧ U_is_among P
theorem U_need_size.self (u : U_need_size P) : P "need_size" = some D_need_size := And.left u
theorem U_need_size.is_among (u : U_need_size P) : U_is_among P := And.right u
/- need_both: 0 signs, 1 size -/
noncomputable def D_need_both : FnDef := ⟨2, 2, [
  .expr (.call false "need_signs" [.var 0]),
  .expr (.call false "need_size" [.var 1]),
  .ifs (.cmp .gt (.call false "how_many" [.var 0, .var 1]) (.glob "MOST_WORDS" 256)) [
    .raise "BadSize"] []]⟩
def U_need_both (P : Tab) : Prop := P "need_both" = some D_need_both ∧ U_need_signs P ∧ U_need_size P ∧ U_how_many P
theorem U_need_both.self (u : U_need_both P) : P "need_both" = some D_need_both := And.left u
theorem U_need_both.need_signs (u : U_need_both P) : U_need_signs P := And.left (And.right u)
theorem U_need_both.need_size (u : U_need_both P) : U_need_size P := And.left (And.right (And.right u))
theorem U_need_both.how_many (u : U_need_both P) : U_how_many P := And.right (And.right (And.right u))
/- is_word: 0 signs, 1 word, 2 sign -/
noncomputable def D_is_word : FnDef := ⟨2, 3, [
  .ifs (.or [.not (.isinst (.var 1) [.list]), .not (.cmp2 .le .le (.int 1) (.bf .len (.var 1)) (.glob "MOST_SIZE" 8))]) [
    .ret (.bool false)] [],
  .ret (.bf .all (.comp (.call false "is_among" [.var 2, .int 0, .bin .sub (.var 0) (.int 1)]) 2 (.seq (.var 1)) .none))]⟩
def U_is_word (P : Tab) : Prop := P "is_word" = some D_is_word ∧ U_is_among P
theorem U_is_word.self (u : U_is_word P) : P "is_word" = some D_is_word := And.left u
theorem U_is_word.is_among (u : U_is_word P) : U_is_among P := And.right u
/- need_word: 0 signs, 1 word -/
noncomputable def D_need_word : FnDef := ⟨2, 2, [
  .ifs (.not (.call false "is_word" [.var 0, .var 1])) [
    .raise "BadWord"] []]⟩
def U_need_word (P : Tab) : Prop := P "need_word" = some D_need_word ∧ U_is_word P
theorem U_need_word.self (u : U_need_word P) : P "need_word" = some D_need_word := And.left u
theorem U_need_word.is_word (u : U_need_word P) : U_is_word P := And.right u
/- need_sized: 0 signs, 1 size, 2 word -/
noncomputable def D_need_sized : FnDef := ⟨3, 3, [
  .expr (.call false "need_word" [.var 0, .var 2]),
  .ifs (.cmp .ne (.bf .len (.var 2)) (.var 1)) [
    .raise "BadWord"] []]⟩
def U_need_sized (P : Tab) : Prop := P "need_sized" = some D_need_sized ∧ U_need_word P
theorem U_need_sized.self (u : U_need_sized P) : P "need_sized" = some D_need_sized := And.left u
theorem U_need_sized.need_word (u : U_need_sized P) : U_need_word P := And.right u
/- numbered: 0 signs, 1 size, 2 number, 3 found, 4 left, 5 turn -/
noncomputable def D_numbered : FnDef := ⟨3, 6, [
  .asg 3 (.own (.list [])),
  .asg 4 (.var 2),
  .for1 5 (.range1 (.var 1)) [
    .expr (.append (.var 3) (.bin .mod (.var 4) (.var 0))),
    .asg 4 (.bin .fdiv (.var 4) (.var 0))],
  .ret (.bf .listRev (.var 3))]⟩
def U_numbered (P : Tab) : Prop := P "numbered" = some D_numbered
theorem U_numbered.self (u : U_numbered P) : P "numbered" = some D_numbered := u
/- all_words: 0 signs, 1 size, 2 number -/
noncomputable def D_all_words : FnDef := ⟨2, 3, [
  .expr (.call false "need_both" [.var 0, .var 1]),
  .ret (.comp (.call false "numbered" [.var 0, .var 1, .var 2]) 2 (.range1 (.call false "how_many" [.var 0, .var 1])) .none)]⟩
def U_all_words (P : Tab) : Prop := P "all_words" = some D_all_words ∧ U_need_both P ∧ U_how_many P ∧ U_numbered P
theorem U_all_words.self (u : U_all_words P) : P "all_words" = some D_all_words := And.left u
theorem U_all_words.need_both (u : U_all_words P) : U_need_both P := And.left (And.right u)
theorem U_all_words.how_many (u : U_all_words P) : U_how_many P := And.left (And.right (And.right u))
theorem U_all_words.numbered (u : U_all_words P) : U_numbered P := And.right (And.right (And.right u))
/- number_of: 0 signs, 1 size, 2 word, 3 found, 4 sign -/
noncomputable def D_number_of : FnDef := ⟨3, 5, [
  .expr (.call false "need_both" [.var 0, .var 1]),
  .expr (.call false "need_sized" [.var 0, .var 1, .var 2]),
  .asg 3 (.int 0),
  .for1 4 (.seq (.var 2)) [
    .asg 3 (.bin .add (.bin .mul (.var 3) (.var 0)) (.var 4))],
  .ret (.var 3)]⟩
def U_number_of (P : Tab) : Prop := P "number_of" = some D_number_of ∧ U_need_both P ∧ U_need_sized P
theorem U_number_of.self (u : U_number_of P) : P "number_of" = some D_number_of := And.left u
theorem U_number_of.need_both (u : U_number_of P) : U_need_both P := And.left (And.right u)
theorem U_number_of.need_sized (u : U_number_of P) : U_need_sized P := And.right (And.right u)
/- word_of: 0 signs, 1 size, 2 number -/
noncomputable def D_word_of : FnDef := ⟨3, 3, [
  .expr (.call false "need_both" [.var 0, .var 1]),
  .ifs (.not (.call false "is_among" [.var 2, .int 0, .bin .sub (.call false "how_many" [.var 0, .var 1]) (.int 1)])) [
    .raise "BadWord"] [],
  .ret (.call false "numbered" [.var 0, .var 1, .var 2])]⟩
def U_word_of (P : Tab) : Prop := P "word_of" = some D_word_of ∧ U_need_both P ∧ U_is_among P ∧ U_how_many P ∧ U_numbered P
theorem U_word_of.self (u : U_word_of P) : P "word_of" = some D_word_of := And.left u
theorem U_word_of.need_both (u : U_word_of P) : U_need_both P := And.left (And.right u)
theorem U_word_of.is_among (u : U_word_of P) : U_is_among P := And.left (And.right (And.right u))
theorem U_word_of.how_many (u : U_word_of P) : U_how_many P := And.left (And.right (And.right (And.right u)))
theorem U_word_of.numbered (u : U_word_of P) : U_numbered P := And.right (And.right (And.right (And.right u)))
/- stands_in: 0 piece, 1 word, 2 place -/
noncomputable def D_stands_in : FnDef := ⟨2, 3, [
  .for1 2 (.range1 (.bin .add (.bin .sub (.bf .len (.var 1)) (.bf .len (.var 0))) (.int 1))) [
    .ifs (.cmp .eq (.slice (.var 1) (some (.var 2)) (some (.bin .add (.var 2) (.bf .len (.var 0))))) (.var 0)) [
      .ret (.bool true)] []],
  .ret (.bool false)]⟩
def U_stands_in (P : Tab) : Prop := P "stands_in" = some D_stands_in
theorem U_stands_in.self (u : U_stands_in P) : P "stands_in" = some D_stands_in := u
/- free_of: 0 signs, 1 size, 2 pieces, 3 piece, 4 found, 5 word, 6 piece -/
noncomputable def D_free_of : FnDef := ⟨3, 7, [
  .expr (.call false "need_both" [.var 0, .var 1]),
  .ifs (.not (.isinst (.var 2) [.list])) [
    .raise "BadWord"] [],
  .for1 3 (.seq (.var 2)) [
    .expr (.call false "need_word" [.var 0, .var 3])],
  .asg 4 (.own (.list [])),
  .for1 5 (.seq (.call false "all_words" [.var 0, .var 1])) [
    .ifs (.not (.bf .any (.comp (.call false "stands_in" [.var 6, .var 5]) 6 (.seq (.var 2)) .none))) [
      .expr (.append (.var 4) (.var 5))] []],
  .ret (.var 4)]⟩
def U_free_of (P : Tab) : Prop := P "free_of" = some D_free_of ∧ U_need_both P ∧ U_need_word P ∧ U_all_words P ∧ U_stands_in P
theorem U_free_of.self (u : U_free_of P) : P "free_of" = some D_free_of := And.left u
theorem U_free_of.need_both (u : U_free_of P) : U_need_both P := And.left (And.right u)
theorem U_free_of.need_word (u : U_free_of P) : U_need_word P := And.left (And.right (And.right u))
theorem U_free_of.all_words (u : U_free_of P) : U_all_words P := And.left (And.right (And.right (And.right u)))
theorem U_free_of.stands_in (u : U_free_of P) : U_stands_in P := And.right (And.right (And.right (And.right u)))
noncomputable def among (v : V) (lo hi : Int) : Bool :=
  match v with
  | .int a => decide (lo ≤ a) && decide (a ≤ hi)
  | _ => false
theorem is_among_eq {P : Tab} (u : U_is_among P) (n : Nat) (q : Bool) (v : V) (lo hi : Int) (h : H) (hv : okV h v) :
    run P (n + 1) q "is_among" [v, .int lo, .int hi] h = .ok (.bool (among v lo hi)) h := by
  refine start u.self rfl (ρ := [v, .int lo, .int hi]) rfl (o_ret ?_)
  rcases kind_of v with ⟨a, rfl⟩ | ⟨b, rfl⟩ | ⟨h1, h2⟩
  · show (match pyCmp .le h (.int lo) (.int a) with | some true => R.opt ((pyCmp .le h (.int a) (.int hi)).map V.bool) h | some false => R.ok (V.bool false) h | Option.none => R.bad) = _
    rw [cmp_le_int, cmp_le_int]
    show _ = R.ok (V.bool (decide (lo ≤ a) && decide (a ≤ hi))) h
    cases decide (lo ≤ a) <;> rfl
  · rfl
  · have e : among v lo hi = false := by
      cases v <;> first | rfl | exact absurd rfl (h1 _)
    rw [qE_10, qA_3, qE_21, v_at rfl hv.val, R.bind_ok, show isTys h v [.int] = some false by unfold isTys; rw [isTy_int_no hv h1 h2]; rfl, e]; rfl
theorem need_signs_eq (u : U_need_signs P) (n : Nat) (v : V) (h : H) (hv : okV h v) :
    run P (n + 2) true "need_signs" [v] h = if among v 1 9 then .ok .none h else .err "BadSize" h := by
  refine start u.self rfl (ρ := [v]) rfl ?_
  have ec : evE true (run P (n + 1)) [v] (.call false "is_among" [.var 0, .int 1, .glob "MOST_SIGNS" 9]) h = .ok (.bool (among v 1 9)) h := call_3 (v_at (v := v) rfl hv.val) rfl rfl (by rw [is_among_eq u.is_among n true v _ _ h hv, pcall_bool])
  show (exSs true (run P (n + 1)) [.ifs (.not (.call false "is_among" [.var 0, .int 1, .glob "MOST_SIGNS" 9])) [.raise "BadSize"] []] [v] h).out = _
  rw [ss_cons', qS_7, qE_9, ec]
  cases among v 1 9 <;> rfl
noncomputable def wordy (s : Int) (vs : List V) : Bool := decide (1 ≤ vs.length) && decide (vs.length ≤ 8) && vs.all fun v => among v 0 (s - 1)
noncomputable def wordB (h : H) (s : Int) (w : V) : Bool :=
  match litems h w with
  | some vs => wordy s vs
  | none => false
noncomputable def lenB (h : H) (w : V) (N : Nat) : Bool :=
  match litems h w with
  | some vs => decide (1 ≤ vs.length) && decide (vs.length ≤ N)
  | none => false
theorem lenB_some {h : H} {w : V} {vs : List V} (hl : litems h w = some vs) (N : Nat) : lenB h w N = (decide (1 ≤ vs.length) && decide (vs.length ≤ N)) := by unfold lenB; rw [hl]
theorem lenB_none {h : H} {w : V} (hl : litems h w = Option.none) (N : Nat) : lenB h w N = false := by unfold lenB; rw [hl]
theorem cond_len {F : Fn} {ρ : List V} {h : H} {g : String} {N : Nat} {w : V} (e1 : ρ[1]? = some w) (hw : okV h w) : evE true F ρ (.or [.not (.isinst (.var 1) [.list]), .not (.cmp2 .le .le (.int 1) (.bf .len (.var 1)) (.glob g N))]) h = .ok (.bool (!lenB h w N)) h := by
  have v1 := v_at (q := true) (F := F) (h := h) e1 hw.val
  rw [qE_11, qR_3, qE_9, qE_21, v1, R.bind_ok]
  cases hl : litems h w with
  | none => rw [show isTys h w [.list] = some false by unfold isTys; rw [notList_of hw hl]; rfl, lenB_none hl]; rfl
  | some vs =>
    have e : evE true F ρ (.cmp2 .le .le (.int 1) (.bf .len (.var 1)) (.glob g N)) h = .ok (.bool (lenB h w N)) h := by
      rw [qE_14, qE_3, R.bind_ok, b_bf (f := .len) rfl, v1, R.bind_ok, len_of hl, R.opt_some, R.bind_ok, cmp_le_int, lenB_some hl, show decide ((1 : Int) ≤ (vs.length : Int)) = decide (1 ≤ vs.length) from decide_eq_decide.2 Int.ofNat_le]
      cases decide (1 ≤ vs.length) with
      | false => rfl
      | true =>
        show R.opt (Option.map V.bool (pyCmp .le h (.int vs.length) (.int N))) h = _
        rw [cmp_le_int, decide_eq_decide.2 Int.ofNat_le]; rfl
    rw [show isTys h w [.list] = some true by unfold isTys; rw [isList_of hl]]
    show evE true F ρ (.not _) h = _
    rw [qE_9, e]; rfl
noncomputable def V.lists (ls : List (List Nat)) : List V := ls.map fun l => .lst (V.nats l)
theorem lists_plains (ls : List (List Nat)) : V.plains (V.lists ls) = true := by
  induction ls with
  | nil => rfl
  | cons a l ih => simp only [V.lists, List.map_cons, V.plains, V.plain, nats_plains, Bool.true_and]; exact ih
theorem lists_plain (ls : List (List Nat)) : V.plain (.lst (V.lists ls)) = true := lists_plains ls
/- _law_cell_at: 0 _law_script, 1 _law_k -/
noncomputable def L_cell_at : FnDef := ⟨2, 2, [
  .ifs (.cmp .lt (.var 1) (.bf .len (.var 0))) [
    .ret (.idx (.var 0) (.var 1))] [],
  .ret (.int 0)]⟩
def UL_cell_at (P : Tab) : Prop := P "_law_cell_at" = some L_cell_at
theorem UL_cell_at.self (u : UL_cell_at P) : P "_law_cell_at" = some L_cell_at := u
/- _law_classes: 0 _law_e, 1 _law_found -/
noncomputable def L_classes : FnDef := ⟨1, 2, [
  .asg 1 (.bin .add (.bin .add (.bin .mul (.list [.int 0]) (.bf .int (.isexc 0 (.own "BadSize")))) (.bin .mul (.list [.int 1]) (.bf .int (.isexc 0 (.own "BadWord"))))) (.bin .mul (.list [.int 2]) (.bf .int (.isexc 0 (.own "BadBook"))))),
  .asg 1 (.bin .add (.bin .add (.var 1) (.bin .mul (.list [.int 3]) (.bf .int (.isexc 0 (.own "BadRing"))))) (.bin .mul (.list [.int 4]) (.bf .int (.isexc 0 (.own "NoWord"))))),
  .asg 1 (.bin .add (.bin .add (.var 1) (.bin .mul (.list [.int 5]) (.bf .int (.isexc 0 (.own "NoRing"))))) (.bin .mul (.list [.int 6]) (.bf .int (.isexc 0 (.own "NoJoin"))))),
  .ret (.bf .tuple (.bin .mul (.var 1) (.bf .int (.isexc 0 .valueError))))]⟩
def UL_classes (P : Tab) : Prop := P "_law_classes" = some L_classes
theorem UL_classes.self (u : UL_classes P) : P "_law_classes" = some L_classes := u
/- _law_power: 0 _law_signs, 1 _law_size, 2 _law_found, 3 _law_step -/
noncomputable def L_power : FnDef := ⟨2, 4, [
  .asg 2 (.int 1),
  .for1 3 (.range1 (.var 1)) [
    .asg 2 (.bin .mul (.var 2) (.var 0))],
  .ret (.var 2)]⟩
def UL_power (P : Tab) : Prop := P "_law_power" = some L_power
theorem UL_power.self (u : UL_power P) : P "_law_power" = some L_power := u
/- _law_word: 0 _law_signs, 1 _law_size, 2 _law_number, 3 _law_found, 4 _law_step -/
noncomputable def L_word : FnDef := ⟨3, 5, [
  .asg 3 (.list []),
  .for1 4 (.range1 (.var 1)) [
    .asg 3 (.bin .add (.list [.bin .mod (.var 2) (.var 0)]) (.var 3)),
    .asg 2 (.bin .fdiv (.var 2) (.var 0))],
  .ret (.var 3)]⟩
def UL_word (P : Tab) : Prop := P "_law_word" = some L_word
theorem UL_word.self (u : UL_word P) : P "_law_word" = some L_word := u
theorem cell_at_eq {P : Tab} (u : UL_cell_at P) (n : Nat) (q : Bool) (l : List Int) (k : Nat) (h : H) :
    run P (n + 1) q "_law_cell_at" [V.ints l, .int k] h = .ok (.int (cellAt l k)) h := by
  refine start u.self rfl (ρ := [V.ints l, .int k]) rfl ?_
  have c : evE q (run P n) [V.ints l, .int k] (.cmp .lt (.var 1) (.bf .len (.var 0))) h = .ok (.bool (decide ((k : Int) < ((l.map V.int).length : Nat)))) h := by cases q <;> rfl
  rw [List.length_map] at c
  by_cases hk : k < l.length
  · refine o_ifT (c.trans (by rw [decide_eq_true (Int.ofNat_lt.2 hk)])) (o_ret ?_)
    show R.opt (pyIdx h (.lst (l.map V.int)) (.int k)) h = _
    rw [idx_of (h := h) (x := .int (cellAt l k)) rfl (j := k) (by rw [List.getElem?_map, List.getElem?_eq_getElem hk, cellAt, List.getD_eq_getElem?_getD, List.getElem?_eq_getElem hk]; rfl)]; rfl
  · refine o_ifF (c.trans (by rw [decide_eq_false fun e => hk (Int.ofNat_lt.1 e)])) (o_ret ?_)
    rw [cellAt, List.getD_eq_getElem?_getD, List.getElem?_eq_none (Nat.le_of_not_lt hk)]; rfl
noncomputable def codeOf (c : String) : Int :=
  if c = "BadSize" then 0 else if c = "BadWord" then 1 else if c = "BadBook" then 2 else if c = "BadRing" then 3 else if c = "NoWord" then 4 else if c = "NoRing" then 5 else 6
theorem classes_eq (u : UL_classes P) (n : Nat) (q : Bool) (c : String) (hc : c ∈ ["BadSize", "BadWord", "BadBook", "BadRing", "NoWord", "NoRing", "NoJoin"]) (h : H) :
    run P (n + 1) q "_law_classes" [.exc c] h = .ok (.tup [.int (codeOf c)]) h := by
  refine start u.self rfl (ρ := [.exc c, .undef]) rfl ?_
  simp only [List.mem_cons, List.not_mem_nil, or_false] at hc
  cases q <;> rcases hc with rfl | rfl | rfl | rfl | rfl | rfl | rfl <;> rfl
theorem IsL.len {h : H} {v : V} {l : List Nat} (e : IsL h v l) : Mine.bf .len h v = some (.int l.length) := by
  rw [len_of e, nats_length]
theorem litems_app {h : H} {v : V} {vs : List V} (e : litems h v = some vs) (k : H) : litems (h ++ k) v = some vs := by
  rcases litems_cases e with rfl | ⟨i, rfl, hc⟩
  · rfl
  · refine litems_ref ?_
    rw [List.getElem?_append_left (List.getElem?_eq_some_iff.1 hc).1]; exact hc
theorem IsL.app (e : IsL h v l) (k : H) : IsL (h ++ k) v l := litems_app e k
theorem wordB_L (e : IsL h v l) (h1 : 1 ≤ l.length) (h2 : l.length ≤ 8) (hd : ∀ d ∈ l, d < s) : wordB h s v = true := by
  unfold wordB
  rw [show litems h v = some (V.nats l) from e]
  simp only [wordy, nats_length, h1, h2, decide_true, Bool.true_and, List.all_eq_true]
  intro x hx
  obtain ⟨d, hm, rfl⟩ := nats_val hx
  have := hd d hm
  simp only [among, Bool.and_eq_true, decide_eq_true_eq]; omega
theorem frz_items {h : H} {v : V} {vs : List V} (e : litems h v = some vs) (hp : V.plains vs = true) : frz 0 h v = some (.lst vs) := by
  rcases litems_cases e with rfl | ⟨i, rfl, hc⟩
  · exact frz_plain 0 h _ hp
  · show frzAt 4 0 h i = _
    rw [frzAt, if_neg (Nat.not_lt_zero i), hc]
    show Option.map _ (V.mapRefs _ vs) = _
    rw [mapRefs_plain _ _ hp]; rfl
theorem peqs_lists (a b : List (List Nat)) : peqs (V.lists a) (V.lists b) = decide (a = b) := by
  induction a generalizing b with
  | nil => cases b <;> rfl
  | cons x a ih => cases b with
    | nil => rfl
    | cons y b =>
      show (peq (.lst (V.nats x)) (.lst (V.nats y)) && peqs (V.lists a) (V.lists b)) = _
      rw [peq_lst, peqs_nats, ih]
      by_cases e1 : x = y <;> by_cases e2 : a = b <;> simp [e1, e2]
theorem ok_lists (l : List (List Nat)) (n : Nat) : V.ok (n + 3) (.lst (V.lists l)) = true := by
  show (V.lists l).all (V.ok (n + 2)) = true
  rw [List.all_eq_true]; intro v hv
  simp only [V.lists, List.mem_map] at hv
  obtain ⟨x, _, rfl⟩ := hv; exact ok_lnats x n
theorem pyEq_LL {h : H} {a b : V} {x y : List (List Nat)} (ha : frz 0 h a = some (.lst (V.lists x))) (hb : frz 0 h b = some (.lst (V.lists y))) : pyEq h a b = some (decide (x = y)) := by
  rw [pyEq_frz ha hb (ok_lists x 5) (ok_lists y 5), peq_lst, peqs_lists]
noncomputable def clean (v : V) : Prop := v.plain = true ∧ v.val ∧ ∀ vs, v = .lst vs → ∀ x ∈ vs, x.val
theorem plain_okV (hp : v.plain = true) (hv : v.val) (h : H) : okV h v := by
  cases v <;> first | trivial | exact hv.elim | cases hp
theorem plains_mem (hp : V.plains vs = true) (hv : v ∈ vs) : v.plain = true := by
  induction vs with
  | nil => cases hv
  | cons a l ih =>
    simp only [V.plains, Bool.and_eq_true] at hp
    rcases List.mem_cons.1 hv with rfl | hm
    · exact hp.1
    · exact ih hp.2 hm
theorem clean.okV (hc : clean v) (h : H) : okV h v := plain_okV hc.1 hc.2.1 h
theorem clean.items (hc : clean v) (h : H) : ∀ vs, litems h v = some vs → ∀ x ∈ vs, Mine.okV h x := by
  intro vs hl x hx
  rcases litems_cases hl with rfl | ⟨i, rfl, _⟩
  · exact plain_okV (plains_mem hc.1 hx) (hc.2.2 _ rfl x hx) h
  · cases hc.1
theorem clean_nats (l : List Nat) : clean (.lst (V.nats l)) := ⟨nats_plain l, trivial, fun vs e x hx => by cases e; obtain ⟨d, _, rfl⟩ := nats_val hx; trivial⟩
theorem plains_of (h : ∀ v ∈ vs, v.plain = true) : V.plains vs = true := by
  induction vs with
  | nil => rfl
  | cons a l ih => rw [V.plains, h a (List.mem_cons_self ..), ih fun v hv => h v (List.mem_cons_of_mem _ hv)]; rfl
theorem plain_litems (hp : v.plain = true) (hn : ∀ us, v ≠ .lst us) (h : H) : litems h v = Option.none := by
  cases v <;> first | rfl | exact absurd rfl (hn _) | cases hp
theorem Watch.app {t : Watch} {h : H} (e : t.ok h = true) (k : H) : t.ok (h ++ k) = true := by
  cases t with
  | none => rfl
  | some p =>
    have : h[p.1]? = some p.2 := of_decide_eq_true e
    show decide ((h ++ k)[p.1]? = some p.2) = true
    rw [List.getElem?_append_left (List.getElem?_eq_some_iff.1 this).1, this]; exact decide_eq_true rfl
theorem all_nil {α : Type} {P : α → Prop} : ∀ x ∈ ([] : List α), P x := fun z_ h => nomatch h
theorem all_cons {α : Type} {P : α → Prop} {a : α} {l : List α} (h : P a) (t : ∀ x ∈ l, P x) : ∀ x ∈ a :: l, P x := fun x hx => (List.mem_cons.1 hx).elim (fun e => e ▸ h) (t x)
theorem idx_lit {h : H} {vs : List V} {i : Int} {m : Nat} (hm : 0 < m) (hl : vs.length = m) : ∃ j : Nat, j < m ∧ i.fmod m = j ∧ ∃ x, vs[j]? = some x ∧ pyIdx h (.lst vs) (.int (i.fmod m)) = some x := by
  obtain ⟨j, hj, e⟩ := fmod_small i m hm
  have hx : vs[j]? = some vs[j] := List.getElem?_eq_getElem (by omega)
  exact ⟨j, hj, e, _, hx, by rw [e]; exact idx_of rfl hx⟩
noncomputable def cells (ps : List (List Nat)) : H := ps.map fun p => .list (V.nats p)
noncomputable def refs (b m : Nat) : List V := (List.range m).map fun i => .ref (b + i)
theorem mapRefs_refs (f : Nat → Option V) (b : Nat) (ps : List (List Nat)) (hf : ∀ i (hi : i < ps.length), f (b + i) = some (.lst (V.nats ps[i]))) : V.mapRefs f (refs b ps.length) = some (V.lists ps) := by
  have key : ∀ (q : List (List Nat)) (b : Nat), (∀ i (hi : i < q.length), f (b + i) = some (.lst (V.nats q[i]))) → V.mapRefs f (refs b q.length) = some (V.lists q) := by
    intro q
    induction q with
    | nil => intro _ _; rfl
    | cons p q ih =>
      intro b hb
      have e : refs b (p :: q).length = .ref b :: refs (b + 1) q.length := by
        rw [refs, refs, List.length_cons, List.range_succ_eq_map, List.map_cons, List.map_map]
        congr 1
        refine List.map_congr_left fun i z_ => ?_
        simp only [Function.comp, V.ref.injEq]; omega
      rw [e, V.mapRefs, V.mapRef, show f b = some (.lst (V.nats p)) from hb 0 (by simp), Option.bind_some, ih (b + 1) (fun i hi => by
        have := hb (i + 1) (by simpa using hi)
        rw [show b + (i + 1) = b + 1 + i by omega] at this
        simpa using this)]
      rfl
  exact key ps b hf
namespace L06
/- need_ring: 0 signs, 1 ring, 2 sign -/
noncomputable def D_need_ring : FnDef := ⟨2, 3, [
  .ifs (.or [.not (.isinst (.var 1) [.list]), .not (.cmp2 .le .le (.int 1) (.bf .len (.var 1)) (.glob "MOST_WORDS" 256))]) [
    .raise "BadRing"] [],
  .for1 2 (.seq (.var 1)) [
    .ifs (.not (.call false "is_among" [.var 2, .int 0, .bin .sub (.var 0) (.int 1)])) [
      .raise "BadRing"] []]]⟩
def U_need_ring (P : Tab) : Prop := P "need_ring" = some D_need_ring ∧ U_is_among P
theorem U_need_ring.self (u : U_need_ring P) : P "need_ring" = some D_need_ring := And.left u
theorem U_need_ring.is_among (u : U_need_ring P) : U_is_among P := And.right u
/- lifted_from: 0 signs, 1 ring, 2 start, 3 found, 4 sign, 5 step -/
noncomputable def D_lifted_from : FnDef := ⟨3, 6, [
  .asg 3 (.own (.list [])),
  .asg 4 (.var 2),
  .while (.or [.cmp .eq (.bf .len (.var 3)) (.int 0), .cmp .ne (.var 4) (.var 2)]) [
    .for1 5 (.seq (.var 1)) [
      .expr (.append (.var 3) (.var 4)),
      .asg 4 (.bin .mod (.bin .add (.var 4) (.var 5)) (.var 0))]],
  .ret (.var 3)]⟩
def U_lifted_from (P : Tab) : Prop := P "lifted_from" = some D_lifted_from
theorem U_lifted_from.self (u : U_lifted_from P) : P "lifted_from" = some D_lifted_from := u
/- lifted: 0 signs, 1 ring, 2 found, 3 met, 4 start, 5 place -/
noncomputable def D_lifted : FnDef := ⟨2, 6, [
  .expr (.call false "need_signs" [.var 0]),
  .expr (.call false "need_ring" [.var 0, .var 1]),
  .ifs (.cmp .gt (.bin .mul (.bf .len (.var 1)) (.var 0)) (.glob "MOST_WORDS" 256)) [
    .raise "BadRing"] [],
  .asg 2 (.own (.list [])),
  .asg 3 (.newDict []),
  .for1 4 (.range1 (.var 0)) [
    .ifs (.cmp .notIn (.var 4) (.var 3)) [
      .expr (.append (.var 2) (.call true "lifted_from" [.var 0, .var 1, .var 4])),
      .for1 5 (.range3 (.int 0) (.bf .len (.idx (.var 2) (.neg 1))) (.bf .len (.var 1))) [
        .setIdx (.var 3) (.idx (.idx (.var 2) (.neg 1)) (.var 5)) (.bool true)]] []],
  .ret (.var 2)]⟩
def U_lifted (P : Tab) : Prop := P "lifted" = some D_lifted ∧ U_need_signs P ∧ U_need_ring P ∧ U_lifted_from P
theorem U_lifted.self (u : U_lifted P) : P "lifted" = some D_lifted := And.left u
theorem U_lifted.need_signs (u : U_lifted P) : U_need_signs P := And.left (And.right u)
theorem U_lifted.need_ring (u : U_lifted P) : U_need_ring P := And.left (And.right (And.right u))
theorem U_lifted.lifted_from (u : U_lifted P) : U_lifted_from P := And.right (And.right (And.right u))
/- _law_from: 0 _law_ring, 1 _law_place, 2 _law_size, 3 _law_found -/
noncomputable def L_from : FnDef := ⟨3, 4, [
  .asg 3 (.own (.list [])),
  .while (.cmp .lt (.bf .len (.var 3)) (.var 2)) [
    .expr (.append (.var 3) (.idx (.var 0) (.var 1))),
    .asg 1 (.bin .add (.var 1) (.int 1)),
    .ifs (.cmp .eq (.var 1) (.bf .len (.var 0))) [
      .asg 1 (.int 0)] []],
  .ret (.var 3)]⟩
def UL_from (P : Tab) : Prop := P "_law_from" = some L_from
theorem UL_from.self (u : UL_from P) : P "_law_from" = some L_from := u
/- _law_due: 0 _law_signs, 1 _law_ring, 2 _law_found, 3 _law_met, 4 _law_start, 5 _law_row, 6 _law_sign, 7 _law_step -/
noncomputable def L_due : FnDef := ⟨2, 8, [
  .asg 2 (.own (.list [])),
  .asg 3 (.own (.list [])),
  .for1 4 (.range1 (.var 0)) [
    .ifs (.cmp .notIn (.var 4) (.var 3)) [
      .asg 5 (.own (.list [])),
      .asg 6 (.var 4),
      .while (.cmp .notIn (.var 6) (.var 3)) [
        .expr (.append (.var 3) (.var 6)),
        .for1 7 (.seq (.var 1)) [
          .expr (.append (.var 5) (.var 6)),
          .asg 6 (.bin .add (.var 6) (.var 7)),
          .ifs (.cmp .ge (.var 6) (.var 0)) [
            .asg 6 (.bin .sub (.var 6) (.var 0))] []]],
      .expr (.append (.var 2) (.var 5))] []],
  .ret (.var 2)]⟩
def UL_due (P : Tab) : Prop := P "_law_due" = some L_due
theorem UL_due.self (u : UL_due P) : P "_law_due" = some L_due := u
/- _law_asked: 0 _law_signs, 1 _law_ring, 2 _law_e -/
noncomputable def L_asked : FnDef := ⟨2, 3, [
  .try [
    .ret (.call true "lifted" [.var 0, .var 1])] "RingError" 2 [
    .ret (.callX "_law_classes" 2)]]⟩
def UL_asked (P : Tab) : Prop := P "_law_asked" = some L_asked ∧ U_lifted P ∧ UL_classes P
theorem UL_asked.self (u : UL_asked P) : P "_law_asked" = some L_asked := And.left u
theorem UL_asked.lifted (u : UL_asked P) : U_lifted P := And.left (And.right u)
theorem UL_asked.l_classes (u : UL_asked P) : UL_classes P := And.right (And.right u)
/- _law_steps: 0 _law_word, 1 _law_signs, 2 _law_k -/
noncomputable def L_steps : FnDef := ⟨2, 3, [
  .ret (.comp (.bin .mod (.bin .add (.bin .sub (.idx (.var 0) (.bin .add (.var 2) (.int 1))) (.idx (.var 0) (.var 2))) (.var 1)) (.var 1)) 2 (.range1 (.bin .sub (.bf .len (.var 0)) (.int 1))) .none)]⟩
def UL_steps (P : Tab) : Prop := P "_law_steps" = some L_steps
theorem UL_steps.self (u : UL_steps P) : P "_law_steps" = some L_steps := u
/- _law_right: 0 _law_found, 1 _law_due_here, 2 _law_row, 3 _law_sign -/
noncomputable def L_right : FnDef := ⟨2, 4, [
  .ifs (.or [.not (.isinst (.var 0) [.list]), .cmp .ne (.var 0) (.var 1)]) [
    .ret (.bool false)] [],
  .for1 2 (.seq (.var 0)) [
    .ifs (.or [.not (.isinst (.var 2) [.list]), .cmp .ne (.comp (.var 3) 3 (.seq (.var 2)) (some (.isinst (.var 3) [.bool]))) (.list [])]) [
      .ret (.bool false)] []],
  .ret (.bool true)]⟩
def UL_right (P : Tab) : Prop := P "_law_right" = some L_right
theorem UL_right.self (u : UL_right P) : P "_law_right" = some L_right := u
/- law: 0 _law_script, 1 _law_cell, 2 _law_signs, 3 _law_many, 4 _law_ring, 5 _law_k, 6 _law_more, 7 _law_odd, 8 _law_at, 9 _law_spoilt, 10 _law_bad, 11 _law_due_here, 12 _law_handed, 13 _law_told, 14 _law_size, 15 _law_steps_here, 16 _law_row, 17 _law_words, 18 _law_place -/
noncomputable def L_law : FnDef := ⟨1, 19, [
  .asg 1 (.call false "_law_cell_at" [.var 0, .int 0]),
  .asg 2 (.bin .add (.int 1) (.bin .mod (.var 1) (.int 9))),
  .asg 3 (.bin .add (.int 1) (.bin .mod (.bin .fdiv (.var 1) (.int 9)) (.int 8))),
  .ifs (.cmp .eq (.bin .mod (.bin .fdiv (.var 1) (.int 72)) (.int 9)) (.int 1)) [
    .asg 3 (.bin .add (.int 1) (.bin .mod (.bin .fdiv (.var 1) (.int 648)) (.int 60)))] [],
  .asg 4 (.own (.list [])),
  .for1 5 (.range1 (.var 3)) [
    .asg 6 (.bin .mod (.bin .mul (.bin .add (.call false "_law_cell_at" [.var 0, .bin .add (.int 4) (.bin .mod (.var 5) (.int 12))]) (.bin .mul (.int 7919) (.bin .fdiv (.var 5) (.int 12)))) (.int 48271)) (.int 2147483647)),
    .expr (.append (.var 4) (.bin .mod (.bin .fdiv (.var 6) (.int 9)) (.var 2)))],
  .asg 7 (.call false "_law_cell_at" [.var 0, .int 1]),
  .ifs (.cmp .eq (.bin .mod (.var 7) (.int 6)) (.int 1)) [
    .ifs (.cmp .eq (.bin .mod (.bin .fdiv (.var 7) (.int 6)) (.int 2)) (.int 0)) [
      .ret (.cmp .eq (.call false "_law_asked" [.idx (.list [.int 0, .int 10, .bool true, .str "1", .none, .neg 1]) (.bin .mod (.bin .fdiv (.var 7) (.int 12)) (.int 6)), .idx (.list [.list [], .var 4]) (.bin .mod (.bin .fdiv (.var 7) (.int 72)) (.int 2))]) (.tup [.int 0]))] [],
    .asg 8 (.bin .mod (.bin .fdiv (.var 7) (.int 336)) (.bin .add (.bf .len (.var 4)) (.int 1))),
    .asg 9 (.bin .add (.bin .add (.slice (.var 4) .none (some (.var 8))) (.list [.idx (.list [.var 2, .neg 1, .bool true, .none]) (.bin .mod (.bin .fdiv (.var 7) (.int 84)) (.int 4))])) (.slice (.var 4) (some (.var 8)) .none)),
    .asg 10 (.list [.var 9, .var 9, .var 9, .bf .tuple (.var 4), .list [], .none, .bin .mul (.list [.int 0]) (.bin .add (.bin .fdiv (.int 256) (.var 2)) (.int 1))]),
    .ret (.cmp .eq (.call false "_law_asked" [.var 2, .idx (.var 10) (.bin .mod (.bin .fdiv (.var 7) (.int 12)) (.int 7))]) (.tup [.int 3]))] [],
  .ifs (.cmp .gt (.bin .mul (.var 2) (.var 3)) (.int 256)) [
    .ret (.cmp .eq (.call false "_law_asked" [.var 2, .var 4]) (.tup [.int 3]))] [],
  .asg 11 (.call false "_law_due" [.var 2, .var 4]),
  .asg 12 (.own (.bf .list (.var 4))),
  .asg 13 (.call true "_law_asked" [.var 2, .var 12]),
  .ifs (.or [.not (.call false "_law_right" [.var 13, .var 11]), .cmp .ne (.var 12) (.var 4)]) [
    .ret (.bool false)] [],
  .asg 14 (.bin .add (.int 1) (.bin .mod (.call false "_law_cell_at" [.var 0, .int 2]) (.int 4))),
  .asg 15 (.list []),
  .for1 16 (.seq (.var 13)) [
    .asg 15 (.bin .add (.var 15) (.comp (.call false "_law_steps" [.call false "_law_from" [.var 16, .var 18, .bin .add (.var 14) (.int 1)], .var 2]) 18 (.range1 (.bf .len (.var 16))) .none))],
  .asg 17 (.comp (.call false "_law_from" [.var 4, .var 18, .var 14]) 18 (.range1 (.bf .len (.var 4))) .none),
  .ifs (.cmp .ne (.bf .sorted (.var 15)) (.bf .sorted (.bin .mul (.var 17) (.var 2)))) [
    .ret (.bool false)] [],
  .expr (.append (.idx (.var 13) (.int 0)) (.int 0)),
  .expr (.append (.var 13) (.list [])),
  .expr (.clear (.var 12)),
  .ret (.and [.call false "_law_right" [.call false "_law_asked" [.var 2, .bf .list (.var 4)], .var 11], .cmp .eq (.bf .len (.var 13)) (.bin .add (.bf .len (.var 11)) (.int 1))])]⟩
def UL_law (P : Tab) : Prop := P "law" = some L_law ∧ UL_cell_at P ∧ UL_asked P ∧ UL_due P ∧ UL_right P ∧ UL_steps P ∧ UL_from P
theorem UL_law.self (u : UL_law P) : P "law" = some L_law := And.left u
theorem UL_law.l_cell_at (u : UL_law P) : UL_cell_at P := And.left (And.right u)
theorem UL_law.l_asked (u : UL_law P) : UL_asked P := And.left (And.right (And.right u))
theorem UL_law.l_due (u : UL_law P) : UL_due P := And.left (And.right (And.right (And.right u)))
theorem UL_law.l_right (u : UL_law P) : UL_right P := And.left (And.right (And.right (And.right (And.right u))))
theorem UL_law.l_steps (u : UL_law P) : UL_steps P := And.left (And.right (And.right (And.right (And.right (And.right u)))))
theorem UL_law.l_from (u : UL_law P) : UL_from P := And.right (And.right (And.right (And.right (And.right (And.right u)))))
noncomputable def tl : List (String × FnDef × List String) := [
  ("is_among", D_is_among, ["thing", "low", "high"]),
  ("need_signs", D_need_signs, ["signs"]),
  ("need_ring", D_need_ring, ["signs", "ring", "sign"]),
  ("lifted_from", D_lifted_from, ["signs", "ring", "start", "found", "sign", "step"]),
  ("lifted", D_lifted, ["signs", "ring", "found", "met", "start", "place"]),
  ("_law_cell_at", L_cell_at, ["_law_script", "_law_k"]),
  ("_law_classes", L_classes, ["_law_e", "_law_found"]),
  ("_law_from", L_from, ["_law_ring", "_law_place", "_law_size", "_law_found"]),
  ("_law_due", L_due, ["_law_signs", "_law_ring", "_law_found", "_law_met", "_law_start", "_law_row", "_law_sign", "_law_step"]),
  ("_law_asked", L_asked, ["_law_signs", "_law_ring", "_law_e"]),
  ("_law_steps", L_steps, ["_law_word", "_law_signs"]),
  ("_law_right", L_right, ["_law_found", "_law_due_here", "_law_row"]),
  ("law", L_law, ["_law_script", "_law_cell", "_law_signs", "_law_many", "_law_ring", "_law_k", "_law_more", "_law_odd", "_law_at", "_law_spoilt", "_law_bad", "_law_due_here", "_law_handed", "_law_told", "_law_size", "_law_steps_here", "_law_row", "_law_words"])]
noncomputable def fns : List String := ["is_among", "need_signs", "need_ring", "lifted_from", "lifted", "_law_cell_at", "_law_classes", "_law_from", "_law_due", "_law_asked", "_law_steps", "_law_right", "law"]
noncomputable def nums : List (String × Int) := [("MOST_SIGNS", 9), ("MOST_WORDS", 256)]
theorem u_D_is_among : U_is_among (tabOf tl) := rfl
theorem u_D_need_signs : U_need_signs (tabOf tl) := And.intro rfl u_D_is_among
theorem u_D_need_ring : U_need_ring (tabOf tl) := And.intro rfl u_D_is_among
theorem u_D_lifted_from : U_lifted_from (tabOf tl) := rfl
theorem u_D_lifted : U_lifted (tabOf tl) := And.intro rfl (And.intro u_D_need_signs (And.intro u_D_need_ring u_D_lifted_from))
theorem u_L_cell_at : UL_cell_at (tabOf tl) := rfl
theorem u_L_classes : UL_classes (tabOf tl) := rfl
theorem u_L_from : UL_from (tabOf tl) := rfl
theorem u_L_due : UL_due (tabOf tl) := rfl
theorem u_L_asked : UL_asked (tabOf tl) := And.intro rfl (And.intro u_D_lifted u_L_classes)
theorem u_L_steps : UL_steps (tabOf tl) := rfl
theorem u_L_right : UL_right (tabOf tl) := rfl
theorem u_L_law : UL_law (tabOf tl) := And.intro rfl (And.intro u_L_cell_at (And.intro u_L_asked (And.intro u_L_due (And.intro u_L_right (And.intro u_L_steps u_L_from)))))
end L06
namespace L06
def S (r : List Nat) (p : Nat) : Nat := ((List.range p).map fun q => r.getD (q % r.length) 0).sum
section
variable {r : List Nat} {n T : Nat}
theorem S_zero : S r 0 = 0 := rfl
theorem S_succ (p : Nat) : S r (p + 1) = S r p + r.getD (p % r.length) 0 := by
  unfold S
  rw [List.range_succ, List.map_append, List.sum_append]; rfl
theorem S_len (p : Nat) : S r (r.length + p) = S r r.length + S r p := by
  induction p with
  | zero => rfl
  | succ p ih => rw [← Nat.add_assoc, S_succ, ih, S_succ, Nat.add_mod_left, Nat.add_assoc]
theorem S_mul (j p : Nat) : S r (j * r.length + p) = j * S r r.length + S r p := by
  induction j with
  | zero => rw [Nat.zero_mul, Nat.zero_mul, Nat.zero_add, Nat.zero_add]
  | succ j ih => rw [Nat.succ_mul, Nat.add_comm (j * r.length), Nat.add_assoc, S_len, ih, Nat.succ_mul, Nat.add_comm (j * _) (S r r.length), Nat.add_assoc]
def pr (n T : Nat) : Nat := ((List.range n).find? fun j => decide ((j + 1) * T % n = 0)).getD 0 + 1
structure Pr (n T m : Nat) : Prop where
  pos : 0 < m
  le : m ≤ n
  ends : m * T % n = 0
  least : ∀ j, 0 < j → j < m → j * T % n ≠ 0
theorem pr_spec (hn : 0 < n) : Pr n T (pr n T) := by
  unfold pr
  cases e : (List.range n).find? fun j => decide ((j + 1) * T % n = 0) with
  | none =>
    have := List.find?_eq_none.1 e (n - 1) (List.mem_range.2 (Nat.sub_lt hn Nat.one_pos))
    rw [Nat.sub_add_cancel hn, Nat.mul_mod_right] at this
    exact absurd (decide_eq_true rfl) this
  | some i =>
    obtain ⟨h1, h2, h3⟩ := List.find?_range_eq_some.1 e
    refine ⟨Nat.succ_pos _, List.mem_range.1 h2, of_decide_eq_true h1, fun j h0 hj q => ?_⟩
    have := h3 (j - 1) (by rw [Option.getD_some] at hj; omega)
    rw [Nat.sub_add_cancel h0, decide_eq_true q] at this
    cases this
def cyc (n T a : Nat) : List Nat := (List.range (pr n T)).map fun j => (a + j * T) % n
theorem cyc_len (a : Nat) : (cyc n T a).length = pr n T := by rw [cyc, List.length_map, List.length_range]
theorem mod_zero_add (h : y % n = 0) : (x + y) % n = x % n := by rw [Nat.add_mod, h, Nat.add_zero, Nat.mod_mod]
theorem mem_cyc (hn : 0 < n) : x ∈ cyc n T a ↔ ∃ j, x = (a + j * T) % n := by
  have P := pr_spec (T := T) hn
  refine ⟨fun h => ?_, fun ⟨j, e⟩ => ?_⟩
  · obtain ⟨j, _, rfl⟩ := List.mem_map.1 h; exact ⟨j, rfl⟩
  · refine List.mem_map.2 ⟨j % pr n T, List.mem_range.2 (Nat.mod_lt _ P.pos), ?_⟩
    have e2 : j * T = j % pr n T * T + pr n T * (j / pr n T) * T := by rw [← Nat.add_mul, Nat.mod_add_div]
    rw [e, e2, ← Nat.add_assoc, Nat.mul_right_comm]
    refine (mod_zero_add ?_).symm
    rw [Nat.mul_mod, P.ends, Nat.zero_mul, Nat.zero_mod]
theorem cyc_back (hn : 0 < n) (hs : s < n) (e : (s + j * T) % n = (a + i * T) % n) : s ∈ cyc n T a := by
  refine (mem_cyc hn).2 ⟨i + (n - 1) * j, ?_⟩
  have e1 : s + j * T + (n - 1) * j * T = s + n * (j * T) := by
    obtain ⟨m, rfl⟩ : ∃ m, n = m + 1 := ⟨n - 1, (Nat.sub_add_cancel hn).symm⟩
    rw [Nat.add_sub_cancel, Nat.succ_mul, Nat.mul_assoc, Nat.add_assoc, Nat.add_comm (j * T)]
  rw [Nat.add_mul, ← Nat.add_assoc, Nat.add_mod, ← e, ← Nat.add_mod, e1, Nat.add_mul_mod_self_left, Nat.mod_eq_of_lt hs]
theorem cyc_ne (hn : 0 < n) (hi : i < j) (hj : j < pr n T) : (a + i * T) % n ≠ (a + j * T) % n := fun e => by
  have P := pr_spec (T := T) hn
  have := Nat.sub_mod_eq_zero_of_mod_eq e.symm
  rw [Nat.add_sub_add_left, ← Nat.sub_mul] at this
  exact P.least (j - i) (Nat.sub_pos_of_lt hi) (Nat.lt_of_le_of_lt (Nat.sub_le _ _) hj) this
def chosen (n T : Nat) : Nat → List Nat
  | 0 => []
  | s + 1 => if s ∈ (chosen n T s).flatMap (cyc n T) then chosen n T s else chosen n T s ++ [s]
def met (n T s : Nat) : List Nat := (chosen n T s).flatMap (cyc n T)
theorem met_new (hn : 0 < n) (hs : s < n) (h : s ∉ met n T s) : (s + j * T) % n ∉ met n T s := fun hm => by
  obtain ⟨a, ha, hx⟩ := List.mem_flatMap.1 hm
  obtain ⟨i, e⟩ := (mem_cyc hn).1 hx
  exact h (List.mem_flatMap.2 ⟨a, ha, cyc_back hn hs e⟩)
theorem met_succ (s : Nat) : met n T (s + 1) = if s ∈ met n T s then met n T s else met n T s ++ cyc n T s := by
  unfold met
  rw [chosen]
  by_cases h : s ∈ (chosen n T s).flatMap (cyc n T)
  · rw [if_pos h, if_pos h]
  · rw [if_neg h, if_neg h, List.flatMap_append, List.flatMap_cons, List.flatMap_nil, List.append_nil]
theorem met_lt (hn : 0 < n) (h : x ∈ met n T s) : x < n := by
  obtain ⟨a, _, hx⟩ := List.mem_flatMap.1 h
  obtain ⟨j, rfl⟩ := (mem_cyc hn).1 hx
  exact Nat.mod_lt _ hn
theorem met_nodup (hn : 0 < n) : ∀ s, s ≤ n → (met n T s).Nodup
  | 0, _ => List.nodup_nil
  | s + 1, hs => by
    have ih := met_nodup hn s (Nat.le_of_succ_le hs)
    rw [met_succ]
    by_cases h : s ∈ met n T s
    · rw [if_pos h]; exact ih
    · rw [if_neg h]
      refine List.nodup_append.2 ⟨ih, ?_, fun x hx y hy e => ?_⟩
      · refine List.pairwise_map.2 (List.Pairwise.imp_of_mem (fun {i j} hi hj h => ?_) List.pairwise_lt_range)
        exact cyc_ne hn h (List.mem_range.1 hj)
      · obtain ⟨j, rfl⟩ := (mem_cyc hn).1 hy
        subst e
        exact met_new hn hs h hx
theorem met_all (hn : 0 < n) : ∀ {x : Nat}, x < s → s ≤ n → x ∈ met n T s := by
  induction s with
  | zero => exact fun h => absurd h (Nat.not_lt_zero _)
  | succ s ih =>
    intro x hx hs
    rw [met_succ]
    rcases Nat.lt_or_eq_of_le (Nat.le_of_lt_succ hx) with h | rfl
    · have := ih h (Nat.le_of_succ_le hs)
      by_cases c : s ∈ met n T s
      · rw [if_pos c]; exact this
      · rw [if_neg c]; exact List.mem_append_left _ this
    · by_cases c : x ∈ met n T x
      · rw [if_pos c]; exact c
      · rw [if_neg c]
        refine List.mem_append_right _ ((mem_cyc hn).2 ⟨0, ?_⟩)
        rw [Nat.zero_mul, Nat.add_zero, Nat.mod_eq_of_lt hs]
theorem rounds (hn : 0 < n) : (chosen n T n).length * pr n T = n := by
  have p : (met n T n).Perm (List.range n) := (List.perm_ext_iff_of_nodup (met_nodup hn n (Nat.le_refl _)) List.nodup_range).2 fun x => ⟨fun h => List.mem_range.2 (met_lt hn h), fun h => met_all hn (List.mem_range.1 h) (Nat.le_refl _)⟩
  have := p.length_eq
  rw [List.length_range, met, List.length_flatMap, show (fun a => (cyc n T a).length) = fun z_ => pr n T from funext cyc_len, List.map_const', List.sum_replicate_nat] at this
  exact this
def at_ (n : Nat) (r : List Nat) (a p : Nat) : Nat := (a + S r p) % n
def row (n : Nat) (r : List Nat) (a L : Nat) : List Nat := (List.range L).map (at_ n r a)
theorem row_len (a L : Nat) : (row n r a L).length = L := by rw [row, List.length_map, List.length_range]
theorem row_succ (a p : Nat) : row n r a (p + 1) = row n r a p ++ [at_ n r a p] := by rw [row, List.range_succ, List.map_append]; rfl
theorem at_succ (a p : Nat) : at_ n r a (p + 1) = (at_ n r a p + r.getD (p % r.length) 0) % n := by
  unfold at_; rw [S_succ, ← Nat.add_assoc, Nat.mod_add_mod]
theorem at_round (a j : Nat) : at_ n r a (j * r.length) = (a + j * S r r.length) % n := by
  have := S_mul (r := r) j 0
  rw [Nat.add_zero, S_zero, Nat.add_zero] at this
  unfold at_; rw [this]
def rl (n : Nat) (r : List Nat) : Nat := pr n (S r r.length) * r.length
theorem at_wrap (hn : 0 < n) (a p : Nat) : at_ n r a (rl n r + p) = at_ n r a p := by
  unfold at_ rl
  rw [S_mul, ← Nat.add_assoc, Nat.add_right_comm]
  exact mod_zero_add (pr_spec hn).ends
theorem at_mod (hn : 0 < n) (a p : Nat) : at_ n r a (p % rl n r) = at_ n r a p := by
  have key : ∀ k q, at_ n r a (rl n r * k + q) = at_ n r a q := fun k => by
    induction k with
    | zero => intro q; rw [Nat.mul_zero, Nat.zero_add]
    | succ k ih => intro q; rw [Nat.mul_succ, Nat.add_assoc, ih, at_wrap hn]
  have := key (p / rl n r) (p % rl n r)
  rw [Nat.div_add_mod] at this
  exact this.symm
theorem at_step (hd : ∀ d ∈ r, d < n) (hr : 0 < r.length) (a p : Nat) : (at_ n r a (p + 1) + n - at_ n r a p) % n = r.getD (p % r.length) 0 := by
  have hm := Nat.mod_lt p hr
  have hg : r.getD (p % r.length) 0 < n := by
    rw [List.getD_eq_getElem?_getD, List.getElem?_eq_getElem hm]; exact hd _ (List.getElem_mem hm)
  have hn : 0 < n := Nat.zero_lt_of_lt hg
  have hx : at_ n r a p < n := Nat.mod_lt _ hn
  rw [at_succ]
  generalize at_ n r a p = x at hx
  generalize r.getD (p % r.length) 0 = d at hg
  rcases Nat.lt_or_ge (x + d) n with h | h
  · rw [Nat.mod_eq_of_lt h, show x + d + n - x = d + n by omega, Nat.add_mod_right, Nat.mod_eq_of_lt hg]
  · have : (x + d) % n = x + d - n := by rw [Nat.mod_eq_sub_mod h, Nat.mod_eq_of_lt (by omega)]
    rw [this, show x + d - n + n - x = d by omega, Nat.mod_eq_of_lt hg]
end
end L06
namespace L06
section
variable {P : Tab} {n : Nat} {h : H} {F : Fn}
theorem whileL_go {test : List V → H → R V} {body : List V → H → RS} (f : Nat → List V) (g : Nat → H) (m : Nat)
    (ht : ∀ i, i < m → test (f i) (g i) = .ok (.bool true) (g i)) (hb : ∀ i, i < m → body (f i) (g i) = .ok .next (f (i + 1)) (g (i + 1))) (he : test (f m) (g m) = .ok (.bool false) (g m)) :
    ∀ k i, i + k = m → ∀ n, k < n → whileL test body n (f i) (g i) = .ok .next (f m) (g m) := by
  intro k
  induction k with
  | zero =>
    intro i hi n hn
    rw [Nat.add_zero] at hi; subst hi
    cases n with
    | zero => exact absurd hn (Nat.not_lt_zero _)
    | succ n =>
      show ((test (f i) (g i)).st (f i) _) = _
      rw [he]; rfl
  | succ k ih =>
    intro i hi n hn
    have lt : i < m := by rw [← hi]; exact Nat.lt_add_of_pos_right (Nat.succ_pos k)
    cases n with
    | zero => exact absurd hn (Nat.not_lt_zero _)
    | succ n =>
      show ((test (f i) (g i)).st (f i) _) = _
      rw [ht i lt]
      show (body (f i) (g i)).then _ = _
      rw [hb i lt, RS.then_next]
      exact ih (i + 1) (by rw [Nat.add_assoc, Nat.add_comm 1 k]; exact hi) n (Nat.lt_of_succ_lt_succ hn)
theorem o_while (f : Nat → List V) (g : Nat → H) (m : Nat) (hm : m < turns) (hρ : f 0 = ρ) (hh : g 0 = h)
    (ht : ∀ i, i < m → evE true F (f i) t (g i) = .ok (.bool true) (g i)) (hb : ∀ i, i < m → exSs true F body (f i) (g i) = .ok .next (f (i + 1)) (g (i + 1))) (he : evE true F (f m) t (g m) = .ok (.bool false) (g m))
    (k : (exSs true F ss (f m) (g m)).out = r) : (exSs true F (.while t body :: ss) ρ h).out = r := by
  subst hρ hh
  rw [ss_cons', qS_10, if_neg (by decide), whileL_go f g m ht hb he m 0 (Nat.zero_add m) turns hm, RS.then_next]; exact k
noncomputable def rd (l : List Nat) (z p : Nat) : List Nat := (List.range z).map fun t => l.getD ((p + t) % l.length) 0
theorem rd_len (l : List Nat) (z p : Nat) : (rd l z p).length = z := by simp [rd]
theorem get_mod {l : List Nat} (hl : 0 < l.length) (i : Nat) : l[i % l.length]? = some (l.getD (i % l.length) 0) := by
  have := Nat.mod_lt i hl
  simp [List.getElem?_eq_getElem this]
noncomputable def ringy (sg : Int) (vs : List V) : Bool := decide (1 ≤ vs.length) && decide (vs.length ≤ 256) && vs.all fun v => among v 0 (sg - 1)
noncomputable def ringB (sg : Int) (h : H) (w : V) : Bool :=
  match litems h w with
  | some vs => ringy sg vs
  | none => false
theorem need_ring_eq {P : Tab} (u : U_need_ring P) (n : Nat) (sg : Int) (w : V) (h : H) (hw : okV h w) (hi : ∀ vs, litems h w = some vs → ∀ v ∈ vs, okV h v) :
    run P (n + 2) true "need_ring" [.int sg, w] h = if ringB sg h w then .ok .none h else .err "BadRing" h := by
  refine start u.self rfl (ρ := [.int sg, w, .undef]) rfl ?_
  have c := cond_len (F := run P (n + 1)) (ρ := [.int sg, w, .undef]) (g := "MOST_WORDS") (N := 256) rfl hw
  unfold ringB
  cases hl : litems h w with
  | none => rw [lenB_none hl] at c; exact o_ifT c rfl
  | some vs =>
    show _ = if (decide (1 ≤ vs.length) && decide (vs.length ≤ 256) && vs.all fun v => among v 0 (sg - 1)) = true then R.ok V.none h else R.err "BadRing" h
    rw [lenB_some hl] at c
    have hi := hi vs hl
    cases hB : (decide (1 ≤ vs.length) && decide (vs.length ≤ 256)) with
    | false => rw [hB] at c; exact o_ifT c rfl
    | true =>
      rw [hB] at c
      refine o_ifF c ?_
      rw [Bool.true_and]
      obtain ⟨t, ht, hto⟩ := iter_of hl
      have hit : evIt true (run P (n + 1)) [.int sg, w, .undef] (.seq (.var 1)) h = .ok (vs.map id, t) h := by
        rw [qI_1, v_at (v := w) rfl hw.val, R.bind_ok, ht, List.map_id]; rfl
      have ea : ∀ a ∈ vs, evE true (run P (n + 1)) [.int sg, w, a] (.not (.call false "is_among" [.var 2, .int 0, .bin .sub (.var 0) (.int 1)])) h = .ok (.bool (!among a 0 (sg - 1))) h := fun a ha => by
        have ec : evE true (run P (n + 1)) [.int sg, w, a] (.call false "is_among" [.var 2, .int 0, .bin .sub (.var 0) (.int 1)]) h = .ok (.bool (among a 0 (sg - 1))) h := call_3 (v_at (v := a) rfl (hi a ha).val) rfl (b_sub (x := sg) (y := 1) rfl rfl) (by rw [is_among_eq u.is_among n true a _ _ h (hi a ha), pcall_bool])
        rw [qE_9, ec]; rfl
      refine o_each (w₀ := .undef) (fun v => among v 0 (sg - 1)) hit hto rfl ?_ ?_ ?_
      · intro a ha hb
        show exSs true (run P (n + 1)) [.ifs _ _ _] [.int sg, w, a] h = _
        rw [ss_cons', qS_7, ea a ha, hb]; rfl
      · intro hall w'
        rw [if_pos (List.all_eq_true.2 hall)]; rfl
      · intro p a q e hp hb k
        have ha : a ∈ vs := by rw [e]; exact List.mem_append_right _ (List.mem_cons_self ..)
        rw [if_neg fun x => Bool.false_ne_true (hb.symm.trans (List.all_eq_true.1 x a ha))]
        show ((exSs true (run P (n + 1)) [.ifs _ _ _] [.int sg, w, a] h).then k).out = _
        rw [ss_cons', qS_7, ea a ha, hb]; rfl
noncomputable def rws (l : List Nat) (z : Nat) : List (List Nat) := (List.range l.length).map (rd l z)
theorem rws_len (l : List Nat) (z : Nat) : (rws l z).length = l.length := by simp [rws]
theorem len_var {F : Fn} {ρ : List V} {i : Nat} {w : V} {vs : List V} (e : ρ[i]? = some w) (hl : litems h w = some vs) : evE true F ρ (.bf .len (.var i)) h = .ok (.int vs.length) h := by
  rw [b_bf (f := .len) rfl, v_at e (okV_of hl).val, R.bind_ok, len_of hl]; rfl
theorem pneed (b : Bool) (c : String) (h : H) : pcall h (if b then .ok .none h else .err c h) = if b then .ok .none h else .err c h := by
  cases b
  · have := pcall_err c h []
    rw [List.append_nil] at this; exact this
  · exact pcall_ok rfl h
theorem o_need {F : Fn} {e : PE} {ss : List PS} {ρ : List V} {b : Bool} {c : String} {r : R V} (he : evE true F ρ e h = if b then .ok .none h else .err c h) (k : b = true → (exSs true F ss ρ h).out = r) : (exSs true F (.expr e :: ss) ρ h).out = if b then r else .err c h := by
  cases b
  · exact o_exprE he
  · exact o_expr he (k rfl)
theorem e_call1 (e : ρ[i]? = some v) (hv : v.val) : evE true F ρ (.call false f [.var i]) h = pcall h (F true f [v] h) := by
  rw [qE_27, qEs_2, v_at e hv]; rfl
theorem e_call2 (e : ρ[i]? = some v) (hv : v.val) (e' : ρ[j]? = some w) (hw : w.val) : evE true F ρ (.call false f [.var i, .var j]) h = pcall h (F true f [v, w] h) := by
  rw [qE_27, qEs_2, v_at e hv, R.bind_ok, qEs_2, v_at e' hw]; rfl
def okI (h : H) (w : V) : Prop := okV h w ∧ ∀ vs, litems h w = some vs → ∀ v ∈ vs, okV h v
theorem IsL.okI {w : V} {l : List Nat} (e : IsL h w l) : okI h w := ⟨e.okV, e.items⟩
theorem n_signs (u : U_need_signs P) {ρ : List V} {i : Nat} {z : V} (e : ρ[i]? = some z) (hz : okV h z) : evE true (run P (n + 2)) ρ (.call false "need_signs" [.var i]) h = if among z 1 9 then .ok .none h else .err "BadSize" h := by
  rw [e_call1 e hz.val, need_signs_eq u n z h hz, pneed]
theorem n_ring (u : U_need_ring P) (e0 : ρ[j]? = some (.int sg)) (e : ρ[i]? = some w) (hw : okI h w) : evE true (run P (n + 2)) ρ (.call false "need_ring" [.var j, .var i]) h = if ringB sg h w then .ok .none h else .err "BadRing" h := by
  rw [e_call2 (v := .int sg) e0 trivial e hw.1.val, need_ring_eq u n sg w h hw.1 hw.2, pneed]
theorem lt_turns (hm : m ≤ 999999) : m < turns := by
  have : turns = 1000000 := rfl
  omega
theorem next_mod (h0 : 0 < N) (i : Nat) : (p + (i + 1)) % N = if (p + i) % N + 1 = N then 0 else (p + i) % N + 1 := by
  rw [← Nat.add_assoc, ← Nat.mod_add_mod]
  by_cases e : (p + i) % N + 1 = N
  · rw [if_pos e, e, Nat.mod_self]
  · rw [if_neg e, Nat.mod_eq_of_lt (Nat.lt_of_le_of_ne (Nat.mod_lt _ h0) e)]
theorem from_run (u : UL_from P) {w : V} {l : List Nat} (hl : IsL h w l) (h0 : 0 < l.length) (hn : l.length ≤ 1000) (p z : Nat) (hp : p < l.length) (hz : z ≤ 1000) :
    run P (n + 1) true "_law_from" [w, .int p, .int z] h = .ok (.ref h.length) (h ++ [.list (V.nats (rd l z p))]) := by
  refine start u.self rfl (ρ := [w, .int p, .int z, .undef]) rfl ?_
  refine o_asg (v := .ref h.length) (h' := h ++ [.list []]) rfl (ρ' := [w, .int p, .int z, .ref h.length]) rfl ?_
  have cond : ∀ i : Nat, evE true (run P n) [w, .int (((p + i) % l.length : Nat) : Int), .int z, .ref h.length] (.cmp .lt (.bf .len (.var 3)) (.var 2)) (h ++ [.list (V.nats (rd l i p))]) = .ok (.bool (decide ((i : Int) < z))) (h ++ [.list (V.nats (rd l i p))]) := fun i => by
    have e1 := len_var (F := run P n) (ρ := [w, .int (((p + i) % l.length : Nat) : Int), .int z, .ref h.length]) (i := 3) rfl (litems_ref (cell_get h (Cell.list (V.nats (rd l i p)))))
    rw [nats_length, rd_len] at e1
    rw [qE_13, e1]; rfl
  refine o_while (fun i => [w, .int (((p + i) % l.length : Nat) : Int), .int z, .ref h.length]) (fun i => h ++ [.list (V.nats (rd l i p))]) z (lt_turns (Nat.le_trans hz (by decide))) (by rw [Nat.add_zero, Nat.mod_eq_of_lt hp]) rfl (fun i hi => ?_) (fun i hi => ?_) ?_ (o_ret rfl)
  · rw [cond i, decide_eq_true (Int.ofNat_lt.2 hi)]
  · have e0 := cell_get h (Cell.list (V.nats (rd l i p)))
    have hl1 := hl.app [Cell.list (V.nats (rd l i p))]
    have e2 := hl1.idx (get_mod h0 (p + i))
    have hl2 := hl.app [Cell.list (V.nats (rd l (i + 1) p))]
    have e3 : V.nats (rd l (i + 1) p) = V.nats (rd l i p) ++ [.int ((l.getD ((p + i) % l.length) 0 : Nat) : Int)] := by
      rw [rd, List.range_succ, List.map_append, nats_append]; rfl
    have hlen : (V.nats (rd l i p)).length = i := by rw [nats_length, rd_len]
    have e4 := next_mod (p := p) h0 i
    rw [e4]
    rw [e3] at hl2 ⊢
    generalize l.getD ((p + i) % l.length) 0 = d at *
    generalize (p + i) % l.length = m at *
    generalize V.nats (rd l i p) = vs at *
    have on := onList_ref e0 (fun us => some (V.none, us ++ [V.int d])) V.none (vs ++ [V.int d]) rfl (by rw [List.length_append, hlen]; exact Nat.le_trans (Nat.succ_le_of_lt hi) (Nat.le_trans hz (by decide)))
    rw [cell_set] at on
    have ea : evE true (run P n) [w, .int m, .int z, .ref h.length] (.append (.var 3) (.idx (.var 0) (.var 1))) (h ++ [.list vs]) = .ok .none (h ++ [.list (vs ++ [.int d])]) := by
      rw [qE_30, v_at (v := .ref h.length) rfl trivial, R.bind_ok, if_pos (lcell_ref e0), qE_18, v_at (v := w) rfl hl1.val, R.bind_ok, v_at (v := .int m) rfl trivial, R.bind_ok, e2]; exact on
    have ec : evE true (run P n) [w, .int (m + 1), .int z, .ref h.length] (.cmp .eq (.var 1) (.bf .len (.var 0))) (h ++ [.list (vs ++ [.int d])]) = .ok (.bool (decide ((m : Int) + 1 = l.length))) (h ++ [.list (vs ++ [.int d])]) :=
      c_eqI rfl (by rw [len_var rfl hl2, nats_length])
    rw [ss_cons', qS_1, ea, R.st_ok]
    show exSs true (run P n) [.asg 1 (.bin .add (.var 1) (.int 1)), .ifs (.cmp .eq (.var 1) (.bf .len (.var 0))) [.asg 1 (.int 0)] []] [w, .int m, .int z, .ref h.length] (h ++ [.list (vs ++ [.int d])]) = _
    rw [ss_cons', qS_2, b_add (x := m) (y := 1) rfl rfl, R.st_ok, RS.then_next]
    show exSs true (run P n) [.ifs (.cmp .eq (.var 1) (.bf .len (.var 0))) [.asg 1 (.int 0)] []] [w, .int (m + 1), .int z, .ref h.length] (h ++ [.list (vs ++ [.int d])]) = _
    rw [ss_cons', qS_7, ec, R.st_ok]
    by_cases hm : m + 1 = l.length
    · rw [if_pos hm, decide_eq_true (p := (m : Int) + 1 = l.length) (Int.natCast_inj.2 hm)]; rfl
    · rw [if_neg hm, decide_eq_false (p := (m : Int) + 1 = l.length) fun e => hm (Int.natCast_inj.1 e)]; rfl
  · rw [cond z, decide_eq_false (Int.lt_irrefl _)]
theorem frz_new (h : H) (l : List Nat) : frz h.length (h ++ [.list (V.nats l)]) (.ref h.length) = some (.lst (V.nats l)) :=
  frzAt_nats (Nat.le_refl _) (by simp)
theorem from_p (u : UL_from P) (hl : IsL h w l) (h0 : 0 < l.length) (hn : l.length ≤ 1000) (p z : Nat) (hp : p < l.length) (hz : z ≤ 1000) :
    pcall h (run P (n + 1) true "_law_from" [w, .int p, .int z] h) = .ok (.lst (V.nats (rd l z p))) h := by
  rw [from_run u hl h0 hn p z hp hz, pcall_new _ _ (frz_new h _)]
theorem es_cons (e1 : evE true F ρ e h = .ok v h) (e2 : evEs true F ρ es h = .ok vs h) : evEs true F ρ (e :: es) h = .ok (v :: vs) h := by rw [qEs_2, e1, R.bind_ok, e2]; rfl
theorem beq_nat (a b : Nat) : ((a : Int) == (b : Int)) = decide (a = b) := by
  by_cases e : a = b
  · rw [e, beq_self_eq_true, decide_eq_true rfl]
  · rw [decide_eq_false e]; exact beq_false_of_ne fun h => e (Int.natCast_inj.1 h)
theorem cell_p (u : UL_cell_at P) (s : List Int) (k : Nat) : pcall h (run P (n + 1) true "_law_cell_at" [V.ints s, .int k] h) = .ok (.int (cellAt s k)) h := by
  rw [cell_at_eq u n true s k h, pcall_ok rfl]
theorem mod_nat (x : Int) (m : Nat) (hm : 0 < m) : x.fmod m = ((x.fmod m).toNat : Int) ∧ (x.fmod m).toNat < m := by
  obtain ⟨j, hj, e⟩ := fmod_small x m hm
  rw [e]; exact ⟨by simp, by simpa using hj⟩
noncomputable def zi (l : List Nat) : List Int := l.map fun d : Nat => (d : Int)
theorem zi_inj (e : zi a = zi b) : a = b := by
  unfold zi at e
  exact List.map_inj_right (fun x y h => Int.natCast_inj.1 h) |>.1 e
theorem asInts_nats (l : List Nat) : asInts (V.nats l) = some (zi l) := by
  induction l with
  | nil => rfl
  | cons d l ih => rw [nats_cons, asInts, ih]; rfl
theorem keyed_map {α β : Type} {f : V → Option α} (c : β → V) (k : β → α) : ∀ (l : List β), (∀ b ∈ l, f (c b) = some (k b)) → keyed f (l.map c) = some (l.map fun b => (k b, c b))
  | [], _ => rfl
  | b :: l, e => by
    rw [List.map_cons, keyed, e b (List.mem_cons_self ..), keyed_map c k l fun x hx => e x (List.mem_cons_of_mem _ hx)]; rfl
theorem pick {F : Fn} {ρ : List V} {es : List PE} {i : PE} {vs : List V} {c : Int} {m : Nat} (Pr : V → Prop) (hm : 0 < m) (hl : vs.length = m) (he : evEs true F ρ es h = .ok vs h) (hi : evE true F ρ i h = .ok (.int (c.fmod m)) h) (hp : ∀ x ∈ vs, Pr x) (hn : vs.length ≤ 1000000) :
    ∃ v, evE true F ρ (.idx (.list es) i) h = .ok v h ∧ Pr v := by
  obtain ⟨j, hj, ej, x, hx, ex⟩ := idx_lit (h := h) (i := c) (m := m) hm hl
  refine ⟨x, ?_, hp x (List.mem_of_getElem? hx)⟩
  rw [qE_18, qE_15, he, R.bind_ok, mkL_eq hn, R.opt_some, R.bind_ok, hi, R.bind_ok, ex]; rfl
theorem clean_flat (hp : v.plain = true) (hv : v.val) (hn : ∀ us, v ≠ .lst us) : clean v := ⟨hp, hv, fun us e => absurd e (hn us)⟩
theorem ringB_L {h : H} {w : V} {l : List Nat} (hl : IsL h w l) (h0 : 0 < l.length) (hn : l.length ≤ 256) {sg : Nat} (h9 : ∀ d ∈ l, d < sg) : ringB sg h w = true := by
  unfold ringB
  rw [show litems h w = some (V.nats l) from hl]
  show ringy sg (V.nats l) = true
  unfold ringy
  rw [nats_length, decide_eq_true (show 1 ≤ l.length from h0), decide_eq_true hn, Bool.true_and, Bool.true_and]
  refine List.all_eq_true.2 fun v hv => ?_
  obtain ⟨d, hd, rfl⟩ := nats_val hv
  have := h9 d hd
  simp only [among, Bool.and_eq_true, decide_eq_true_eq]; omega
theorem among_in (h1 : lo ≤ a) (h2 : a ≤ hi) : among (.int a) lo hi = true := by
  simp only [among, h1, h2, decide_true, Bool.and_self]
theorem am_size {k : Nat} (h1 : 1 ≤ k) (h8 : k ≤ 9) : among (.int k) 1 9 = true := among_in (Int.ofNat_le.2 h1) (Int.ofNat_le.2 h8)
theorem e_ne {F : Fn} {ρ : List V} {a b : PE} {h : H} {v w : V} {t : Bool} (ea : evE true F ρ a h = .ok v h) (eb : evE true F ρ b h = .ok w h) (e : pyEq h v w = some t) : evE true F ρ (.cmp .ne a b) h = .ok (.bool (!t)) h := by
  rw [qE_13, ea, R.bind_ok, eb, R.bind_ok]
  show R.opt (Option.map V.bool (Option.map (!·) (pyEq h v w))) h = _
  rw [e]; rfl
theorem e_eq (ea : evE true F ρ a h = .ok v h) (eb : evE true F ρ b h = .ok w h) (e : pyEq h v w = some t) : evE true F ρ (.cmp .eq a b) h = .ok (.bool t) h := by
  rw [qE_13, ea, R.bind_ok, eb, R.bind_ok]
  show R.opt (Option.map V.bool (pyEq h v w)) h = _
  rw [e]; rfl
theorem e_idx {F : Fn} {ρ : List V} {a : PE} {h : H} {v x : V} {vs : List V} {j : Nat} (ea : evE true F ρ a h = .ok v h) (hl : litems h v = some vs) (hj : vs[j]? = some x) : evE true F ρ (.idx a (.int j)) h = .ok x h := by
  rw [qE_18, ea, R.bind_ok, qE_3, R.bind_ok, idx_of hl hj]; rfl
theorem lst_ev {x : Nat} {v : V} {vs : List V} (e : ρ[x]? = some v) (hl : litems h v = some vs) : evE true F ρ (.bf .list (.var x)) h = .ok (.lst vs) h := by
  rw [b_bf (f := .list) rfl, v_at e (okV_of hl).val, R.bind_ok]
  rcases litems_cases hl with rfl | ⟨i, rfl, hc⟩
  · rfl
  · show R.opt (Option.map _ (match h[i]? with | some (.list vs) => some vs | _ => Option.none)) h = _
    rw [hc]; rfl
theorem own_ev (ee : evE true F ρ e h = .ok (.lst vs) h) : evE true F ρ (.own e) h = .ok (.ref h.length) (h ++ [.list vs]) := by
  rw [qE_28, ee]; rfl
end
end L06
namespace L06
section
variable {P : Tab} {n : Nat} {h : H} {F : Fn}
theorem forL_W {α : Type} {body : List V → H → RS} (l : List α) (c : α → V) (Inv : List α → List V → H → Prop) (hw : ∀ p ρ g, Inv p ρ g → t.ok g = true)
    (hb : ∀ p a q ρ g, l = p ++ a :: q → Inv p ρ g → ∃ ρ' g', body (ρ.set x (c a)) g = .ok .next ρ' g' ∧ Inv (p ++ [a]) ρ' g') (h0 : Inv [] ρ h) :
    ∃ ρ' g', forL t (bind1 x) body (l.map c) ρ h = .ok .next ρ' g' ∧ Inv l ρ' g' := by
  have key : ∀ (q p : List α) (ρ : List V) (g : H), l = p ++ q → Inv p ρ g → ∃ ρ' g', forL t (bind1 x) body (q.map c) ρ g = .ok .next ρ' g' ∧ Inv l ρ' g' := by
    intro q
    induction q with
    | nil => intro p ρ g e hi; rw [List.append_nil] at e; subst e; exact ⟨ρ, g, by rw [List.map_nil, forL, if_pos (hw _ _ _ hi)], hi⟩
    | cons a q ih =>
      intro p ρ g e hi
      obtain ⟨ρ1, g1, e1, i1⟩ := hb p a q ρ g e hi
      obtain ⟨ρ2, g2, e2, i2⟩ := ih (p ++ [a]) ρ1 g1 (by rw [e, List.append_assoc]; rfl) i1
      refine ⟨ρ2, g2, ?_, i2⟩
      rw [List.map_cons, forL, if_pos (hw _ _ _ hi)]
      show (body (ρ.set x (c a)) g).then _ = _
      rw [e1, RS.then_next, e2]
  exact key l [] ρ h rfl h0
theorem s_forW {α : Type} {t : Watch} {x : Nat} {it : PIt} {body : List PS} {ρ : List V} {h' : H} {l : List α} {c : α → V} (Inv : List α → List V → H → Prop)
    (hi : evIt true F ρ it h = .ok (l.map c, t) h') (hw : ∀ p ρ g, Inv p ρ g → t.ok g = true) (h0 : Inv [] ρ h')
    (hb : ∀ p a q ρ g, l = p ++ a :: q → Inv p ρ g → ∃ ρ' g', exSs true F body (ρ.set x (c a)) g = .ok .next ρ' g' ∧ Inv (p ++ [a]) ρ' g') :
    ∃ ρ' g', exS true F (.for1 x it body) ρ h = .ok .next ρ' g' ∧ Inv l ρ' g' := by
  rw [s_for1', if_neg (by decide), hi, R.st_ok]
  exact forL_W (x := x) (body := fun ρ h => exSs true F body ρ h) l c Inv hw hb h0
theorem s_whileI (Inv : Nat → List V → H → Prop) (m : Nat) (hm : m < turns) (h0 : Inv 0 ρ h)
    (ht : ∀ i ρ g, i < m → Inv i ρ g → evE true F ρ t g = .ok (.bool true) g ∧ ∃ ρ' g', exSs true F body ρ g = .ok .next ρ' g' ∧ Inv (i + 1) ρ' g') (he : ∀ ρ g, Inv m ρ g → evE true F ρ t g = .ok (.bool false) g) :
    ∃ ρ' g', exS true F (.while t body) ρ h = .ok .next ρ' g' ∧ Inv m ρ' g' := by
  rw [qS_10, if_neg (by decide)]
  have key : ∀ k i, i + k = m → ∀ N, k < N → ∀ ρ g, Inv i ρ g → ∃ ρ' g', whileL (fun ρ h => evE true F ρ t h) (fun ρ h => exSs true F body ρ h) N ρ g = .ok .next ρ' g' ∧ Inv m ρ' g' := by
    intro k
    induction k with
    | zero =>
      intro i hi N hN ρ g hI
      rw [Nat.add_zero] at hi; subst hi
      cases N with
      | zero => exact absurd hN (Nat.not_lt_zero _)
      | succ N =>
        refine ⟨ρ, g, ?_, hI⟩
        show ((evE true F ρ t g).st ρ _) = _
        rw [he ρ g hI]; rfl
    | succ k ih =>
      intro i hi N hN ρ g hI
      cases N with
      | zero => exact absurd hN (Nat.not_lt_zero _)
      | succ N =>
        obtain ⟨e1, ρ1, g1, e2, I1⟩ := ht i ρ g (by omega) hI
        obtain ⟨ρ2, g2, e3, I2⟩ := ih (i + 1) (by omega) N (Nat.lt_of_succ_lt_succ hN) ρ1 g1 I1
        refine ⟨ρ2, g2, ?_, I2⟩
        show ((evE true F ρ t g).st ρ _) = _
        rw [e1]
        show (exSs true F body ρ g).then _ = _
        rw [e2, RS.then_next, e3]
  exact key m 0 (Nat.zero_add m) turns hm ρ h h0
theorem o_step {s : PS} {ss : List PS} {ρ ρ' : List V} {h' : H} {r : R V} (e : exS true F s ρ h = .ok .next ρ' h') (k : (exSs true F ss ρ' h').out = r) : (exSs true F (s :: ss) ρ h).out = r := by
  rw [ss_cons', e, RS.then_next]; exact k
theorem ss_step (e : exS true F s ρ h = .ok .next ρ' h') (k : exSs true F ss ρ' h' = r) : exSs true F (s :: ss) ρ h = r := by
  rw [ss_cons', e, RS.then_next]; exact k
theorem ss_asg (he : evE true F ρ e h = .ok v h') (hρ : ρ.set x v = ρ') (k : exSs true F ss ρ' h' = r) : exSs true F (.asg x e :: ss) ρ h = r := by
  rw [ss_cons', qS_2, he, R.st_ok, RS.then_next, hρ]; exact k
theorem ss_expr (he : evE true F ρ e h = .ok .none h') (k : exSs true F ss ρ h' = r) : exSs true F (.expr e :: ss) ρ h = r := by
  rw [ss_cons', qS_1, he]; exact k
theorem ss_ifF (ht : evE true F ρ t h = .ok (.bool false) h) (k : exSs true F ss ρ h = r) : exSs true F (.ifs t a [] :: ss) ρ h = r := by
  rw [ss_cons', qS_7, ht]; exact k
theorem ss_ifT (ht : evE true F ρ t h = .ok (.bool true) h) (k : exSs true F (a ++ ss) ρ h = r) : exSs true F (.ifs t a b :: ss) ρ h = r := by
  rw [ss_cons', qS_7, ht, R.st_ok]
  rw [exSs_app] at k; exact k
theorem range_at {m : Nat} {p q : List Nat} {a : Nat} (e : List.range m = p ++ a :: q) : a = p.length ∧ p.length < m := by
  have h1 : (List.range m)[p.length]? = some a := by rw [e, List.getElem?_append_right (Nat.le_refl _), Nat.sub_self]; rfl
  have h2 := (List.getElem?_eq_some_iff.1 h1).1
  rw [List.length_range] at h2
  rw [List.getElem?_range h2] at h1
  exact ⟨(Option.some.inj h1).symm, h2⟩
theorem nats_range (r : List Nat) : V.nats r = (List.range r.length).map fun i : Nat => V.int ((r.getD i 0 : Nat) : Int) := by
  refine List.ext_getElem? fun i => ?_
  by_cases hi : i < r.length
  · rw [List.getElem?_map, List.getElem?_range hi, V.nats, List.getElem?_map, List.getElem?_eq_getElem hi]
    show some (V.int (r[i] : Nat)) = some (V.int ((r.getD i 0 : Nat) : Int))
    rw [List.getD_eq_getElem?_getD, List.getElem?_eq_getElem hi]; rfl
  · rw [List.getElem?_eq_none (by rw [nats_length]; exact Nat.le_of_not_lt hi), List.getElem?_eq_none (by rw [List.length_map, List.length_range]; exact Nat.le_of_not_lt hi)]
theorem round_mod {m j i : Nat} (hi : i < m) : (j * m + i) % m = i := by rw [Nat.add_comm, Nat.add_mul_mod_self_right, Nat.mod_eq_of_lt hi]
theorem app_num {ρ : List V} {i k c : Nat} {l : List Nat} {d : Nat} (ei : ρ[i]? = some (.ref c)) (ek : ρ[k]? = some (.int d)) (hc : h[c]? = some (.list (V.nats l))) (hl : l.length ≤ 1000) : evE true F ρ (.append (.var i) (.var k)) h = .ok .none (h.set c (.list (V.nats (l ++ [d])))) := by
  rw [qE_30, v_at ei trivial, R.bind_ok, if_pos (lcell_ref hc), v_at ek trivial, R.bind_ok, onList_ref hc _ .none (V.nats (l ++ [d])) (by rw [nats_append]; rfl) (by rw [nats_length, List.length_append]; exact Nat.le_trans (Nat.succ_le_succ hl) (by decide))]
structure RB (n : Nat) (r : List Nat) : Prop where
  n1 : 1 ≤ n
  n9 : n ≤ 9
  r1 : 0 < r.length
  dig : ∀ d ∈ r, d < n
  le : r.length * n ≤ 256
theorem RB.rl (b : RB n r) : rl n r ≤ 256 := Nat.le_trans (Nat.mul_le_mul_right _ (pr_spec b.n1).le) (by rw [Nat.mul_comm]; exact b.le)
theorem RB.len (b : RB n r) : r.length ≤ 256 := Nat.le_trans (Nat.le_mul_of_pos_right _ b.n1) b.le
theorem RB.before (b : RB n r) (hj : j < pr n (S r r.length)) (hi : i ≤ r.length) : j * r.length + i ≤ 256 := by
  refine Nat.le_trans (Nat.add_le_add_left hi _) (Nat.le_trans ?_ b.rl)
  rw [← Nat.succ_mul]; exact Nat.mul_le_mul_right _ hj
section
variable {N : Nat} {r : List Nat} (b : RB N r) {w : V} (hw : IsL h w r)
include b hw
theorem lifted_from_run (u : U_lifted_from P) {a : Nat} (ha : a < N) : run P (n + 1) true "lifted_from" [.int N, w, .int a] h = .ok (.ref h.length) (h ++ [.list (V.nats (row N r a (rl N r)))]) := by
  refine start u.self rfl (ρ := [.int N, w, .int a, .undef, .undef, .undef]) rfl ?_
  refine o_asg (v := .ref h.length) (h' := h ++ [.list []]) rfl (ρ' := [.int N, w, .int a, .ref h.length, .undef, .undef]) rfl ?_
  refine o_asg (v := .int a) (h' := h ++ [.list []]) rfl (ρ' := [.int N, w, .int a, .ref h.length, .int a, .undef]) rfl ?_
  have Q := pr_spec (T := S r r.length) b.n1
  have L := s_whileI (F := run P n) (h := h ++ [.list []]) (t := .or [.cmp .eq (.bf .len (.var 3)) (.int 0), .cmp .ne (.var 4) (.var 2)])
    (body := [.for1 5 (.seq (.var 1)) [.expr (.append (.var 3) (.var 4)), .asg 4 (.bin .mod (.bin .add (.var 4) (.var 5)) (.var 0))]]) (ρ := [.int N, w, .int a, .ref h.length, .int a, .undef])
    (fun j ρ g => ∃ v, ρ = [.int N, w, .int a, .ref h.length, .int ((at_ N r a (j * r.length) : Nat) : Int), v] ∧ g = h ++ [.list (V.nats (row N r a (j * r.length)))]) (pr N (S r r.length)) (lt_turns (Nat.le_trans Q.le (Nat.le_trans b.n9 (by decide)))) ⟨.undef, by rw [at_round, Nat.zero_mul, Nat.add_zero, Nat.mod_eq_of_lt ha], by rw [Nat.zero_mul]; rfl⟩ ?_ ?_
  · obtain ⟨ρ', g', e, v, rfl, rfl⟩ := L
    exact o_step e (o_ret rfl)
  · rintro j ρ g hj ⟨v, rfl, rfl⟩
    refine ⟨?_, ?_⟩
    · have e1 := len_var (F := run P n) (h := h ++ [.list (V.nats (row N r a (j * r.length)))]) (ρ := [.int N, w, .int a, .ref h.length, .int ((at_ N r a (j * r.length) : Nat) : Int), v]) (i := 3) rfl (litems_ref (cell_get h (Cell.list (V.nats (row N r a (j * r.length))))))
      rw [nats_length, row_len] at e1
      have c1 := c_eqI (y := 0) e1 (b := .int 0) rfl
      have c2 := e_ne (F := run P n) (h := h ++ [.list (V.nats (row N r a (j * r.length)))]) (ρ := [.int N, w, .int a, .ref h.length, .int ((at_ N r a (j * r.length) : Nat) : Int), v]) (a := .var 4) (b := .var 2) (t := decide (((at_ N r a (j * r.length) : Nat) : Int) = a)) rfl rfl (pyEq_int _ _ _)
      rw [qE_11, qR_3, c1, R.bind_ok]
      cases j with
      | zero => rw [Nat.zero_mul]; rfl
      | succ j =>
        have h0 : ¬(((j + 1) * r.length : Nat) : Int) = 0 := Int.natCast_ne_zero.2 (Nat.ne_of_gt (Nat.mul_pos (Nat.succ_pos j) b.r1))
        have h1 : ¬((at_ N r a ((j + 1) * r.length) : Nat) : Int) = a := fun q => by
          have q := Int.natCast_inj.1 q
          rw [at_round] at q
          have := Nat.sub_mod_eq_zero_of_mod_eq (q.trans (Nat.mod_eq_of_lt ha).symm)
          rw [Nat.add_sub_cancel_left] at this
          exact Q.least (j + 1) (Nat.succ_pos j) hj this
        rw [decide_eq_false h0]
        show evE true (run P n) _ (.cmp .ne (.var 4) (.var 2)) _ = _
        rw [c2, decide_eq_false h1]; rfl
    · obtain ⟨t, ht, hto⟩ := iter_of hw
      have hit : evIt true (run P n) [.int N, w, .int a, .ref h.length, .int ((at_ N r a (j * r.length) : Nat) : Int), v] (.seq (.var 1)) (h ++ [.list (V.nats (row N r a (j * r.length)))]) = .ok ((List.range r.length).map (fun i : Nat => V.int ((r.getD i 0 : Nat) : Int)), t) (h ++ [.list (V.nats (row N r a (j * r.length)))]) := by
        obtain ⟨t', ht', _⟩ := iter_of (hw.app [.list (V.nats (row N r a (j * r.length)))])
        have : iterOf (h ++ [.list (V.nats (row N r a (j * r.length)))]) w = some (V.nats r, t) := by
          rcases litems_cases hw with rfl | ⟨i, rfl, hc⟩
          · rw [← ht]; rfl
          · rw [← ht]
            unfold iterOf
            dsimp only
            rw [List.getElem?_append_left (List.getElem?_eq_some_iff.1 hc).1]
        rw [qI_1, v_at (v := w) rfl hw.val, R.bind_ok, this, nats_range]; rfl
      obtain ⟨ρ1, g1, e, v, rfl, rfl⟩ := s_forW (F := run P n) (x := 5) (body := [.expr (.append (.var 3) (.var 4)), .asg 4 (.bin .mod (.bin .add (.var 4) (.var 5)) (.var 0))]) (fun q ρ g => ∃ v, ρ = [.int N, w, .int a, .ref h.length, .int ((at_ N r a (j * r.length + q.length) : Nat) : Int), v] ∧ g = h ++ [.list (V.nats (row N r a (j * r.length + q.length)))]) hit (fun q ρ g hi => by obtain ⟨v, _, rfl⟩ := hi; exact Watch.app hto _) ⟨v, rfl, rfl⟩ (fun q i q' ρ g hq hi => by
          obtain ⟨v, rfl, rfl⟩ := hi
          obtain ⟨rfl, hi⟩ := range_at hq
          refine ⟨_, _, ?_, .int ((r.getD q.length 0 : Nat) : Int), rfl, rfl⟩
          have le := b.before hj (Nat.le_of_lt hi)
          rw [List.length_append, List.length_singleton, ← Nat.add_assoc, at_succ, round_mod hi, row_succ]
          generalize hp : j * r.length + q.length = p at le
          have rl : (row N r a p).length ≤ 1000 := by rw [row_len]; exact Nat.le_trans le (by decide)
          refine ss_expr (app_num (l := row N r a p) (d := at_ N r a p) (c := h.length) rfl rfl (cell_get _ _) rl) ?_
          rw [cell_set]
          exact ss_asg ((b_mod (x := ((at_ N r a p : Nat) : Int) + ((r.getD q.length 0 : Nat) : Int)) (y := N) (b_add rfl rfl) rfl (Int.natCast_ne_zero.2 (Nat.ne_of_gt b.n1))).trans (by rw [← Int.natCast_add, fmod_nat])) rfl rfl)
      rw [List.length_range, ← Nat.succ_mul] at e
      exact ⟨_, _, ss_step e rfl, v, rfl, rfl⟩
  · rintro ρ g ⟨v, rfl, rfl⟩
    have e1 := len_var (F := run P n) (h := h ++ [.list (V.nats (row N r a (pr N (S r r.length) * r.length)))]) (ρ := [.int N, w, .int a, .ref h.length, .int ((at_ N r a (pr N (S r r.length) * r.length) : Nat) : Int), v]) (i := 3) rfl (litems_ref (cell_get h (Cell.list (V.nats (row N r a (pr N (S r r.length) * r.length))))))
    rw [nats_length, row_len] at e1
    have c1 := c_eqI (y := 0) e1 (b := .int 0) rfl
    rw [decide_eq_false (Int.natCast_ne_zero.2 (Nat.ne_of_gt (Nat.mul_pos Q.pos b.r1)))] at c1
    have c2 := e_ne (F := run P n) (h := h ++ [.list (V.nats (row N r a (pr N (S r r.length) * r.length)))]) (ρ := [.int N, w, .int a, .ref h.length, .int ((at_ N r a (pr N (S r r.length) * r.length) : Nat) : Int), v]) (a := .var 4) (b := .var 2) (t := decide (((at_ N r a (pr N (S r r.length) * r.length) : Nat) : Int) = a)) rfl rfl (pyEq_int _ _ _)
    have h1 : ((at_ N r a (pr N (S r r.length) * r.length) : Nat) : Int) = a := by
      rw [at_round]
      exact congrArg _ ((mod_zero_add Q.ends).trans (Nat.mod_eq_of_lt ha))
    rw [decide_eq_true h1] at c2
    rw [qE_11, qR_3, c1, R.bind_ok]
    exact c2
end
end
end L06
namespace L06
section
variable {P : Tab} {n : Nat} {h : H} {F : Fn}
noncomputable def HH (h : H) (c : Cell) (k : List (List Nat)) : H := h ++ (.list (refs (h.length + 2) k.length) :: c :: cells k)
section
variable {c c' : Cell} {k : List (List Nat)}
theorem hh_len : (HH h c k).length = h.length + 2 + k.length := by
  rw [HH, List.length_append, List.length_cons, List.length_cons, cells, List.length_map]; omega
theorem hh0 : (HH h c k)[h.length]? = some (.list (refs (h.length + 2) k.length)) := by
  rw [HH, List.getElem?_append_right (Nat.le_refl _), Nat.sub_self]; rfl
theorem hh1 : (HH h c k)[h.length + 1]? = some c := by
  rw [HH, List.getElem?_append_right (Nat.le_add_right _ _), Nat.add_sub_cancel_left]; rfl
theorem hh2 (e : k[i]? = some x) : (HH h c k)[h.length + 2 + i]? = some (.list (V.nats x)) := by
  rw [HH, Nat.add_assoc, List.getElem?_append_right (Nat.le_add_right _ _), Nat.add_sub_cancel_left, Nat.add_comm 2 i, List.getElem?_cons_succ, List.getElem?_cons_succ, cells, List.getElem?_map, e]; rfl
theorem hh_set : (HH h c k).set (h.length + 1) c' = HH h c' k := by
  rw [HH, HH, List.set_append_right _ _ (Nat.le_add_right _ _), Nat.add_sub_cancel_left]; rfl
theorem refs_snoc (b m : Nat) : refs b (m + 1) = refs b m ++ [.ref (b + m)] := by rw [refs, List.range_succ, List.map_append]; rfl
theorem hh_push (x : List Nat) : (HH h c k ++ [Cell.list (V.nats x)]).set h.length (Cell.list (refs (h.length + 2) k.length ++ [V.ref (HH h c k).length])) = HH h c (k ++ [x]) := by
  rw [hh_len, ← refs_snoc, HH, HH, List.append_assoc, List.set_append_right _ _ (Nat.le_refl _), Nat.sub_self, List.length_append]
  show h ++ (_ :: c :: (cells k ++ [.list (V.nats x)])) = h ++ (_ :: c :: cells (k ++ [x]))
  rw [cells, cells, List.map_append]; rfl
end
structure MI (M : List Nat) (es : List (V × V)) : Prop where
  get : ∀ x : Nat, (dfind (.int x) es).isSome = decide (x ∈ M)
  len : es.length ≤ M.length
theorem dput_len (k v : V) : ∀ es : List (V × V), (dput k v es).length ≤ es.length + 1
  | [] => Nat.le_refl _
  | (k', v') :: es => by
    rw [dput]
    split
    · exact Nat.le_succ _
    · rw [List.length_cons, List.length_cons]; exact Nat.succ_le_succ (dput_len k v es)
theorem dput_get (k k' v : V) : ∀ es : List (V × V), (dfind k (dput k' v es)).isSome = (decide (k = k') || (dfind k es).isSome)
  | [] => by
    show (if k = k' then some v else none).isSome = _
    by_cases e : k = k' <;> simp [e, dfind]
  | (k0, v0) :: es => by
    rw [dput]
    by_cases e : k' = k0
    · rw [if_pos e, dfind, dfind]
      subst e
      by_cases e2 : k = k' <;> simp [e2]
    · rw [if_neg e, dfind, dfind]
      by_cases e2 : k = k0
      · simp [e2]
      · rw [if_neg e2, if_neg e2]; exact dput_get k k' v es
theorem MI.put (m : MI M es) (x : Nat) : MI (M ++ [x]) (dput (.int x) (.bool true) es) := by
  refine ⟨fun y => ?_, Nat.le_trans (dput_len _ _ es) (by rw [List.length_append]; exact Nat.succ_le_succ m.len)⟩
  rw [dput_get, m.get]
  by_cases e : y = x
  · subst e; simp
  · have : ¬ V.int (y : Int) = V.int (x : Int) := fun q => e (Int.natCast_inj.1 (V.int.inj q))
    simp [e, this]
theorem notIn_dict (ei : ρ[i]? = some (.int x)) (ej : ρ[j]? = some (.ref c)) (hc : h[c]? = some (.dict es)) (m : MI M es) : evE true F ρ (.cmp .notIn (.var i) (.var j)) h = .ok (.bool (!decide (x ∈ M))) h := by
  rw [qE_13, v_at ei trivial, R.bind_ok, v_at ej trivial, R.bind_ok]
  show R.opt (Option.map V.bool (Option.map (!·) (match h[c]? with | some (.dict es) => _ | _ => _))) h = _
  rw [hc]
  show R.opt (Option.map V.bool (Option.map (!·) (if keyOk (.int x) = true then some (dfind (.int x) es).isSome else none))) h = _
  rw [if_pos (show keyOk (.int x) = true from rfl), m.get]; rfl
theorem fromBy_mul (hm : 0 < m) : fromBy 0 ((p * m : Nat) : Int) m = (List.range p).map fun j : Nat => V.int ((j * m : Nat) : Int) := by
  unfold fromBy
  have e : (((p * m : Nat) : Int) - 0 + m - 1) = ((p * m + (m - 1) : Nat) : Int) := by omega
  rw [e, fdiv_nat, Int.toNat_natCast, Nat.mul_comm p m, Nat.mul_add_div hm, Nat.div_eq_of_lt (Nat.sub_lt hm Nat.one_pos), Nat.add_zero]
  refine List.map_congr_left fun j z_ => ?_
  rw [Int.zero_add, Int.natCast_mul]
theorem place_last (n : Nat) : place (n + 1) (-1) = some n := by
  have e : (-1 : Int) + ((n + 1 : Nat) : Int) = n := by omega
  unfold place
  rw [if_neg (by decide), e, if_pos (Int.natCast_nonneg n)]; rfl
theorem idx_last {ρ : List V} {i c : Nat} {vs : List V} {x : V} (ei : ρ[i]? = some (.ref c)) (hc : h[c]? = some (.list (vs ++ [x]))) : evE true F ρ (.idx (.var i) (.neg 1)) h = .ok x h := by
  rw [qE_18, v_at ei trivial, R.bind_ok, qE_8, R.bind_ok]
  show R.opt (match h[c]? with | some (.dict es) => _ | some (.list vs) => _ | none => _) h = _
  rw [hc]
  show R.opt ((place (vs ++ [x]).length (-1)).bind fun j => (vs ++ [x])[j]?) h = _
  have : place (vs ++ [x]).length (-1) = some vs.length := by rw [List.length_append]; exact place_last _
  rw [this, Option.bind_some, List.getElem?_append_right (Nat.le_refl _), Nat.sub_self]; rfl
section
variable {N : Nat} {r : List Nat} (b : RB N r) {w : V} (hw : IsL h w r)
noncomputable abbrev El6 (N : Nat) (w : V) (h : H) (v4 v5 : V) : List V := [.int N, w, .ref h.length, .ref (h.length + 1), v4, v5]
theorem IsL.hh (hw : IsL h w r) : IsL (HH h c k) w r := hw.app _
noncomputable def inner : List PS := [.setIdx (.var 3) (.idx (.idx (.var 2) (.neg 1)) (.var 5)) (.bool true)]
include b hw
theorem met_loop {k : List (List Nat)} {s : Nat} {M : List Nat} {es : List (V × V)} (mi : MI M es) (hM : M.length ≤ 900) {v5 : V} :
    ∃ v es', exS true F (.for1 5 (.range3 (.int 0) (.bf .len (.idx (.var 2) (.neg 1))) (.bf .len (.var 1))) inner) (El6 N w h (.int s) v5) (HH h (.dict es) (k ++ [row N r s (rl N r)])) = .ok .next (El6 N w h (.int s) v) (HH h (.dict es') (k ++ [row N r s (rl N r)])) ∧ MI (M ++ cyc N (S r r.length) s) es' := by
  have Q := pr_spec (T := S r r.length) b.n1
  have last : ∀ {es : List (V × V)}, (HH h (.dict es) (k ++ [row N r s (rl N r)]))[h.length]? = some (.list (refs (h.length + 2) k.length ++ [.ref (h.length + 2 + k.length)])) := fun {es} => by
    rw [hh0, List.length_append, List.length_singleton, refs_snoc]
  have cell : ∀ {es : List (V × V)}, (HH h (.dict es) (k ++ [row N r s (rl N r)]))[h.length + 2 + k.length]? = some (.list (V.nats (row N r s (rl N r)))) := fun {es} => hh2 (by rw [List.getElem?_append_right (Nat.le_refl _), Nat.sub_self]; rfl)
  have hit : evIt true F (El6 N w h (.int s) v5) (.range3 (.int 0) (.bf .len (.idx (.var 2) (.neg 1))) (.bf .len (.var 1))) (HH h (.dict es) (k ++ [row N r s (rl N r)])) = .ok ((List.range (pr N (S r r.length))).map (fun j : Nat => V.int ((j * r.length : Nat) : Int)), Option.none) (HH h (.dict es) (k ++ [row N r s (rl N r)])) := by
    have e1 : evE true F (El6 N w h (.int s) v5) (.bf .len (.idx (.var 2) (.neg 1))) (HH h (.dict es) (k ++ [row N r s (rl N r)])) = .ok (.int (rl N r : Nat)) (HH h (.dict es) (k ++ [row N r s (rl N r)])) := by
      rw [b_bf (f := .len) rfl, idx_last (c := h.length) rfl last, R.bind_ok, len_of (litems_ref cell), nats_length, row_len]; rfl
    have e2 : evE true F (El6 N w h (.int s) v5) (.bf .len (.var 1)) (HH h (.dict es) (k ++ [row N r s (rl N r)])) = .ok (.int r.length) (HH h (.dict es) (k ++ [row N r s (rl N r)])) := by
      have hw' : IsL (HH h (.dict es) (k ++ [row N r s (rl N r)])) w r := hw.app _
      rw [len_var rfl hw', nats_length]
    rw [qI_4, qE_3, R.bind_ok, e1, R.bind_ok, e2, R.bind_ok]
    have l1 := b.rl
    have l2 := b.len
    show (if (-1000000 : Int) ≤ 0 ∧ (0 : Int) ≤ 1000000 ∧ (-1000000 : Int) ≤ ((rl N r : Nat) : Int) ∧ ((rl N r : Nat) : Int) ≤ 1000000 then rng3 0 ((rl N r : Nat) : Int) ((r.length : Nat) : Int) (HH h (.dict es) (k ++ [row N r s (rl N r)])) else R.bad) = _
    rw [if_pos ⟨by decide, by decide, Int.le_trans (by decide) (Int.natCast_nonneg _), Int.ofNat_le.2 (Nat.le_trans l1 (by decide))⟩]
    unfold rng3
    rw [if_pos ⟨Int.ofNat_lt.2 b.r1, Int.ofNat_le.2 (Nat.le_trans l2 (by decide))⟩]
    rw [show rl N r = pr N (S r r.length) * r.length from rfl, fromBy_mul b.r1]
  have L := s_forW (F := F) (x := 5) (body := inner) (fun q ρ g => ∃ v es', ρ = El6 N w h (.int s) v ∧ g = HH h (.dict es') (k ++ [row N r s (rl N r)]) ∧ MI (M ++ (cyc N (S r r.length) s).take q.length) es') hit (fun z_ z_ z_ z_ => rfl) ⟨v5, es, rfl, rfl, by rw [List.length_nil, List.take_zero, List.append_nil]; exact mi⟩ (fun q j q' ρ g hq hi => by
    obtain ⟨v, es', rfl, rfl, mi'⟩ := hi
    obtain ⟨rfl, hj⟩ := range_at hq
    have hlt : q.length * r.length < rl N r := Nat.mul_lt_mul_of_pos_right hj b.r1
    have ei : evE true F (El6 N w h (.int s) (.int ((q.length * r.length : Nat) : Int))) (.idx (.idx (.var 2) (.neg 1)) (.var 5)) (HH h (.dict es') (k ++ [row N r s (rl N r)])) = .ok (.int (((s + q.length * S r r.length) % N : Nat) : Int)) (HH h (.dict es') (k ++ [row N r s (rl N r)])) := by
      rw [qE_18, idx_last (c := h.length) rfl last, R.bind_ok, v_at (v := .int ((q.length * r.length : Nat) : Int)) rfl trivial, R.bind_ok, IsL.idx (IsL.ref cell) (d := at_ N r s (q.length * r.length)) (by rw [row, List.getElem?_map, List.getElem?_range hlt]; rfl), at_round]; rfl
    refine ⟨El6 N w h (.int s) (.int ((q.length * r.length : Nat) : Int)), HH h (.dict (dput (.int (((s + q.length * S r r.length) % N : Nat) : Int)) (.bool true) es')) (k ++ [row N r s (rl N r)]), ?_, _, _, rfl, rfl, ?_⟩
    · show exSs true F inner (El6 N w h (.int s) (.int ((q.length * r.length : Nat) : Int))) _ = _
      unfold inner
      rw [ss_cons', qS_4, qE_2, R.st_ok, v_at (v := .ref (h.length + 1)) rfl trivial, R.st_ok, ei, R.st_ok]
      have hl : es'.length ≤ 1000 := Nat.le_trans mi'.len (by rw [List.length_append, List.length_take]; exact Nat.le_trans (Nat.add_le_add hM (Nat.le_trans (Nat.min_le_right ..) (by rw [cyc_len]; exact Nat.le_trans Q.le b.n9))) (by decide))
      have sd : seti (HH h (.dict es') (k ++ [row N r s (rl N r)])) (.ref (h.length + 1)) (.int (((s + q.length * S r r.length) % N : Nat) : Int)) (.bool true) = some (HH h (.dict (dput (.int (((s + q.length * S r r.length) % N : Nat) : Int)) (.bool true) es')) (k ++ [row N r s (rl N r)])) := by
        show (match (HH h (.dict es') (k ++ [row N r s (rl N r)]))[h.length + 1]? with | some (.list vs) => _ | some (.dict es) => _ | none => _) = _
        rw [hh1]
        show (if (true && decide (es'.length ≤ 1000)) = true then some ((HH h (.dict es') (k ++ [row N r s (rl N r)])).set (h.length + 1) (.dict (dput _ _ es'))) else none) = _
        rw [decide_eq_true hl, if_pos (show (true && true) = true from rfl), hh_set]
      rw [sd]; rfl
    · have := mi'.put ((s + q.length * S r r.length) % N)
      rw [List.append_assoc] at this
      rw [List.length_append, List.length_singleton]
      have e : (cyc N (S r r.length) s).take (q.length + 1) = (cyc N (S r r.length) s).take q.length ++ [(s + q.length * S r r.length) % N] := by
        rw [List.take_succ, cyc, List.getElem?_map, List.getElem?_range hj]; rfl
      rw [e]; exact this)
  obtain ⟨ρ', g', e, v, es', rfl, rfl, m⟩ := L
  rw [List.length_range, List.take_of_length_le (Nat.le_of_eq (cyc_len s))] at m
  exact ⟨v, es', e, m⟩
end
end
end L06
namespace L06
section
variable {P : Tab} {n : Nat} {h : H} {F : Fn}
theorem chosen_len : ∀ s, (chosen N T s).length ≤ s
  | 0 => Nat.le_refl _
  | s + 1 => by
    rw [chosen]
    split
    · exact Nat.le_succ_of_le (chosen_len s)
    · rw [List.length_append]; exact Nat.succ_le_succ (chosen_len s)
theorem met_len (hn : 0 < N) (h9 : N ≤ 9) (hs : s ≤ N) : (met N T s).length ≤ 81 := by
  rw [met, List.length_flatMap, show (fun a => (cyc N T a).length) = fun z_ => pr N T from funext cyc_len, List.map_const', List.sum_replicate_nat]
  exact Nat.mul_le_mul (Nat.le_trans (chosen_len s) (Nat.le_trans hs h9)) (Nat.le_trans (pr_spec hn).le h9)
noncomputable def rows (N : Nat) (r : List Nat) (l : List Nat) : List (List Nat) := l.map fun a => row N r a (rl N r)
theorem rows_snoc (N : Nat) (r l : List Nat) (s : Nat) : rows N r (l ++ [s]) = rows N r l ++ [row N r s (rl N r)] := by rw [rows, List.map_append]; rfl
noncomputable def outer : List PS := [
    .ifs (.cmp .notIn (.var 4) (.var 3)) [
      .expr (.append (.var 2) (.call true "lifted_from" [.var 0, .var 1, .var 4])),
      .for1 5 (.range3 (.int 0) (.bf .len (.idx (.var 2) (.neg 1))) (.bf .len (.var 1))) inner] []]
section
variable {N : Nat} {r : List Nat} (b : RB N r) {w : V} (hw : IsL h w r)
include b hw
theorem lifted_step (u : U_lifted P) {s : Nat} (hs : s < N) {es : List (V × V)} {v5 : V} (m : MI (met N (S r r.length) s) es) : ∃ v es', exSs true (run P (n + 2)) outer (El6 N w h (.int s) v5) (HH h (.dict es) (rows N r (chosen N (S r r.length) s))) = .ok .next (El6 N w h (.int s) v) (HH h (.dict es') (rows N r (chosen N (S r r.length) (s + 1)))) ∧ MI (met N (S r r.length) (s + 1)) es' := by
  have c := notIn_dict (F := run P (n + 2)) (h := HH h (.dict es) (rows N r (chosen N (S r r.length) s))) (ρ := El6 N w h (.int s) v5) (i := 4) (j := 3) (x := s) rfl rfl hh1 m
  have ml := met_len (T := S r r.length) b.n1 b.n9 (Nat.le_of_lt hs)
  rw [met_succ, chosen]
  by_cases hm : s ∈ met N (S r r.length) s
  · rw [decide_eq_true hm] at c
    have hm' : s ∈ (chosen N (S r r.length) s).flatMap (cyc N (S r r.length)) := hm
    rw [if_pos hm, if_pos hm']
    exact ⟨v5, es, ss_ifF c rfl, m⟩
  · rw [decide_eq_false hm] at c
    have hm' : ¬ s ∈ (chosen N (S r r.length) s).flatMap (cyc N (S r r.length)) := hm
    rw [if_neg hm, if_neg hm', rows_snoc]
    have kl : (rows N r (chosen N (S r r.length) s)).length ≤ 900 := by rw [rows, List.length_map]; exact Nat.le_trans (chosen_len s) (Nat.le_trans (Nat.le_of_lt hs) (Nat.le_trans b.n9 (by decide)))
    generalize rows N r (chosen N (S r r.length) s) = k at c kl
    obtain ⟨v, es', e, m'⟩ := met_loop (F := run P (n + 2)) (k := k) (s := s) b hw m (Nat.le_trans ml (by decide)) (v5 := v5)
    refine ⟨v, es', ss_ifT c (ss_expr (h' := HH h (.dict es) (k ++ [row N r s (rl N r)])) ?_ (ss_step e rfl)), m'⟩
    have lf := lifted_from_run (n := n + 1) (h := HH h (.dict es) k) b (hw.app _) u.lifted_from hs
    have h0 : (HH h (.dict es) k ++ [.list (V.nats (row N r s (rl N r)))])[h.length]? = some (.list (refs (h.length + 2) k.length)) := by
      rw [List.getElem?_append_left (by rw [hh_len]; omega)]; exact hh0
    have args : evEs true (run P (n + 2)) (El6 N w h (.int s) v5) [.var 0, .var 1, .var 4] (HH h (.dict es) k) = .ok [.int N, w, .int s] (HH h (.dict es) k) := es_cons rfl (es_cons (v_at rfl hw.val) rfl)
    rw [qE_30, v_at (v := .ref h.length) rfl trivial, R.bind_ok, if_pos (lcell_ref hh0), qE_27, args, R.bind_ok]
    show (R.bind (run P (n + 2) true "lifted_from" [.int N, w, .int s] (HH h (.dict es) k)) _) = _
    rw [lf, R.bind_ok]
    rw [onList_ref h0 _ .none (refs (h.length + 2) k.length ++ [.ref (HH h (.dict es) k).length]) rfl (by rw [List.length_append, refs, List.length_map, List.length_range]; exact Nat.le_trans (Nat.succ_le_succ kl) (by decide)), hh_push]
omit b hw in
theorem lifted_size (u : U_lifted P) {z : V} (hz : okV h z) (e : among z 1 9 = false) : run P (n + 3) true "lifted" [z, w] h = .err "BadSize" h := by
  refine start u.self rfl (ρ := [z, w, .undef, .undef, .undef, .undef]) rfl (o_exprE ?_)
  rw [n_signs (n := n) u.need_signs rfl hz, e]; rfl
omit b hw in
theorem lifted_go (u : U_lifted P) {sg : Nat} (h1 : 1 ≤ sg) (h9 : sg ≤ 9) (hw : okI h w) {res : R V} (c : (exSs true (run P (n + 2)) (D_lifted.body.drop 2) [.int sg, w, .undef, .undef, .undef, .undef] h).out = res) : run P (n + 3) true "lifted" [.int sg, w] h = if ringB sg h w then res else .err "BadRing" h := by
  refine start u.self rfl (ρ := [.int sg, w, .undef, .undef, .undef, .undef]) rfl (o_expr (h' := h) ?_ ?_)
  · rw [n_signs (n := n) u.need_signs (z := .int sg) rfl trivial, am_size h1 h9]; rfl
  · exact o_need (n_ring (n := n) u.need_ring (sg := sg) rfl rfl hw) fun z_ => c
omit b in
theorem lifted_sum {v2 v3 v4 v5 : V} (N : Nat) (h9 : N ≤ 9) : evE true F [.int N, w, v2, v3, v4, v5] (.cmp .gt (.bin .mul (.bf .len (.var 1)) (.var 0)) (.glob "MOST_WORDS" 256)) h = .ok (.bool (decide (256 < r.length * N))) h := by
  have e := b_mul (q := true) (F := F) (ρ := [.int N, w, v2, v3, v4, v5]) (h := h) (a := .bf .len (.var 1)) (b := .var 0) (x := r.length) (y := N) (by rw [len_var rfl hw, nats_length]) rfl (Nat.lt_of_le_of_lt h9 (by decide))
  rw [qE_13, e, R.bind_ok, qE_6, R.bind_ok, cmp_gt_int, ← Int.natCast_mul]
  exact congrArg (fun b => R.ok (V.bool b) h) (decide_eq_decide.2 (Int.ofNat_lt (n := 256)))
omit b in
theorem lifted_long (u : U_lifted P) {sg : Nat} (h1 : 1 ≤ sg) (h9 : sg ≤ 9) (hl : 256 < r.length * sg) : run P (n + 3) true "lifted" [.int sg, w] h = .err "BadRing" h := by
  rw [lifted_go u h1 h9 (IsL.okI hw) (o_ifT ((lifted_sum hw sg h9).trans (by rw [decide_eq_true hl])) rfl)]
  cases ringB sg h w <;> rfl
theorem lifted_run (u : U_lifted P) : ∃ es, run P (n + 3) true "lifted" [.int N, w] h = .ok (.ref h.length) (HH h (.dict es) (rows N r (chosen N (S r r.length) N))) := by
  obtain ⟨ρ', g', e, v4, v5, es, rfl, rfl, _⟩ := s_forW (F := run P (n + 2)) (h := h ++ [.list [], .dict []]) (x := 4) (it := .range1 (.var 0)) (body := outer) (ρ := El6 N w h .undef .undef) (t := Option.none) (l := List.range N) (c := fun i : Nat => V.int i)
    (fun q ρ g => ∃ v4 v5 es, ρ = El6 N w h v4 v5 ∧ g = HH h (.dict es) (rows N r (chosen N (S r r.length) q.length)) ∧ MI (met N (S r r.length) q.length) es) (it_rng (n := N) rfl (Nat.le_trans b.n9 (by decide))) (fun z_ z_ z_ z_ => rfl) ⟨.undef, .undef, [], rfl, rfl, fun x => rfl, Nat.le_refl _⟩ (fun q i q' ρ g hq hi => by
      obtain ⟨v4, v5, es, rfl, rfl, m⟩ := hi
      obtain ⟨rfl, hi⟩ := range_at hq
      obtain ⟨v, es', e, m'⟩ := lifted_step (n := n) b hw u hi m (v5 := v5)
      rw [List.length_append, List.length_singleton]
      exact ⟨_, _, e, _, v, es', rfl, rfl, m'⟩)
  rw [List.length_range] at e
  refine ⟨es, ?_⟩
  rw [lifted_go u b.n1 b.n9 (IsL.okI hw) (res := .ok (.ref h.length) (HH h (.dict es) (rows N r (chosen N (S r r.length) N)))) (o_ifF ((lifted_sum hw N b.n9).trans (by rw [decide_eq_false (Nat.not_lt_of_le b.le)])) ?_), ringB_L hw b.r1 b.len b.dig]
  · rfl
  · refine o_asg (v := .ref h.length) (h' := h ++ [.list []]) rfl (ρ' := [.int N, w, .ref h.length, .undef, .undef, .undef]) rfl ?_
    have fin := o_step e (ss := [.ret (.var 2)]) (o_ret (v := .ref h.length) rfl)
    refine o_asg (v := .ref (h.length + 1)) (h' := h ++ [Cell.list [], Cell.dict []]) ?_ (ρ' := El6 N w h .undef .undef) rfl fin
    show R.ok (V.ref (h ++ [Cell.list []]).length) (h ++ [Cell.list []] ++ [Cell.dict []]) = _
    rw [List.length_append, List.append_assoc]; rfl
end
theorem asked_ok (u : UL_asked P) (hz : z.val) (hw : w.val) (e : run P (n + 3) true "lifted" [z, w] h = .ok v h') : run P (n + 4) true "_law_asked" [z, w] h = .ok v h' := by
  refine start u.self rfl (ρ := [z, w, .undef]) rfl ?_
  have args : evEs true (run P (n + 3)) [z, w, .undef] [.var 0, .var 1] h = .ok [z, w] h := es_cons (v_at rfl hz) (es_cons (v_at rfl hw) rfl)
  have hb : exSs true (run P (n + 3)) [.ret (.call true "lifted" [.var 0, .var 1])] [z, w, .undef] h = .ok (.ret v) [z, w, .undef] h' := by
    rw [ss_cons', qS_6, qE_27, args, R.bind_ok]
    show (((run P (n + 3) true "lifted" [z, w] h).st _ _).then _) = _
    rw [e]; rfl
  show (exSs true (run P (n + 3)) [.try [.ret (.call true "lifted" [.var 0, .var 1])] "RingError" 2 [.ret (.callX "_law_classes" 2)]] _ h).out = _
  rw [ss_cons', qS_12, if_neg (by decide), hb]; rfl
theorem asked_err (u : UL_asked P) (hz : z.val) (hw : w.val) (hc : c ∈ ["BadSize", "BadWord", "BadBook", "BadRing", "NoWord", "NoRing", "NoJoin"]) (e : run P (n + 3) true "lifted" [z, w] h = .err c h') : run P (n + 4) true "_law_asked" [z, w] h = .ok (.tup [.int (codeOf c)]) h' := by
  refine start u.self rfl (ρ := [z, w, .undef]) rfl ?_
  have args : evEs true (run P (n + 3)) [z, w, .undef] [.var 0, .var 1] h = .ok [z, w] h := es_cons (v_at rfl hz) (es_cons (v_at rfl hw) rfl)
  have hb : exSs true (run P (n + 3)) [.ret (.call true "lifted" [.var 0, .var 1])] [z, w, .undef] h = .err c [z, w, .undef] h' := by
    rw [ss_cons', qS_6, qE_27, args, R.bind_ok]
    show (((run P (n + 3) true "lifted" [z, w] h).st _ _).then _) = _
    rw [e]; rfl
  have hx : c ∈ excNames := List.mem_cons_of_mem _ hc
  have hcl : pcall h' (run P (n + 3) false "_law_classes" [.exc c] h') = .ok (.tup [.int (codeOf c)]) h' := by rw [classes_eq u.l_classes (n + 2) false c hc h', pcall_ok rfl]
  show (exSs true (run P (n + 3)) [.try [.ret (.call true "lifted" [.var 0, .var 1])] "RingError" 2 [.ret (.callX "_law_classes" 2)]] _ h).out = _
  rw [ss_cons', qS_12, if_neg (by decide), hb]
  show (RS.then (if (excNames.contains c && "RingError" == "RingError") = true then _ else _) _).out = _
  rw [if_pos (by simp [hx])]
  show (RS.then (match (RS.then (R.st (pcall h' (run P (n + 3) false "_law_classes" [.exc c] h')) _ _) _) with | .ok f ρ h => _ | .err _ _ _ => _ | .bad => _) _).out = _
  rw [hcl]; rfl
end
end L06
namespace L06
section
variable {P : Tab} {n : Nat} {h : H} {F : Fn}
theorem n_sub {x d N : Nat} (h1 : x < N) (h2 : d < N) : x + d - N < N := by omega
theorem any_nats (M : List Nat) (x : Nat) : ((V.nats M).any fun y => peq y (.int x)) = decide (x ∈ M) := by
  induction M with
  | nil => rfl
  | cons d M ih =>
    rw [nats_cons, List.any_cons, ih, peq_int, beq_nat]
    by_cases e : d = x
    · subst e; simp
    · have : ¬ x = d := fun q => e q.symm
      simp [e, this]
theorem notIn_list {ρ : List V} {i j c : Nat} {x : Nat} {M : List Nat} (ei : ρ[i]? = some (.int x)) (ej : ρ[j]? = some (.ref c)) (hc : h[c]? = some (.list (V.nats M))) : evE true F ρ (.cmp .notIn (.var i) (.var j)) h = .ok (.bool (!decide (x ∈ M))) h := by
  rw [qE_13, v_at ei trivial, R.bind_ok, v_at ej trivial, R.bind_ok]
  show R.opt (Option.map V.bool (Option.map (!·) (match h[c]? with | some (.dict es) => _ | _ => isIn h (.int x) (.ref c)))) h = _
  rw [hc]
  show R.opt (Option.map V.bool (Option.map (!·) (isIn h (.int x) (.ref c)))) h = _
  have f1 : frz 0 h (.int x) = some (.int x) := rfl
  have f2 : frz 0 h (.ref c) = some (.lst (V.nats M)) := frz_items (litems_ref hc) (nats_plain M)
  unfold isIn
  rw [f1, f2]
  show R.opt (Option.map V.bool (Option.map (!·) (if (V.ok 8 (.int x) && V.ok 8 (.lst (V.nats M))) = true then some ((V.nats M).any fun y => peq y (.int x)) else none))) h = _
  rw [ok_lnats M 6, if_pos (show (V.ok 8 (.int x) && true) = true from rfl), any_nats]; rfl
section
variable {c c' : Cell} {k : List (List Nat)} {e : H}
theorem n_lt1 (h k : Nat) : h + 1 < h + 2 + k := Nat.lt_of_lt_of_le (Nat.lt_succ_self _) (Nat.le_add_right ..)
theorem n_lt0 (h k : Nat) : h < h + 2 + k := Nat.lt_trans (Nat.lt_succ_self _) (n_lt1 h k)
theorem hx_set : (HH h c k ++ e).set (h.length + 1) c' = HH h c' k ++ e := by
  rw [List.set_append_left _ _ (by rw [hh_len]; exact n_lt1 ..), hh_set]
theorem hx1 : (HH h c k ++ e)[h.length + 1]? = some c := by rw [List.getElem?_append_left (by rw [hh_len]; exact n_lt1 ..)]; exact hh1
theorem hx0 : (HH h c k ++ e)[h.length]? = some (.list (refs (h.length + 2) k.length)) := by rw [List.getElem?_append_left (by rw [hh_len]; exact n_lt0 ..)]; exact hh0
theorem hx2 : (HH h c k ++ [d])[h.length + 2 + k.length]? = some d := by rw [← hh_len (c := c)]; exact cell_get _ _
theorem hx2_set : (HH h c k ++ [d]).set (h.length + 2 + k.length) d' = HH h c k ++ [d'] := by rw [← hh_len (c := c)]; exact cell_set _ _ _
end
noncomputable def dstep : List PS := [
          .expr (.append (.var 5) (.var 6)),
          .asg 6 (.bin .add (.var 6) (.var 7)),
          .ifs (.cmp .ge (.var 6) (.var 0)) [
            .asg 6 (.bin .sub (.var 6) (.var 0))] []]
noncomputable def dround : List PS := [
        .expr (.append (.var 3) (.var 6)),
        .for1 7 (.seq (.var 1)) dstep]
noncomputable def douter : List PS := [
    .ifs (.cmp .notIn (.var 4) (.var 3)) [
      .asg 5 (.own (.list [])),
      .asg 6 (.var 4),
      .while (.cmp .notIn (.var 6) (.var 3)) dround,
      .expr (.append (.var 2) (.var 5))] []]
noncomputable abbrev Ed (N : Nat) (w : V) (h : H) (v4 v5 v6 v7 : V) : List V := [.int N, w, .ref h.length, .ref (h.length + 1), v4, v5, v6, v7]
section
variable {N : Nat} {r : List Nat} (b : RB N r) {w : V} (hw : IsL h w r)
theorem iter_app (hw : IsL h w r) (ht : iterOf h w = some (V.nats r, t)) (e : H) : iterOf (h ++ e) w = some (V.nats r, t) := by
  rcases litems_cases hw with rfl | ⟨i, rfl, hc⟩
  · rw [← ht]; rfl
  · rw [← ht]
    unfold iterOf
    dsimp only
    rw [List.getElem?_append_left (List.getElem?_eq_some_iff.1 hc).1]
include b hw
theorem due_round {k : List (List Nat)} {s j : Nat} (hj : j < pr N (S r r.length)) (c : Cell) {v7 : V} : ∃ v, exS true F (.for1 7 (.seq (.var 1)) dstep) (Ed N w h (.int s) (.ref (h.length + 2 + k.length)) (.int ((at_ N r s (j * r.length) : Nat) : Int)) v7) (HH h c k ++ [.list (V.nats (row N r s (j * r.length)))]) =
    .ok .next (Ed N w h (.int s) (.ref (h.length + 2 + k.length)) (.int ((at_ N r s ((j + 1) * r.length) : Nat) : Int)) v) (HH h c k ++ [.list (V.nats (row N r s ((j + 1) * r.length)))]) := by
  obtain ⟨t, ht, hto⟩ := iter_of hw
  have hit : evIt true F (Ed N w h (.int s) (.ref (h.length + 2 + k.length)) (.int ((at_ N r s (j * r.length) : Nat) : Int)) v7) (.seq (.var 1)) (HH h c k ++ [.list (V.nats (row N r s (j * r.length)))]) = .ok ((List.range r.length).map (fun i : Nat => V.int ((r.getD i 0 : Nat) : Int)), t) (HH h c k ++ [.list (V.nats (row N r s (j * r.length)))]) := by
    have := iter_app hw ht ((.list (refs (h.length + 2) k.length) :: c :: cells k) ++ [.list (V.nats (row N r s (j * r.length)))])
    rw [← List.append_assoc] at this
    rw [qI_1, v_at (v := w) rfl hw.val, R.bind_ok, HH, this, nats_range]; rfl
  obtain ⟨ρ1, g1, e, v, rfl, rfl⟩ := s_forW (F := F) (x := 7) (body := dstep) (fun q ρ g => ∃ v, ρ = Ed N w h (.int s) (.ref (h.length + 2 + k.length)) (.int ((at_ N r s (j * r.length + q.length) : Nat) : Int)) v ∧ g = HH h c k ++ [.list (V.nats (row N r s (j * r.length + q.length)))]) hit (fun q ρ g hi => by obtain ⟨v, _, rfl⟩ := hi; rw [HH, List.append_assoc]; exact Watch.app hto _) ⟨v7, rfl, rfl⟩ (fun q i q' ρ g hq hi => by
    obtain ⟨v, rfl, rfl⟩ := hi
    obtain ⟨rfl, hi⟩ := range_at hq
    refine ⟨_, _, ?_, .int ((r.getD q.length 0 : Nat) : Int), rfl, rfl⟩
    have le := b.before hj (Nat.le_of_lt hi)
    rw [List.length_append, List.length_singleton, ← Nat.add_assoc, at_succ, round_mod hi, row_succ]
    generalize hp : j * r.length + q.length = p at le
    have rl : (row N r s p).length ≤ 1000 := by rw [row_len]; exact Nat.le_trans le (by decide)
    have hx : at_ N r s p < N := Nat.mod_lt _ b.n1
    have hd : r.getD q.length 0 < N := by rw [List.getD_eq_getElem?_getD, List.getElem?_eq_getElem hi]; exact b.dig _ (List.getElem_mem hi)
    refine ss_expr (app_num (l := row N r s p) (d := at_ N r s p) (c := h.length + 2 + k.length) rfl rfl hx2 rl) ?_
    rw [hx2_set]
    generalize at_ N r s p = x at hx
    generalize r.getD q.length 0 = d at hd
    refine ss_asg (v := .int ((x + d : Nat) : Int)) ((b_add (x := x) (y := d) rfl rfl).trans (by rw [Int.natCast_add])) (ρ' := Ed N w h (.int s) (.ref (h.length + 2 + k.length)) (.int ((x + d : Nat) : Int)) (.int d)) rfl ?_
    have c : ∀ G : H, evE true F (Ed N w h (.int s) (.ref (h.length + 2 + k.length)) (.int ((x + d : Nat) : Int)) (.int d)) (.cmp .ge (.var 6) (.var 0)) G = .ok (.bool (decide ((N : Int) ≤ ((x + d : Nat) : Int)))) G := fun G => by
      rw [qE_13, v_at (v := .int ((x + d : Nat) : Int)) rfl trivial, R.bind_ok, v_at (v := .int N) rfl trivial, R.bind_ok, cmp_ge_int]; rfl
    rcases Nat.lt_or_ge (x + d) N with hlt | hge
    · rw [Nat.mod_eq_of_lt hlt]
      exact ss_ifF ((c _).trans (by rw [decide_eq_false (Int.not_le.2 (Int.ofNat_lt.2 hlt))])) rfl
    · rw [Nat.mod_eq_sub_mod hge, Nat.mod_eq_of_lt (n_sub hx hd)]
      refine ss_ifT ((c _).trans (by rw [decide_eq_true (Int.ofNat_le.2 hge)])) ?_
      exact ss_asg ((b_sub (x := ((x + d : Nat) : Int)) (y := N) rfl rfl).trans (by rw [← Int.natCast_sub hge])) rfl rfl)
  rw [List.length_range, ← Nat.succ_mul] at e
  exact ⟨v, e⟩
theorem due_while {k : List (List Nat)} {s : Nat} (hs : s < N) (hm : s ∉ met N (S r r.length) s) {v7 : V} : ∃ v6 v7', exS true F (.while (.cmp .notIn (.var 6) (.var 3)) dround) (Ed N w h (.int s) (.ref (h.length + 2 + k.length)) (.int s) v7) (HH h (.list (V.nats (met N (S r r.length) s))) k ++ [.list []]) =
    .ok .next (Ed N w h (.int s) (.ref (h.length + 2 + k.length)) v6 v7') (HH h (.list (V.nats (met N (S r r.length) s ++ cyc N (S r r.length) s))) k ++ [.list (V.nats (row N r s (rl N r)))]) := by
  have Q := pr_spec (T := S r r.length) b.n1
  have ml := met_len (T := S r r.length) b.n1 b.n9 (Nat.le_of_lt hs)
  have tk : ∀ j, j < pr N (S r r.length) → (cyc N (S r r.length) s).take (j + 1) = (cyc N (S r r.length) s).take j ++ [(s + j * S r r.length) % N] := fun j hj => by
    rw [List.take_succ, cyc, List.getElem?_map, List.getElem?_range hj]; rfl
  have a0 : at_ N r s (0 * r.length) = s := by rw [at_round, Nat.zero_mul, Nat.add_zero, Nat.mod_eq_of_lt hs]
  have L := s_whileI (F := F) (h := HH h (.list (V.nats (met N (S r r.length) s))) k ++ [.list []]) (t := .cmp .notIn (.var 6) (.var 3)) (body := dround) (ρ := Ed N w h (.int s) (.ref (h.length + 2 + k.length)) (.int s) v7)
    (fun j ρ g => ∃ v, ρ = Ed N w h (.int s) (.ref (h.length + 2 + k.length)) (.int ((at_ N r s (j * r.length) : Nat) : Int)) v ∧ g = HH h (.list (V.nats (met N (S r r.length) s ++ (cyc N (S r r.length) s).take j))) k ++ [.list (V.nats (row N r s (j * r.length)))]) (pr N (S r r.length)) (lt_turns (Nat.le_trans Q.le (Nat.le_trans b.n9 (by decide)))) ⟨v7, by rw [a0], by rw [List.take_zero, List.append_nil, Nat.zero_mul]; rfl⟩ ?_ ?_
  · obtain ⟨ρ', g', e, v, rfl, rfl⟩ := L
    rw [List.take_of_length_le (Nat.le_of_eq (cyc_len s))] at e
    exact ⟨_, v, e⟩
  · rintro j ρ g hj ⟨v, rfl, rfl⟩
    have no : at_ N r s (j * r.length) ∉ met N (S r r.length) s ++ (cyc N (S r r.length) s).take j := fun hx => by
      rw [at_round] at hx
      rcases List.mem_append.1 hx with hx | hx
      · exact met_new b.n1 hs hm hx
      · obtain ⟨i, hi, e⟩ := List.mem_take_iff_getElem.1 hx
        rw [cyc_len] at hi
        have hij : i < j := Nat.lt_of_lt_of_le hi (Nat.min_le_left _ _)
        unfold cyc at e
        rw [List.getElem_map, List.getElem_range] at e
        exact cyc_ne b.n1 hij hj e
    refine ⟨(notIn_list (x := at_ N r s (j * r.length)) rfl rfl hx1).trans (by rw [decide_eq_false no]; rfl), ?_⟩
    have ll : (met N (S r r.length) s ++ (cyc N (S r r.length) s).take j).length ≤ 1000 := by
      rw [List.length_append, List.length_take]
      exact Nat.le_trans (Nat.add_le_add ml (Nat.le_trans (Nat.min_le_right ..) (by rw [cyc_len]; exact Nat.le_trans Q.le b.n9))) (by decide)
    obtain ⟨v', e⟩ := due_round (F := F) (k := k) (s := s) b hw hj (.list (V.nats (met N (S r r.length) s ++ (cyc N (S r r.length) s).take (j + 1)))) (v7 := v)
    refine ⟨_, _, ss_expr (app_num (d := at_ N r s (j * r.length)) (c := h.length + 1) rfl rfl hx1 ll) ?_, v', rfl, rfl⟩
    rw [hx_set, at_round, List.append_assoc, ← tk j hj, ← at_round]
    exact ss_step e rfl
  · rintro ρ g ⟨v, rfl, rfl⟩
    refine (notIn_list (x := at_ N r s (pr N (S r r.length) * r.length)) rfl rfl hx1).trans ?_
    have e : at_ N r s (pr N (S r r.length) * r.length) = s := by rw [at_round, mod_zero_add Q.ends, Nat.mod_eq_of_lt hs]
    have hx : s ∈ met N (S r r.length) s ++ (cyc N (S r r.length) s).take (pr N (S r r.length)) := by
      rw [List.take_of_length_le (Nat.le_of_eq (cyc_len s))]
      exact List.mem_append_right _ ((mem_cyc b.n1).2 ⟨0, by rw [Nat.zero_mul, Nat.add_zero, Nat.mod_eq_of_lt hs]⟩)
    rw [e, decide_eq_true hx]; rfl
theorem due_step {s : Nat} (hs : s < N) {v5 v6 v7 : V} : ∃ v5' v6' v7', exSs true F douter (Ed N w h (.int s) v5 v6 v7) (HH h (.list (V.nats (met N (S r r.length) s))) (rows N r (chosen N (S r r.length) s))) = .ok .next (Ed N w h (.int s) v5' v6' v7') (HH h (.list (V.nats (met N (S r r.length) (s + 1)))) (rows N r (chosen N (S r r.length) (s + 1)))) := by
  have c := notIn_list (F := F) (h := HH h (.list (V.nats (met N (S r r.length) s))) (rows N r (chosen N (S r r.length) s))) (ρ := Ed N w h (.int s) v5 v6 v7) (i := 4) (j := 3) (x := s) rfl rfl hh1
  rw [met_succ, chosen]
  by_cases hm : s ∈ met N (S r r.length) s
  · rw [decide_eq_true hm] at c
    have hm' : s ∈ (chosen N (S r r.length) s).flatMap (cyc N (S r r.length)) := hm
    rw [if_pos hm, if_pos hm']
    exact ⟨v5, v6, v7, ss_ifF c rfl⟩
  · rw [decide_eq_false hm] at c
    have hm' : ¬ s ∈ (chosen N (S r r.length) s).flatMap (cyc N (S r r.length)) := hm
    rw [if_neg hm, if_neg hm', rows_snoc]
    have kl : (rows N r (chosen N (S r r.length) s)).length ≤ 900 := by rw [rows, List.length_map]; exact Nat.le_trans (chosen_len s) (Nat.le_trans (Nat.le_of_lt hs) (Nat.le_trans b.n9 (by decide)))
    generalize rows N r (chosen N (S r r.length) s) = k at c kl
    obtain ⟨v6', v7', e⟩ := due_while (F := F) (k := k) b hw hs hm (v7 := v7)
    refine ⟨.ref (h.length + 2 + k.length), v6', v7', ss_ifT c ?_⟩
    refine ss_asg (v := .ref (h.length + 2 + k.length)) (h' := HH h (.list (V.nats (met N (S r r.length) s))) k ++ [.list []]) ?_ (ρ' := Ed N w h (.int s) (.ref (h.length + 2 + k.length)) v6 v7) rfl ?_
    · rw [← hh_len (c := .list (V.nats (met N (S r r.length) s)))]; rfl
    · refine ss_asg (v := .int s) rfl rfl (ss_step e (ss_expr ?_ rfl))
      rw [qE_30, v_at (v := .ref h.length) rfl trivial, R.bind_ok, if_pos (lcell_ref hx0), v_at (v := .ref (h.length + 2 + k.length)) rfl trivial, R.bind_ok,
        onList_ref hx0 _ .none (refs (h.length + 2) k.length ++ [.ref (h.length + 2 + k.length)]) rfl (by rw [List.length_append, refs, List.length_map, List.length_range]; exact Nat.le_trans (Nat.succ_le_succ kl) (by decide))]
      have := hh_push (h := h) (c := .list (V.nats (met N (S r r.length) s ++ cyc N (S r r.length) s))) (k := k) (row N r s (rl N r))
      rw [hh_len] at this
      rw [this]
theorem frz_hh : frz h.length (HH h c k) (.ref h.length) = some (.lst (V.lists k)) := by
  show frzAt 4 h.length (HH h c k) h.length = _
  rw [frzAt, if_neg (Nat.lt_irrefl _), hh0]
  show Option.map V.lst (V.mapRefs (frzAt 3 h.length (HH h c k)) (refs (h.length + 2) k.length)) = _
  rw [mapRefs_refs _ _ k fun i hi => frzAt_nats (Nat.le_trans (Nat.le_add_right ..) (Nat.le_add_right ..)) (hh2 (by rw [List.getElem?_eq_getElem hi]))]; rfl
theorem due_run (u : UL_due P) : pcall h (run P (n + 1) true "_law_due" [.int N, w] h) = .ok (.lst (V.lists (rows N r (chosen N (S r r.length) N)))) h := by
  obtain ⟨ρ', g', e, v4, v5, v6, v7, rfl, rfl⟩ := s_forW (F := run P n) (h := h ++ [.list [], .list []]) (x := 4) (it := .range1 (.var 0)) (body := douter) (ρ := Ed N w h .undef .undef .undef .undef) (t := Option.none) (l := List.range N) (c := fun i : Nat => V.int i)
    (fun q ρ g => ∃ v4 v5 v6 v7, ρ = Ed N w h v4 v5 v6 v7 ∧ g = HH h (.list (V.nats (met N (S r r.length) q.length))) (rows N r (chosen N (S r r.length) q.length))) (it_rng (n := N) rfl (Nat.le_trans b.n9 (by decide))) (fun z_ z_ z_ z_ => rfl) ⟨.undef, .undef, .undef, .undef, rfl, rfl⟩ (fun q i q' ρ g hq hi => by
      obtain ⟨v4, v5, v6, v7, rfl, rfl⟩ := hi
      obtain ⟨rfl, hi⟩ := range_at hq
      obtain ⟨v5', v6', v7', e⟩ := due_step (F := run P n) b hw hi (v5 := v5) (v6 := v6) (v7 := v7)
      rw [List.length_append, List.length_singleton]
      exact ⟨_, _, e, _, _, _, _, rfl, rfl⟩)
  rw [List.length_range] at e
  have fin := o_step e (ss := [.ret (.var 2)]) (o_ret (v := .ref h.length) rfl)
  have : run P (n + 1) true "_law_due" [.int N, w] h = .ok (.ref h.length) (HH h (.list (V.nats (met N (S r r.length) N))) (rows N r (chosen N (S r r.length) N))) := by
    refine start u.self rfl (ρ := [.int N, w, .undef, .undef, .undef, .undef, .undef, .undef]) rfl ?_
    refine o_asg (v := .ref h.length) (h' := h ++ [.list []]) rfl (ρ' := [.int N, w, .ref h.length, .undef, .undef, .undef, .undef, .undef]) rfl ?_
    refine o_asg (v := .ref (h.length + 1)) (h' := h ++ [Cell.list [], Cell.list []]) ?_ (ρ' := Ed N w h .undef .undef .undef .undef) rfl fin
    show R.ok (V.ref (h ++ [Cell.list []]).length) (h ++ [Cell.list []] ++ [Cell.list []]) = _
    rw [List.length_append, List.append_assoc]; rfl
  rw [this]
  exact pcall_new _ _ (frz_hh b hw)
end
end
end L06
namespace L06
section
theorem sortVs_lists (h : H) (ts : List (List Nat)) (h0 : 0 < ts.length) (h64 : ts.length ≤ 1000) : sortVs h (V.lists ts) = some ((isort (fun a b => lexLt a.1 b.1) (ts.map fun t => ((zi t, .lst (V.nats t)) : List Int × V))).map (·.2)) := by
  have e1 : keyed keyI (V.lists ts) = none := by
    cases ts with
    | nil => exact absurd h0 (Nat.lt_irrefl _)
    | cons t ts => rfl
  have e2 : keyed (keyL h) (V.lists ts) = some (ts.map fun t => (zi t, .lst (V.nats t))) := keyed_map (f := keyL h) (fun t : List Nat => V.lst (V.nats t)) zi ts fun t z_ => asInts_nats t
  unfold sortVs
  rw [e1, e2]
  show sortBy lexLt _ = _
  unfold sortBy
  rw [if_pos]
  rw [Bool.and_eq_true]
  refine ⟨by simpa using h64, ?_⟩
  rw [List.all_eq_true]
  intro p hp
  rw [List.all_eq_true]
  intro q hq
  obtain ⟨a, _, rfl⟩ := List.mem_map.1 hp
  obtain ⟨b, _, rfl⟩ := List.mem_map.1 hq
  exact decide_eq_true fun e => by rw [zi_inj e]
theorem sorted_eq {α : Type} {le : α → α → Prop} : ∀ {a b : List α}, a.Perm b → a.Pairwise le → b.Pairwise le → (∀ x ∈ a, ∀ y ∈ a, le x y → le y x → x = y) → a = b
  | [], b, p, _, _, _ => (List.nil_perm.1 p).symm
  | x :: a, [], p, _, _, _ => absurd p.length_eq (by simp)
  | x :: a, y :: b, p, ha, hb, anti => by
    have hx : x ∈ y :: b := p.mem_iff.1 (List.mem_cons_self ..)
    have hy : y ∈ x :: a := p.mem_iff.2 (List.mem_cons_self ..)
    have e : x = y := by
      rcases List.mem_cons.1 hx with e | hx'
      · exact e
      · rcases List.mem_cons.1 hy with e | hy'
        · exact e.symm
        · exact anti x (List.mem_cons_self ..) y hy ((List.pairwise_cons.1 ha).1 y hy') ((List.pairwise_cons.1 hb).1 x hx')
    subst e
    rw [sorted_eq (List.perm_cons x |>.1 p) (List.pairwise_cons.1 ha).2 (List.pairwise_cons.1 hb).2 fun u hu v hv => anti u (List.mem_cons_of_mem _ hu) v (List.mem_cons_of_mem _ hv)]
theorem sort_perm (h : H) (p : A.Perm B) (h0 : 0 < A.length) (h64 : A.length ≤ 1000) : ∃ S, sortVs h (V.lists A) = some S ∧ sortVs h (V.lists B) = some S ∧ (∀ v ∈ S, ∃ l : List Nat, v = .lst (V.nats l)) := by
  have hp : ∀ ts : List (List Nat), (isort (fun a b : List Int × V => lexLt a.1 b.1) (ts.map fun t => (zi t, V.lst (V.nats t)))).Perm (ts.map fun t => (zi t, V.lst (V.nats t))) := fun ts => isort_perm _
  have hu : ∀ ts : List (List Nat), (isort (fun a b : List Int × V => lexLt a.1 b.1) (ts.map fun t => (zi t, V.lst (V.nats t)))).Pairwise fun a b => lexLt b.1 a.1 = false := fun ts => isort_up (lt := fun a b : List Int × V => lexLt a.1 b.1) (le := fun a b => lexLt b.1 a.1 = false) (fun a b e => ord_lex.asymm e) (fun a b e => e) (fun a b c e1 e2 => ord_lex.le_tr e1 e2) _
  have e := sorted_eq ((hp A).trans ((p.map _).trans (hp B).symm)) (hu A) (hu B) (fun x hx y hy h1 h2 => by
    obtain ⟨a, _, rfl⟩ := List.mem_map.1 ((hp A).mem_iff.1 hx)
    obtain ⟨b, _, rfl⟩ := List.mem_map.1 ((hp A).mem_iff.1 hy)
    rw [zi_inj (lex_tot _ _ h2 h1)])
  refine ⟨_, sortVs_lists h A h0 h64, ?_, fun v hv => ?_⟩
  · rw [sortVs_lists h B (by rw [← p.length_eq]; exact h0) (by rw [← p.length_eq]; exact h64), e]
  · obtain ⟨x, hx, rfl⟩ := List.mem_map.1 hv
    obtain ⟨t, _, rfl⟩ := List.mem_map.1 ((hp A).mem_iff.1 hx)
    exact ⟨t, rfl⟩
theorem all_lists : ∀ {S : List V}, (∀ v ∈ S, ∃ l : List Nat, v = .lst (V.nats l)) → ∃ L, S = V.lists L
  | [], _ => ⟨[], rfl⟩
  | v :: S, h => by
    obtain ⟨l, rfl⟩ := h v (List.mem_cons_self ..)
    obtain ⟨L, rfl⟩ := all_lists fun v hv => h v (List.mem_cons_of_mem _ hv)
    exact ⟨l :: L, rfl⟩
end
end L06
namespace L06
section
variable {P : Tab} {n : Nat} {h : H} {F : Fn}
theorem n_step {a b N : Nat} (h : b < N) : (a : Int) - (b : Int) + (N : Int) = ((a + N - b : Nat) : Int) := by omega
theorem isl_list {v : V} {vs : List V} {ρ : List V} {i : Nat} (ei : ρ[i]? = some v) (hl : litems h v = some vs) : evE true F ρ (.not (.isinst (.var i) [.list])) h = .ok (.bool false) h := by
  rw [qE_9, qE_21, v_at ei (okV_of hl).val, R.bind_ok]
  rcases litems_cases hl with rfl | ⟨j, rfl, hc⟩
  · rfl
  · rw [isTys_one, isTy_ref_list h j _ hc]; rfl
theorem or2 {ρ : List V} {a b : PE} (ea : evE true F ρ a h = .ok (.bool false) h) (eb : evE true F ρ b h = .ok (.bool false) h) : evE true F ρ (.or [a, b]) h = .ok (.bool false) h := by
  rw [qE_11, qR_3, ea, R.bind_ok]; exact eb
theorem bools_nil {ρ : List V} {v : V} {x : List Nat} (e2 : ρ[2]? = some v) (hv : IsL h v x) (hr : 3 < ρ.length) : evE true F ρ (.cmp .ne (.comp (.var 3) 3 (.seq (.var 2)) (some (.isinst (.var 3) [.bool]))) (.list [])) h = .ok (.bool false) h := by
  obtain ⟨t, ht, hto⟩ := iter_of hv
  have hit : evIt true F ρ (.seq (.var 2)) h = .ok ((V.nats x).map id, t) h := by rw [qI_1, v_at e2 hv.val, R.bind_ok, ht, List.map_id]; rfl
  refine e_ne (t := true) (v := .lst (V.nats [])) (w := .lst (V.nats [])) ?_ rfl (by rw [pyEq_L (IsL.lst h []) (IsL.lst h []), decide_eq_true rfl])
  refine ev_compF (r := .lst []) hit hto (fun x => x) (fun z_ => false) (fun y hm => ?_) (fun x z_ e => by cases e) (by rw [List.filter_eq_nil_iff.2 (fun z_ z_ e => by cases e)]; rfl)
  obtain ⟨d, _, rfl⟩ := nats_val hm
  show evE true F (ρ.set 3 (.int d)) _ h = _
  rw [qE_21, v_at (v := .int d) (List.getElem?_set_self hr) trivial]; rfl
theorem right_run (u : UL_right P) {told : V} {vs : List V} {k : List (List Nat)} (hl : litems h told = some vs) (hv : ∀ v ∈ vs, ∃ x, IsL h v x) (hf : frz 0 h told = some (.lst (V.lists k))) : pcall h (run P (n + 1) true "_law_right" [told, .lst (V.lists k)] h) = .ok (.bool true) h := by
  have go : run P (n + 1) true "_law_right" [told, .lst (V.lists k)] h = .ok (.bool true) h := by
    refine start u.self rfl (ρ := [told, .lst (V.lists k), .undef, .undef]) rfl ?_
    refine o_ifF (or2 (isl_list (v := told) rfl hl) (e_ne (t := true) (v_at (v := told) rfl (okV_of hl).val) (v_at (v := .lst (V.lists k)) rfl trivial) (by rw [pyEq_LL hf (frz_plain 0 h _ (lists_plain _)), decide_eq_true rfl]))) ?_
    obtain ⟨t, ht, hto⟩ := iter_of hl
    obtain ⟨ρ', g', e, v, rfl, rfl⟩ := s_forW (F := run P n) (h := h) (x := 2) (it := .seq (.var 0)) (body := [
      .ifs (.or [.not (.isinst (.var 2) [.list]), .cmp .ne (.comp (.var 3) 3 (.seq (.var 2)) (some (.isinst (.var 3) [.bool]))) (.list [])]) [
        .ret (.bool false)] []]) (ρ := [told, .lst (V.lists k), .undef, .undef]) (l := vs) (c := id) (t := t) (fun q ρ g => ∃ v, ρ = [told, .lst (V.lists k), v, .undef] ∧ g = h) (by rw [qI_1, v_at (v := told) rfl (okV_of hl).val, R.bind_ok, ht, List.map_id]; rfl) (fun z_ z_ g hi => by obtain ⟨_, _, rfl⟩ := hi; exact hto) ⟨_, rfl, rfl⟩ (fun q a q' ρ g hq hi => by
        obtain ⟨v, rfl, rfl⟩ := hi
        obtain ⟨x, hx⟩ := hv a (by rw [hq]; exact List.mem_append_right _ (List.mem_cons_self ..))
        exact ⟨_, _, ss_ifF (or2 (isl_list (v := a) rfl hx) (bools_nil (v := a) rfl hx (show 3 < 4 by decide))) rfl, a, rfl, rfl⟩)
    exact o_step e (o_ret rfl)
  rw [go]; exact pcall_ok rfl h
theorem steps_run (u : UL_steps P) {N : Nat} {r : List Nat} (b : RB N r) {a z p : Nat} (hz : z ≤ 8) : pcall h (run P (n + 1) true "_law_steps" [.lst (V.nats (rd (row N r a (rl N r)) (z + 1) p)), .int N] h) = .ok (.lst (V.nats (rd r z p))) h := by
  have pos : 0 < rl N r := Nat.mul_pos (pr_spec b.n1).pos b.r1
  have go : run P (n + 1) true "_law_steps" [.lst (V.nats (rd (row N r a (rl N r)) (z + 1) p)), .int N] h = .ok (.lst (V.nats (rd r z p))) h := by
    refine start u.self rfl (ρ := [.lst (V.nats (rd (row N r a (rl N r)) (z + 1) p)), .int N, .undef]) rfl (o_ret ?_)
    have at' : ∀ t, t < z + 1 → (rd (row N r a (rl N r)) (z + 1) p)[t]? = some (at_ N r a (p + t)) := fun t ht => by
      have hm : (p + t) % (row N r a (rl N r)).length < rl N r := by rw [row_len]; exact Nat.mod_lt _ pos
      unfold rd
      rw [List.getElem?_map, List.getElem?_range ht]
      show some ((row N r a (rl N r)).getD ((p + t) % (row N r a (rl N r)).length) 0) = _
      rw [List.getD_eq_getElem?_getD, row, List.getElem?_map, List.length_map, List.length_range, List.getElem?_range (Nat.mod_lt _ pos)]
      exact congrArg some (at_mod b.n1 a (p + t))
    have hlen : evE true (run P n) [.lst (V.nats (rd (row N r a (rl N r)) (z + 1) p)), .int N, .undef] (.bin .sub (.bf .len (.var 0)) (.int 1)) h = .ok (.int z) h :=
      (b_sub (x := ((z + 1 : Nat) : Int)) (y := 1) (by rw [len_var (w := .lst (V.nats (rd (row N r a (rl N r)) (z + 1) p))) rfl rfl, nats_length, rd_len]) rfl).trans (by rw [Int.natCast_add]; exact congrArg (fun x => R.ok (V.int x) h) (Int.add_sub_cancel _ _))
    refine ev_comp (c := fun i : Nat => V.int i) (it_rng (n := z) hlen (Nat.le_trans hz (by decide))) rfl (fun t => .int ((r.getD ((p + t) % r.length) 0 : Nat) : Int)) (fun t ht => ?_) (by rw [mkL_eq (by rw [List.length_map, List.length_range]; exact Nat.le_trans hz (by decide)), rd, V.nats, List.map_map]; rfl)
    have ht := List.mem_range.1 ht
    show evE true (run P n) [.lst (V.nats (rd (row N r a (rl N r)) (z + 1) p)), .int N, .int t] _ h = _
    have i1 : evE true (run P n) [.lst (V.nats (rd (row N r a (rl N r)) (z + 1) p)), .int N, .int t] (.idx (.var 0) (.bin .add (.var 2) (.int 1))) h = .ok (.int ((at_ N r a (p + t + 1) : Nat) : Int)) h := by
      rw [qE_18, v_at (v := .lst (V.nats (rd (row N r a (rl N r)) (z + 1) p))) rfl trivial, R.bind_ok, b_add (x := t) (y := 1) rfl rfl, R.bind_ok, show ((t : Int) + 1) = ((t + 1 : Nat) : Int) from rfl, IsL.idx (IsL.lst h _) (at' (t + 1) (Nat.succ_lt_succ ht))]; rfl
    have i2 : evE true (run P n) [.lst (V.nats (rd (row N r a (rl N r)) (z + 1) p)), .int N, .int t] (.idx (.var 0) (.var 2)) h = .ok (.int ((at_ N r a (p + t) : Nat) : Int)) h := by
      rw [qE_18, v_at (v := .lst (V.nats (rd (row N r a (rl N r)) (z + 1) p))) rfl trivial, R.bind_ok, v_at (v := .int t) rfl trivial, R.bind_ok, IsL.idx (IsL.lst h _) (at' t (Nat.lt_succ_of_lt ht))]; rfl
    refine (b_mod (y := N) (b_add (y := N) (b_sub i1 i2) rfl) rfl (Int.natCast_ne_zero.2 (Nat.ne_of_gt b.n1))).trans ?_
    have hx : at_ N r a (p + t) < N := Nat.mod_lt _ b.n1
    have e := n_step (a := at_ N r a (p + t + 1)) hx
    rw [e, fmod_nat, at_step b.dig b.r1]
  rw [go]; exact pcall_ok (nats_plain _) h
theorem rd_round (r : List Nat) (z j i : Nat) : rd r z (j * r.length + i) = rd r z i := by
  unfold rd
  refine List.map_congr_left fun t z_ => ?_
  rw [Nat.add_assoc, Nat.add_comm, Nat.add_mul_mod_self_right]
theorem range_round {α : Type} {f : Nat → α} (hf : ∀ j i, f (j * m + i) = f i) : ∀ p, (List.range (p * m)).map f = (List.replicate p ((List.range m).map f)).flatten
  | 0 => by rw [Nat.zero_mul]; rfl
  | p + 1 => by
    rw [Nat.succ_mul, List.range_add, List.map_append, range_round hf p, List.replicate_succ', List.flatten_append, List.map_map]
    congr 1
    rw [List.flatten_cons, List.flatten_nil, List.append_nil]
    exact List.map_congr_left fun i z_ => hf p i
theorem lists_rep (k : List (List Nat)) : ∀ p, V.lists (List.replicate p k).flatten = (List.replicate p (V.lists k)).flatten
  | 0 => rfl
  | p + 1 => by
    rw [List.replicate_succ, List.replicate_succ, List.flatten_cons, List.flatten_cons, ← lists_rep k p]
    unfold V.lists
    rw [List.map_append]
theorem rep_add {α : Type} (l : List α) (a b : Nat) : (List.replicate a l).flatten ++ (List.replicate b l).flatten = (List.replicate (a + b) l).flatten := by
  rw [← List.replicate_append_replicate, List.flatten_append]
end
end L06
namespace L06
section
variable {P : Tab} {n : Nat} {h : H} {F : Fn}
theorem n_pred (N : Int) : ¬ N ≤ N - 1 := by omega
theorem eqT (h : H) (c : Int) : pyEq h (.tup [.int c]) (.tup [.int c]) = some true := by
  rw [pyEq_plain h rfl rfl rfl rfl, peq_tup, peqs_cons, peq_int, beq_self_eq_true]; rfl
theorem b_base (b m : Nat) (hm : 0 < m) (ee : evE true F ρ e h = .ok (.int x) h) : ∃ j : Nat, j < m ∧ evE true F ρ (.bin .add (.int b) (.bin .mod e (.int m))) h = .ok (.int ((b + j : Nat) : Int)) h := by
  obtain ⟨e3, h3⟩ := mod_nat x m hm
  refine ⟨_, h3, (b_add (x := b) rfl (b_mod (y := m) ee rfl (Int.natCast_ne_zero.2 (Nat.ne_of_gt hm)))).trans ?_⟩
  rw [Int.natCast_add, ← e3]
noncomputable abbrev El (s : List Int) (v1 v2 v3 v4 v5 v6 v7 v8 v9 v10 v11 v12 v13 v14 v15 v16 v17 : V) : List V := [V.ints s, v1, v2, v3, v4, v5, v6, v7, v8, v9, v10, v11, v12, v13, v14, v15, v16, v17, .undef]
noncomputable abbrev E7 (s : List Int) (c N m k mo o : V) : List V := El s c N m (.ref 0) k mo o .undef .undef .undef .undef .undef .undef .undef .undef .undef .undef
theorem ring_loop (u : UL_law P) (s : List Int) (c : V) {N m : Nat} (h1 : 1 ≤ N) (hm : m ≤ 60) : ∃ (r : List Nat) (k mo : V), (r.length = m ∧ ∀ d ∈ r, d < N) ∧
    exS true (run P (n + 5)) (.for1 5 (.range1 (.var 3)) [
    .asg 6 (.bin .mod (.bin .mul (.bin .add (.call false "_law_cell_at" [.var 0, .bin .add (.int 4) (.bin .mod (.var 5) (.int 12))]) (.bin .mul (.int 7919) (.bin .fdiv (.var 5) (.int 12)))) (.int 48271)) (.int 2147483647)),
    .expr (.append (.var 4) (.bin .mod (.bin .fdiv (.var 6) (.int 9)) (.var 2)))]) (E7 s c (.int N) (.int m) .undef .undef .undef) [.list []] = .ok .next (E7 s c (.int N) (.int m) k mo .undef) [.list (V.nats r)] := by
  obtain ⟨ρ', g', e, l, k, mo, rfl, rfl, hl, hd⟩ := s_forW (F := run P (n + 5)) (h := [.list []]) (x := 5) (it := .range1 (.var 3)) (body := [
    .asg 6 (.bin .mod (.bin .mul (.bin .add (.call false "_law_cell_at" [.var 0, .bin .add (.int 4) (.bin .mod (.var 5) (.int 12))]) (.bin .mul (.int 7919) (.bin .fdiv (.var 5) (.int 12)))) (.int 48271)) (.int 2147483647)),
    .expr (.append (.var 4) (.bin .mod (.bin .fdiv (.var 6) (.int 9)) (.var 2)))]) (ρ := E7 s c (.int N) (.int m) .undef .undef .undef) (t := Option.none) (l := List.range m) (c := fun i : Nat => V.int i)
    (fun q ρ g => ∃ (l : List Nat) (k mo : V), ρ = E7 s c (.int N) (.int m) k mo .undef ∧ g = [.list (V.nats l)] ∧ l.length = q.length ∧ ∀ d ∈ l, d < N)
    (it_rng (n := m) rfl (Nat.le_trans hm (by decide))) (fun z_ z_ z_ z_ => rfl) ⟨[], _, _, rfl, rfl, rfl, all_nil⟩ (fun q i q' ρ g hq hi => by
      obtain ⟨l, a, b, rfl, rfl, hl, hd⟩ := hi
      obtain ⟨ei, hi⟩ := range_at hq
      have hql : q.length ≤ 60 := Nat.le_trans (Nat.le_of_lt hi) hm
      have i12 : evE true (run P (n + 5)) (E7 s c (.int N) (.int m) (.int i) b .undef) (.bin .fdiv (.var 5) (.int 12)) [.list (V.nats l)] = .ok (.int ((i / 12 : Nat) : Int)) [.list (V.nats l)] := (b_fdiv (x := i) (y := 12) rfl rfl (by decide)).trans (by rw [← fdiv_nat]; rfl)
      have m12 : evE true (run P (n + 5)) (E7 s c (.int N) (.int m) (.int i) b .undef) (.bin .add (.int 4) (.bin .mod (.var 5) (.int 12))) [.list (V.nats l)] = .ok (.int ((4 + i % 12 : Nat) : Int)) [.list (V.nats l)] := (b_add (x := 4) rfl (b_mod (x := i) (y := 12) rfl rfl (by decide))).trans (by rw [Int.natCast_add, ← fmod_nat]; rfl)
      have small : ((i / 12 : Nat) : Int).natAbs < 9223372036854775808 := Nat.lt_of_le_of_lt (Nat.le_trans (Nat.div_le_self i 12) (by rw [ei]; exact hql)) (by decide)
      have m1 := b_mod (y := 2147483647) (b_mul (y := 48271) (b_add (call_2 (v_at (i := 0) (v := V.ints s) rfl trivial) m12 (cell_p (n := n + 4) u.l_cell_at s (4 + i % 12))) (b_mul (a := .int 7919) (x := 7919) rfl i12 small)) (b := .int 48271) rfl (by decide)) (b := .int 2147483647) rfl (by decide)
      generalize ((cellAt s (4 + i % 12) + 7919 * ((i / 12 : Nat) : Int)) * 48271).fmod 2147483647 = mo at m1
      obtain ⟨e1, l1⟩ := mod_nat (mo.fdiv 9) N h1
      generalize ((mo.fdiv 9).fmod (N : Int)).toNat = d at e1 l1
      have m2 : evE true (run P (n + 5)) (E7 s c (.int N) (.int m) (.int i) (.int mo) .undef) (.bin .mod (.bin .fdiv (.var 6) (.int 9)) (.var 2)) [.list (V.nats l)] = .ok (.int d) [.list (V.nats l)] := (b_mod (y := N) (b_fdiv (x := mo) (y := 9) rfl rfl (by decide)) rfl (Int.natCast_ne_zero.2 (Nat.ne_of_gt h1))).trans (by rw [e1])
      refine ⟨_, [.list (V.nats (l ++ [d]))], ss_asg m1 rfl (ss_expr (h' := [.list (V.nats (l ++ [d]))]) ?_ rfl), l ++ [d], .int i, .int mo, rfl, rfl, by rw [List.length_append, List.length_append, hl]; rfl, fun x hx => ?_⟩
      · show evE true (run P (n + 5)) (E7 s c (.int N) (.int m) (.int i) (.int mo) .undef) _ _ = _
        rw [qE_30, v_at (v := .ref 0) rfl trivial, R.bind_ok, if_pos (show lcell [.list (V.nats l)] (.ref 0) = true from rfl), m2, R.bind_ok, onList_ref (h := [.list (V.nats l)]) (i := 0) (vs := V.nats l) rfl _ .none (V.nats (l ++ [d])) (by rw [nats_append]; rfl) (by rw [nats_length, List.length_append, hl]; exact Nat.le_trans (Nat.succ_le_succ hql) (by decide))]; rfl
      · rcases List.mem_append.1 hx with hx | hx
        · exact hd x hx
        · rw [List.mem_singleton.1 hx]; exact l1)
  rw [List.length_range] at hl
  exact ⟨l, k, mo, ⟨hl, hd⟩, e⟩
theorem law_start (u : UL_law P) (s : List Int) : ∃ (c k mo : V) (N m : Nat) (r : List Nat), (1 ≤ N ∧ N ≤ 9) ∧ (1 ≤ m ∧ m ≤ 60) ∧ (r.length = m ∧ ∀ d ∈ r, d < N) ∧
    ∀ res, (exSs true (run P (n + 5)) (L_law.body.drop 7) (E7 s c (.int N) (.int m) k mo (.int (cellAt s 1))) [.list (V.nats r)]).out = res → run P (n + 6) true "law" [V.ints s] [] = res := by
  have cel := fun (ρ : List V) (g : H) (j : Nat) (e0 : ρ[0]? = some (V.ints s)) => call_2 (q := true) (F := run P (n + 5)) (h := g) (ρ := ρ) (a := .var 0) (b := .int j) (v_at e0 trivial) rfl (cell_p (n := n + 4) u.l_cell_at s j)
  have c0 := cel (El s .undef .undef .undef .undef .undef .undef .undef .undef .undef .undef .undef .undef .undef .undef .undef .undef .undef) [] 0 rfl
  generalize cellAt s 0 = c at c0
  obtain ⟨j1, g1, q1⟩ := b_base (F := run P (n + 5)) (h := []) (ρ := El s (.int c) .undef .undef .undef .undef .undef .undef .undef .undef .undef .undef .undef .undef .undef .undef .undef .undef) (e := .var 1) (x := c) 1 9 (by decide) rfl
  obtain ⟨j2, g2, q2⟩ := b_base (F := run P (n + 5)) (h := []) (ρ := El s (.int c) (.int ((1 + j1 : Nat) : Int)) .undef .undef .undef .undef .undef .undef .undef .undef .undef .undef .undef .undef .undef .undef .undef) (e := .bin .fdiv (.var 1) (.int 9)) 1 8 (by decide) (b_fdiv (x := c) (y := 9) rfl rfl (by decide))
  have N1 : 1 ≤ 1 + j1 := Nat.le_add_right 1 _
  have N9 : 1 + j1 ≤ 9 := by rw [Nat.add_comm]; exact g1
  generalize 1 + j1 = N at q1 q2 N1 N9
  have go : ∃ m : Nat, (1 ≤ m ∧ m ≤ 60) ∧ ∀ res, (exSs true (run P (n + 5)) (L_law.body.drop 4) (El s (.int c) (.int N) (.int m) .undef .undef .undef .undef .undef .undef .undef .undef .undef .undef .undef .undef .undef .undef) []).out = res → run P (n + 6) true "law" [V.ints s] [] = res := by
    have go : ∀ res, (exSs true (run P (n + 5)) (L_law.body.drop 3) (El s (.int c) (.int N) (.int ((1 + j2 : Nat) : Int)) .undef .undef .undef .undef .undef .undef .undef .undef .undef .undef .undef .undef .undef .undef) []).out = res → run P (n + 6) true "law" [V.ints s] [] = res := fun res hres =>
      start u.self rfl rfl (o_asg c0 rfl (o_asg q1 rfl (o_asg q2 rfl hres)))
    have t : evE true (run P (n + 5)) (El s (.int c) (.int N) (.int ((1 + j2 : Nat) : Int)) .undef .undef .undef .undef .undef .undef .undef .undef .undef .undef .undef .undef .undef .undef) (.cmp .eq (.bin .mod (.bin .fdiv (.var 1) (.int 72)) (.int 9)) (.int 1)) [] = .ok (.bool (decide ((c.fdiv 72).fmod 9 = 1))) [] := c_eqI (b_mod (y := 9) (b_fdiv (x := c) (y := 72) rfl rfl (by decide)) rfl (by decide)) rfl
    by_cases hc : (c.fdiv 72).fmod 9 = 1
    · rw [decide_eq_true hc] at t
      obtain ⟨j3, g3, q3⟩ := b_base (F := run P (n + 5)) (h := []) (ρ := El s (.int c) (.int N) (.int ((1 + j2 : Nat) : Int)) .undef .undef .undef .undef .undef .undef .undef .undef .undef .undef .undef .undef .undef .undef) (e := .bin .fdiv (.var 1) (.int 648)) 1 60 (by decide) (b_fdiv (x := c) (y := 648) rfl rfl (by decide))
      exact ⟨1 + j3, ⟨Nat.le_add_right 1 _, by rw [Nat.add_comm]; exact g3⟩, fun res hres => go res (o_ifT t (o_asg q3 rfl hres))⟩
    · rw [decide_eq_false hc] at t
      exact ⟨1 + j2, ⟨Nat.le_add_right 1 _, Nat.le_trans (by rw [Nat.add_comm]; exact g2) (by decide)⟩, fun res hres => go res (o_ifF t hres)⟩
  obtain ⟨m, ⟨m1, m60⟩, go⟩ := go
  obtain ⟨r, k, mo, hr, e⟩ := ring_loop (n := n) u s (.int c) (N := N) N1 m60
  refine ⟨.int c, k, mo, N, m, r, ⟨N1, N9⟩, ⟨m1, m60⟩, hr, fun res hres => go res ?_⟩
  refine o_asg (v := .ref 0) (h' := [.list []]) rfl (ρ' := E7 s (.int c) (.int N) (.int m) .undef .undef .undef) rfl (o_step e ?_)
  exact o_asg (cel _ _ 1 rfl) rfl hres
structure BadW (N : Nat) (v : V) : Prop where
  vl : v.val
  no : ∀ {P : Tab} (n : Nat) (h : H), U_lifted P → run P (n + 3) true "lifted" [.int N, v] h = .err "BadRing" h
theorem bad_ring {N : Nat} (h1 : 1 ≤ N) (h9 : N ≤ 9) {v : V} (hc : clean v) (hb : ∀ g, ringB N g v = false) : BadW N v := ⟨hc.2.1, fun n h u => by rw [lifted_go u h1 h9 ⟨hc.okV h, hc.items h⟩ rfl, hb h]; rfl⟩
theorem bad_long (h1 : 1 ≤ N) (h9 : N ≤ 9) (hl : 256 < l.length * N) : BadW N (.lst (V.nats l)) := ⟨trivial, fun n h u => lifted_long (IsL.lst h l) u h1 h9 hl⟩
theorem bad_no {N : Nat} (h1 : 1 ≤ N) (h9 : N ≤ 9) {v : V} (hp : v.plain = true) (hv : v.val) (hn : ∀ us, v ≠ .lst us) : BadW N v := bad_ring h1 h9 (clean_flat hp hv hn) fun g => by unfold ringB; rw [plain_litems hp hn g]
theorem bad_nil {N : Nat} (h1 : 1 ≤ N) (h9 : N ≤ 9) : BadW N (.lst (V.nats [])) := bad_ring h1 h9 (clean_nats []) fun g => rfl
def badO (N : Nat) (v : V) : Prop := v.plain = true ∧ v.val ∧ among v 0 ((N : Int) - 1) = false
theorem bad_mid {N : Nat} (h1 : 1 ≤ N) (h9 : N ≤ 9) {a b : List Nat} {o : V} (ho : badO N o) : BadW N (.lst (V.nats a ++ [o] ++ V.nats b)) := by
  have each : ∀ v ∈ V.nats a ++ [o] ++ V.nats b, v.plain = true ∧ v.val := by
    intro v hv
    simp only [List.mem_append, List.mem_singleton] at hv
    rcases hv with (hv | rfl) | hv
    · obtain ⟨d, _, rfl⟩ := nats_val hv; exact ⟨rfl, trivial⟩
    · exact ⟨ho.1, ho.2.1⟩
    · obtain ⟨d, _, rfl⟩ := nats_val hv; exact ⟨rfl, trivial⟩
  refine bad_ring h1 h9 ⟨plains_of fun v hv => (each v hv).1, trivial, fun vs e v hv => by cases e; exact (each v hv).2⟩ fun g => ?_
  show ringy N _ = false
  unfold ringy
  have : (V.nats a ++ [o] ++ V.nats b).all (fun v => among v 0 ((N : Int) - 1)) = false := by
    rw [List.all_eq_false]; exact ⟨o, by simp, by rw [ho.2.2]; exact Bool.false_ne_true⟩
  rw [this, Bool.and_false]
theorem zeros (m : Nat) : (List.replicate m [V.int 0]).flatten = V.nats (List.replicate m 0) := by
  induction m with
  | zero => rfl
  | succ m ih => rw [List.replicate_succ, List.replicate_succ, List.flatten_cons, ih]; rfl
theorem sl_to {ρ : List V} {a e : PE} {v : V} {l : List Nat} {p : Nat} (ea : evE true F ρ a h = .ok v h) (hl : IsL h v l) (ee : evE true F ρ e h = .ok (.int p) h) : evE true F ρ (.slice a .none (some e)) h = .ok (.lst (V.nats (l.take p))) h := by
  rw [qE_19, ea, R.bind_ok, qO_1, R.bind_ok, qO_2, ee, R.bind_ok, R.bind_ok, slice_to hl p, nats_take]; rfl
theorem sl_from {ρ : List V} {a e : PE} {v : V} {l : List Nat} {p : Nat} (ea : evE true F ρ a h = .ok v h) (hl : IsL h v l) (ee : evE true F ρ e h = .ok (.int p) h) : evE true F ρ (.slice a (some e) .none) h = .ok (.lst (V.nats (l.drop p))) h := by
  rw [qE_19, ea, R.bind_ok, qO_2, ee, R.bind_ok, R.bind_ok, qO_1, R.bind_ok, slice_from hl p, nats_drop]; rfl
section
variable (u : UL_law P) (s : List Int) (c k mo : V) {N m : Nat} {r : List Nat} (N1 : 1 ≤ N) (N9 : N ≤ 9) (m60 : r.length ≤ 60)
include u N1 N9 m60
set_option maxHeartbeats 4000000 in
theorem law_odd (o1 : (cellAt s 1).fmod 6 = 1) : (exSs true (run P (n + 5)) (L_law.body.drop 7) (E7 s c (.int N) (.int m) k mo (.int (cellAt s 1))) [.list (V.nats r)]).out = .ok (.bool true) [.list (V.nats r)] := by
  generalize cellAt s 1 = o at o1
  generalize hh : [Cell.list (V.nats r)] = g
  have g0 : IsL g (.ref 0) r := IsL.ref (by rw [← hh]; rfl)
  have cm : ∀ {ρ : List V} (d m : Nat), 0 < d → 0 < m → ρ[7]? = some (.int o) → evE true (run P (n + 5)) ρ (.bin .mod (.bin .fdiv (.var 7) (.int d)) (.int m)) g = .ok (.int ((o.fdiv d).fmod m)) g := fun d m hd hm e => b_mod (b_fdiv (v_at e trivial) rfl (Int.natCast_ne_zero.2 (Nat.ne_of_gt hd))) rfl (Int.natCast_ne_zero.2 (Nat.ne_of_gt hm))
  refine o_ifT (h' := g) ((c_eqI (y := 1) (b_mod (x := o) (y := 6) rfl rfl (by decide)) rfl).trans (by rw [decide_eq_true o1])) ?_
  have t := (c_eqI (y := 0) (cm (ρ := E7 s c (.int N) (.int m) k mo (.int o)) 6 2 (by decide) (by decide) rfl) (b := .int 0) rfl)
  by_cases c2 : (o.fdiv ((6 : Nat) : Int)).fmod ((2 : Nat) : Int) = 0
  · rw [decide_eq_true c2] at t
    refine o_ifT t (o_ret ?_)
    obtain ⟨z, z1, z2⟩ := pick (F := run P (n + 5)) (h := g) (ρ := E7 s c (.int N) (.int m) k mo (.int o)) (es := [.int 0, .int 10, .bool true, .str "1", .none, .neg 1]) (i := .bin .mod (.bin .fdiv (.var 7) (.int 12)) (.int 6)) (m := 6) (c := o.fdiv 12) (fun v => okV g v ∧ among v 1 9 = false) (by decide) rfl
      (es_cons rfl (es_cons rfl (es_cons rfl (es_cons rfl (es_cons rfl (es_cons rfl rfl)))))) (cm 12 6 (by decide) (by decide) rfl)
      (all_cons ⟨trivial, rfl⟩ (all_cons ⟨trivial, rfl⟩ (all_cons ⟨trivial, rfl⟩ (all_cons ⟨trivial, rfl⟩ (all_cons ⟨trivial, rfl⟩ (all_cons ⟨trivial, rfl⟩ all_nil)))))) (show 6 ≤ 1000000 by decide)
    obtain ⟨w, w1, w2⟩ := pick (F := run P (n + 5)) (h := g) (ρ := E7 s c (.int N) (.int m) k mo (.int o)) (es := [.list [], .var 4]) (i := .bin .mod (.bin .fdiv (.var 7) (.int 72)) (.int 2)) (m := 2) (c := o.fdiv 72) (fun v => v.val) (by decide) rfl
      (es_cons (v := .lst []) rfl (es_cons (v := .ref 0) rfl rfl)) (cm 72 2 (by decide) (by decide) rfl) (all_cons trivial (all_cons trivial all_nil)) (show 2 ≤ 1000000 by decide)
    have ea := asked_err (n := n + 1) u.l_asked z2.1.val w2 (by decide) (lifted_size (n := n + 1) (w := w) u.l_asked.lifted z2.1 z2.2)
    exact e_eq (call_2 z1 w1 (by rw [ea]; exact pcall_ok rfl g)) (w := .tup [.int 0]) rfl (eqT g 0)
  · rw [decide_eq_false c2] at t
    refine o_ifF t ?_
    obtain ⟨ea, ha⟩ := mod_nat (o.fdiv 336) (r.length + 1) (Nat.succ_pos _)
    generalize ((o.fdiv 336).fmod ((r.length + 1 : Nat) : Int)).toNat = a at ea ha
    have i2 : evE true (run P (n + 5)) (E7 s c (.int N) (.int m) k mo (.int o)) (.bin .mod (.bin .fdiv (.var 7) (.int 336)) (.bin .add (.bf .len (.var 4)) (.int 1))) g = .ok (.int a) g := by
      have := b_mod (q := true) (F := run P (n + 5)) (ρ := E7 s c (.int N) (.int m) k mo (.int o)) (h := g) (a := .bin .fdiv (.var 7) (.int 336)) (b := .bin .add (.bf .len (.var 4)) (.int 1)) (b_fdiv (x := o) (y := 336) rfl rfl (by decide)) (b_add (x := r.length) (y := 1) (by rw [len_var (w := .ref 0) rfl g0, nats_length]) rfl) (Int.natCast_ne_zero.2 (Nat.succ_ne_zero r.length))
      exact this.trans (by rw [← ea]; rfl)
    refine o_asg i2 (ρ' := El s c (.int N) (.int m) (.ref 0) k mo (.int o) (.int a) .undef .undef .undef .undef .undef .undef .undef .undef .undef) rfl ?_
    have nN : badO N (.int N) := ⟨rfl, trivial, by
      show (decide ((0 : Int) ≤ N) && decide ((N : Int) ≤ N - 1)) = false
      rw [decide_eq_false (n_pred N), Bool.and_false]⟩
    have n1 : badO N (.int (-1)) := ⟨rfl, trivial, rfl⟩
    obtain ⟨x, x1, x2⟩ := pick (F := run P (n + 5)) (h := g) (ρ := El s c (.int N) (.int m) (.ref 0) k mo (.int o) (.int a) .undef .undef .undef .undef .undef .undef .undef .undef .undef) (es := [.var 2, .neg 1, .bool true, .none]) (i := .bin .mod (.bin .fdiv (.var 7) (.int 84)) (.int 4)) (m := 4) (c := o.fdiv 84) (badO N) (by decide) rfl
      (es_cons (v := .int N) rfl (es_cons rfl (es_cons rfl (es_cons rfl rfl)))) (cm 84 4 (by decide) (by decide) rfl)
      (all_cons nN (all_cons n1 (all_cons ⟨rfl, trivial, rfl⟩ (all_cons ⟨rfl, trivial, rfl⟩ all_nil)))) (show 4 ≤ 1000000 by decide)
    have hS : BadW N (.lst (V.nats (r.take a) ++ [x] ++ V.nats (r.drop a))) := bad_mid N1 N9 x2
    have i3 : evE true (run P (n + 5)) (El s c (.int N) (.int m) (.ref 0) k mo (.int o) (.int a) .undef .undef .undef .undef .undef .undef .undef .undef .undef) (.bin .add (.bin .add (.slice (.var 4) .none (some (.var 8))) (.list [.idx (.list [.var 2, .neg 1, .bool true, .none]) (.bin .mod (.bin .fdiv (.var 7) (.int 84)) (.int 4))])) (.slice (.var 4) (some (.var 8)) .none)) g = .ok (.lst (V.nats (r.take a) ++ [x] ++ V.nats (r.drop a))) g := by
      have il : evE true (run P (n + 5)) (El s c (.int N) (.int m) (.ref 0) k mo (.int o) (.int a) .undef .undef .undef .undef .undef .undef .undef .undef .undef) (.list [.idx (.list [.var 2, .neg 1, .bool true, .none]) (.bin .mod (.bin .fdiv (.var 7) (.int 84)) (.int 4))]) g = .ok (.lst [x]) g := by
        rw [qE_15, qEs_2, x1]; rfl
      have t1 : (r.take a).length ≤ 60 := by rw [List.length_take]; exact Nat.le_trans (Nat.min_le_right _ _) m60
      have t2 : (r.drop a).length ≤ 60 := by rw [List.length_drop]; exact Nat.le_trans (Nat.sub_le _ _) m60
      rw [qE_7, qE_7, sl_to (v := .ref 0) (p := a) rfl g0 rfl, R.bind_ok, il, R.bind_ok, addLL g _ _ (by rw [nats_length, List.length_singleton]; exact Nat.le_trans (Nat.succ_le_succ t1) (by decide)), R.opt_some, R.bind_ok, sl_from (v := .ref 0) (p := a) rfl g0 rfl, R.bind_ok, addLL g _ _ (by rw [List.length_append, nats_length, nats_length, List.length_singleton]; exact Nat.le_trans (Nat.add_le_add (Nat.succ_le_succ t1) t2) (by decide))]; rfl
    generalize V.lst (V.nats (r.take a) ++ [x] ++ V.nats (r.drop a)) = S0 at hS i3
    refine o_asg i3 (ρ' := El s c (.int N) (.int m) (.ref 0) k mo (.int o) (.int a) S0 .undef .undef .undef .undef .undef .undef .undef .undef) rfl ?_
    have long : evE true (run P (n + 5)) (El s c (.int N) (.int m) (.ref 0) k mo (.int o) (.int a) S0 .undef .undef .undef .undef .undef .undef .undef .undef) (.bin .mul (.list [.int 0]) (.bin .add (.bin .fdiv (.int 256) (.var 2)) (.int 1))) g = .ok (.lst (V.nats (List.replicate (256 / N + 1) 0))) g := by
      have e1 : evE true (run P (n + 5)) (El s c (.int N) (.int m) (.ref 0) k mo (.int o) (.int a) S0 .undef .undef .undef .undef .undef .undef .undef .undef) (.bin .add (.bin .fdiv (.int 256) (.var 2)) (.int 1)) g = .ok (.int ((256 / N + 1 : Nat) : Int)) g :=
        (b_add (y := 1) (b_fdiv (x := 256) (y := N) rfl rfl (Int.natCast_ne_zero.2 (Nat.ne_of_gt N1))) rfl).trans (by rw [show (256 : Int) = ((256 : Nat) : Int) from rfl, fdiv_nat]; rfl)
      have le : 256 / N ≤ 256 := Nat.div_le_self _ _
      rw [qE_7, show evE true (run P (n + 5)) (El s c (.int N) (.int m) (.ref 0) k mo (.int o) (.int a) S0 .undef .undef .undef .undef .undef .undef .undef .undef) (.list [.int 0]) g = .ok (.lst [.int 0]) g from rfl, R.bind_ok, e1, R.bind_ok, mul_of (h := g) (a := .lst [.int 0]) rfl (256 / N + 1) (Nat.lt_of_le_of_lt (Nat.succ_le_succ le) (by decide)) (by rw [List.length_singleton, Nat.mul_one]; exact Nat.le_trans (Nat.succ_le_succ le) (by decide)), zeros]; rfl
    have eall : evEs true (run P (n + 5)) (El s c (.int N) (.int m) (.ref 0) k mo (.int o) (.int a) S0 .undef .undef .undef .undef .undef .undef .undef .undef) [.var 9, .var 9, .var 9, .bf .tuple (.var 4), .list [], .none, .bin .mul (.list [.int 0]) (.bin .add (.bin .fdiv (.int 256) (.var 2)) (.int 1))] g = .ok [S0, S0, S0, .tup (V.nats r), .lst (V.nats []), .none, .lst (V.nats (List.replicate (256 / N + 1) 0))] g :=
      es_cons (v_at rfl hS.vl) (es_cons (v_at rfl hS.vl) (es_cons (v_at rfl hS.vl) (es_cons (by
        rw [b_bf (f := .tuple) rfl, v_at (v := .ref 0) rfl trivial, R.bind_ok, ← hh]; rfl) (es_cons (v := .lst (V.nats [])) rfl (es_cons (v := .none) rfl (es_cons long rfl))))))
    refine o_asg (v := .lst [S0, S0, S0, .tup (V.nats r), .lst (V.nats []), .none, .lst (V.nats (List.replicate (256 / N + 1) 0))]) (h' := g) (by rw [qE_15, eall]; rfl) (ρ' := El s c (.int N) (.int m) (.ref 0) k mo (.int o) (.int a) S0 (.lst [S0, S0, S0, .tup (V.nats r), .lst (V.nats []), .none, .lst (V.nats (List.replicate (256 / N + 1) 0))]) .undef .undef .undef .undef .undef .undef .undef) rfl (o_ret ?_)
    obtain ⟨j, hj, ej, v, hv, ex⟩ := idx_lit (h := g) (i := o.fdiv 12) (m := 7) (vs := [S0, S0, S0, .tup (V.nats r), .lst (V.nats []), .none, .lst (V.nats (List.replicate (256 / N + 1) 0))]) (by decide) rfl
    have bv : BadW N v := by
      have all : ∀ y ∈ [S0, S0, S0, .tup (V.nats r), .lst (V.nats []), .none, .lst (V.nats (List.replicate (256 / N + 1) 0))], BadW N y :=
        all_cons hS (all_cons hS (all_cons hS (all_cons (bad_no N1 N9 (nats_plain r) trivial nofun) (all_cons (bad_nil N1 N9) (all_cons (bad_no N1 N9 rfl trivial nofun) (all_cons (bad_long N1 N9 (by rw [List.length_replicate, Nat.mul_comm]; exact Nat.lt_mul_div_succ 256 N1)) all_nil))))))
      exact all v (List.mem_of_getElem? hv)
    have ec : evE true (run P (n + 5)) (El s c (.int N) (.int m) (.ref 0) k mo (.int o) (.int a) S0 (.lst [S0, S0, S0, .tup (V.nats r), .lst (V.nats []), .none, .lst (V.nats (List.replicate (256 / N + 1) 0))]) .undef .undef .undef .undef .undef .undef .undef) (.bin .mod (.bin .fdiv (.var 7) (.int 12)) (.int 7)) g = .ok (.int ((o.fdiv 12).fmod 7)) g := cm 12 7 (by decide) (by decide) rfl
    have ei : evE true (run P (n + 5)) (El s c (.int N) (.int m) (.ref 0) k mo (.int o) (.int a) S0 (.lst [S0, S0, S0, .tup (V.nats r), .lst (V.nats []), .none, .lst (V.nats (List.replicate (256 / N + 1) 0))]) .undef .undef .undef .undef .undef .undef .undef) (.idx (.var 10) (.bin .mod (.bin .fdiv (.var 7) (.int 12)) (.int 7))) g = .ok v g := by
      rw [qE_18, v_at (v := .lst [S0, S0, S0, .tup (V.nats r), .lst (V.nats []), .none, .lst (V.nats (List.replicate (256 / N + 1) 0))]) rfl trivial, R.bind_ok, ec, R.bind_ok]
      exact congrArg (fun x => R.opt x g) ex
    have ea := asked_err (n := n + 1) u.l_asked (z := .int N) trivial bv.vl (by decide) (bv.no (n + 1) g u.l_asked.lifted)
    exact e_eq (call_2 (v := .int N) rfl ei (by rw [ea]; exact pcall_ok rfl g)) (w := .tup [.int 3]) rfl (eqT g 3)
end
end
end L06
namespace L06
section
variable {P : Tab} {n : Nat} {h : H} {F : Fn}
noncomputable def app0 (g : H) (a : Nat) : H := match g[a]? with | some (.list vs) => g.set a (.list (vs ++ [.int 0])) | _ => g
theorem app0_ne (g : H) (e : i ≠ a) : (app0 g a)[i]? = g[i]? := by
  unfold app0
  split
  · rw [List.getElem?_set_ne (Ne.symm e)]
  · rfl
theorem app_ev {F : Fn} {ρ : List V} {e : PE} {a : Nat} {vs : List V} (ee : evE true F ρ e h = .ok (.ref a) h) (ea : h[a]? = some (.list vs)) (hl : vs.length < 1000000) : evE true F ρ (.append e (.int 0)) h = .ok .none (app0 h a) := by
  rw [qE_30, ee, R.bind_ok, if_pos (lcell_ref ea), qE_3, R.bind_ok, onList_ref ea _ _ _ rfl (by rw [List.length_append]; exact hl)]
  unfold app0
  rw [ea]
theorem frz0_hh : frz 0 (HH h c k) (.ref h.length) = some (.lst (V.lists k)) := by
  show frzAt 4 0 (HH h c k) h.length = _
  rw [frzAt, if_neg (Nat.not_lt_zero _), hh0]
  show Option.map V.lst (V.mapRefs (frzAt 3 0 (HH h c k)) (refs (h.length + 2) k.length)) = _
  rw [mapRefs_refs _ _ k fun i hi => frzAt_nats (Nat.zero_le _) (hh2 (by rw [List.getElem?_eq_getElem hi]))]; rfl
noncomputable abbrev Eg (s : List Int) (c N m k mo o due told z st rw' ws : V) : List V := El s c N m (.ref 0) k mo o .undef .undef .undef due (.ref 1) told z st rw' ws
theorem from_words (u : UL_from P) {ρ : List V} {i : Nat} {v : V} {l : List Nat} {z : Nat} (ei : ρ[i]? = some v) (hl : IsL h v l) (h0 : 0 < l.length) (hn : l.length ≤ 1000) (hz : z ≤ 8) {e : PE} (hi : i ≠ 18) (hr : 18 < ρ.length) (ee : ∀ p : Nat, evE true (run P (n + 1)) (ρ.set 18 (.int p)) e h = .ok (.int z) h) : ∀ p, p < l.length → evE true (run P (n + 1)) (ρ.set 18 (.int p)) (.call false "_law_from" [.var i, .var 18, e]) h = .ok (.lst (V.nats (rd l z p))) h := fun p hp =>
  call_3 (v_at (by rw [List.getElem?_set_ne (Ne.symm hi)]; exact ei) hl.val) (v_at (v := .int p) (List.getElem?_set_self hr) trivial) (ee p) (from_p (n := n) u hl h0 hn p z hp (Nat.le_trans hz (by decide)))
section
variable (u : UL_law P) (s : List Int) (c k mo o : V) {N m : Nat} {r : List Nat} (b : RB N r)
include u b
theorem steps_loop {G : H} {z q0 : Nat} {l : List Nat} {due ws : V} (hG : G[q0]? = some (.list (refs (q0 + 2) l.length))) (hr : ∀ i, i < l.length → G[q0 + 2 + i]? = some (.list (V.nats (row N r (l.getD i 0) (rl N r))))) (hz : z ≤ 4) (hl : l.length ≤ 9) :
    ∃ w, exS true (run P (n + 5)) (.for1 16 (.seq (.var 13)) [
    .asg 15 (.bin .add (.var 15) (.comp (.call false "_law_steps" [.call false "_law_from" [.var 16, .var 18, .bin .add (.var 14) (.int 1)], .var 2]) 18 (.range1 (.bf .len (.var 16))) .none))]) (Eg s c (.int N) (.int m) k mo o due (.ref q0) (.int z) (.lst []) .undef ws) G =
    .ok .next (Eg s c (.int N) (.int m) k mo o due (.ref q0) (.int z) (.lst (V.lists (List.replicate (l.length * pr N (S r r.length)) (rws r z)).flatten)) w ws) G := by
  have pos : 0 < rl N r := Nat.mul_pos (pr_spec b.n1).pos b.r1
  have hit : evIt true (run P (n + 5)) (Eg s c (.int N) (.int m) k mo o due (.ref q0) (.int z) (.lst []) .undef ws) (.seq (.var 13)) G = .ok ((List.range l.length).map (fun i => V.ref (q0 + 2 + i)), some (q0, .list (refs (q0 + 2) l.length))) G := by
    rw [qI_1, v_at (v := .ref q0) rfl trivial, R.bind_ok]
    unfold iterOf
    simp only [hG]; rfl
  obtain ⟨ρ', g', e, w, rfl, rfl⟩ := s_forW (F := run P (n + 5)) (x := 16) (body := [
    .asg 15 (.bin .add (.var 15) (.comp (.call false "_law_steps" [.call false "_law_from" [.var 16, .var 18, .bin .add (.var 14) (.int 1)], .var 2]) 18 (.range1 (.bf .len (.var 16))) .none))])
    (fun q ρ g => ∃ w, ρ = Eg s c (.int N) (.int m) k mo o due (.ref q0) (.int z) (.lst (V.lists (List.replicate (q.length * pr N (S r r.length)) (rws r z)).flatten)) w ws ∧ g = G) hit (fun z_ z_ g hi => by obtain ⟨_, _, rfl⟩ := hi; exact decide_eq_true hG) ⟨.undef, by rw [List.length_nil, Nat.zero_mul]; rfl, rfl⟩ (fun q i q' ρ g hq hi => by
      obtain ⟨w, rfl, rfl⟩ := hi
      obtain ⟨rfl, hi⟩ := range_at hq
      have il : IsL g (.ref (q0 + 2 + q.length)) (row N r (l.getD q.length 0) (rl N r)) := IsL.ref (hr _ hi)
      refine ⟨_, _, ss_asg (v := .lst (V.lists (List.replicate ((q.length + 1) * pr N (S r r.length)) (rws r z)).flatten)) ?_ rfl rfl, .ref (q0 + 2 + q.length), ?_, rfl⟩
      · show evE true (run P (n + 5)) (Eg s c (.int N) (.int m) k mo o due (.ref q0) (.int z) (.lst (V.lists (List.replicate (q.length * pr N (S r r.length)) (rws r z)).flatten)) (.ref (q0 + 2 + q.length)) ws) _ g = _
        have ec : evE true (run P (n + 5)) (Eg s c (.int N) (.int m) k mo o due (.ref q0) (.int z) (.lst (V.lists (List.replicate (q.length * pr N (S r r.length)) (rws r z)).flatten)) (.ref (q0 + 2 + q.length)) ws) (.comp (.call false "_law_steps" [.call false "_law_from" [.var 16, .var 18, .bin .add (.var 14) (.int 1)], .var 2]) 18 (.range1 (.bf .len (.var 16))) .none) g = .ok (.lst (V.lists (List.replicate (pr N (S r r.length)) (rws r z)).flatten)) g := by
          have lr := b.rl
          refine ev_comp (c := fun i : Nat => V.int i) (l := List.range (rl N r)) (it_rng (n := rl N r) (by rw [len_var (w := .ref (q0 + 2 + q.length)) rfl il, nats_length, row_len]) (Nat.le_trans lr (by decide))) rfl (fun p => .lst (V.nats (rd r z p))) (fun p hp => ?_) ?_
          · have hp := List.mem_range.1 hp
            have fw := from_words (n := n + 4) (h := g) (ρ := Eg s c (.int N) (.int m) k mo o due (.ref q0) (.int z) (.lst (V.lists (List.replicate (q.length * pr N (S r r.length)) (rws r z)).flatten)) (.ref (q0 + 2 + q.length)) ws) (e := .bin .add (.var 14) (.int 1)) (z := z + 1) u.l_from (i := 16) rfl il (by rw [row_len]; exact pos) (by rw [row_len]; exact Nat.le_trans lr (by decide)) (Nat.le_trans (Nat.succ_le_succ hz) (by decide)) (by decide) (show 18 < 19 by decide) (fun p => (b_add (x := z) (y := 1) rfl rfl).trans (by rw [Int.natCast_add]; rfl)) p (by rw [row_len]; exact hp)
            exact call_2 fw rfl (steps_run (n := n + 4) u.l_steps b (Nat.le_trans hz (by decide)))
          · rw [mkL_eq (by rw [List.length_map, List.length_range]; exact Nat.le_trans lr (by decide))]
            have : (List.range (rl N r)).map (fun p => V.lst (V.nats (rd r z p))) = V.lists ((List.range (rl N r)).map (rd r z)) := by rw [V.lists, List.map_map]; rfl
            rw [this, show rl N r = pr N (S r r.length) * r.length from rfl, range_round (rd_round r z)]; rfl
        have b1 := (pr_spec (T := S r r.length) b.n1).le
        have b2 := b.n9
        have b3 := b.len
        have pl : ∀ x, (V.lists (List.replicate x (rws r z)).flatten).length = x * r.length := fun x => by rw [V.lists, List.length_map, List.length_flatten, List.map_replicate, List.sum_replicate_nat, rws_len]
        have m1 : q.length * pr N (S r r.length) ≤ 9 * 9 := Nat.mul_le_mul (Nat.le_trans (Nat.le_of_lt hi) hl) (Nat.le_trans b1 b2)
        have m2 : q.length * pr N (S r r.length) * r.length ≤ 81 * 256 := Nat.mul_le_mul m1 b3
        have m3 : pr N (S r r.length) * r.length ≤ 9 * 256 := Nat.mul_le_mul (Nat.le_trans b1 b2) b3
        rw [qE_7, v_at (v := .lst (V.lists (List.replicate (q.length * pr N (S r r.length)) (rws r z)).flatten)) rfl trivial, R.bind_ok, ec, R.bind_ok, addLL g _ _ (by rw [pl, pl]; exact Nat.le_trans (Nat.add_le_add m2 m3) (by decide))]
        rw [Nat.succ_mul, ← rep_add]
        unfold V.lists
        rw [List.map_append]; rfl
      · rw [List.length_append, List.length_singleton]; rfl)
  rw [List.length_range] at e
  exact ⟨w, e⟩
end
end
end L06
namespace L06
section
variable {P : Tab} {n : Nat} {h : H} {F : Fn}
section
variable (u : UL_law P) (s : List Int) (c k mo o : V) {N m : Nat} {r : List Nat} (b : RB N r)
include u b
set_option maxHeartbeats 4000000 in
theorem law_good (hm : r.length = m) (ho : ∀ G : H, evE true (run P (n + 5)) (E7 s c (.int N) (.int m) k mo o) (.cmp .eq (.bin .mod (.var 7) (.int 6)) (.int 1)) G = .ok (.bool false) G) :
    ∃ g, (exSs true (run P (n + 5)) (L_law.body.drop 7) (E7 s c (.int N) (.int m) k mo o) [.list (V.nats r)]).out = .ok (.bool true) g := by
  have Q := pr_spec (T := S r r.length) b.n1
  have rnd := rounds (T := S r r.length) b.n1
  have clen := chosen_len (N := N) (T := S r r.length) N
  have n9 := b.n9
  have lr := b.rl
  have lb := b.len
  generalize hl : chosen N (S r r.length) N = l at rnd clen
  have l0 : 0 < l.length := Nat.pos_of_ne_zero fun q => by rw [q, Nat.zero_mul] at rnd; exact Nat.ne_of_lt b.n1 rnd
  have t8 : evE true (run P (n + 5)) (E7 s c (.int N) (.int m) k mo o) (.cmp .gt (.bin .mul (.var 2) (.var 3)) (.int 256)) [.list (V.nats r)] = .ok (.bool false) [.list (V.nats r)] := by
    rw [qE_13, b_mul (x := N) (y := m) rfl rfl (Nat.lt_of_le_of_lt (show m ≤ 256 by rw [← hm]; exact lb) (by decide)), R.bind_ok, qE_3, R.bind_ok, cmp_gt_int, ← Int.natCast_mul]
    have : ¬ (256 : Int) < ((N * m : Nat) : Int) := Int.not_lt.2 (Int.ofNat_le.2 (by rw [Nat.mul_comm, ← hm]; exact b.le))
    rw [decide_eq_false this]; rfl
  have w0 : IsL [.list (V.nats r)] (.ref 0) r := IsL.ref rfl
  have hdue := due_run (n := n + 4) b w0 u.l_due
  obtain ⟨es, hli⟩ := lifted_run (n := n + 1) (h := [.list (V.nats r), .list (V.nats r)]) (w := .ref 1) b (IsL.ref rfl) u.l_asked.lifted
  have hask := asked_ok (n := n + 1) u.l_asked (z := .int N) (w := .ref 1) trivial trivial hli
  have again : ∀ G : H, ∃ es', run P (n + 5) true "_law_asked" [.int N, .lst (V.nats r)] G = .ok (.ref G.length) (HH G (.dict es') (rows N r l)) := fun G => by
    obtain ⟨es', e⟩ := lifted_run (n := n + 1) (h := G) (w := .lst (V.nats r)) b (IsL.lst G r) u.l_asked.lifted
    rw [hl] at e
    exact ⟨es', asked_ok (n := n + 1) u.l_asked (z := .int N) (w := .lst (V.nats r)) trivial trivial e⟩
  rw [hl] at hdue hask
  have Kl : (rows N r l).length = l.length := by rw [rows, List.length_map]
  have Kg : ∀ i, i < l.length → (rows N r l)[i]? = some (row N r (l.getD i 0) (rl N r)) := fun i hi => by
    rw [rows, List.getElem?_map, List.getD_eq_getElem?_getD, List.getElem?_eq_getElem hi]; rfl
  generalize hG : HH [.list (V.nats r), .list (V.nats r)] (.dict es) (rows N r l) = G at hask
  have g0 : G[0]? = some (.list (V.nats r)) := by rw [← hG]; rfl
  have g1 : G[1]? = some (.list (V.nats r)) := by rw [← hG]; rfl
  have g2 : G[2]? = some (.list (refs 4 l.length)) := by rw [← hG, ← Kl]; exact hh0
  have g4 : ∀ i, i < l.length → G[4 + i]? = some (.list (V.nats (row N r (l.getD i 0) (rl N r)))) := fun i hi => by rw [← hG]; exact hh2 (Kg i hi)
  have gf : frz 0 G (.ref 2) = some (.lst (V.lists (rows N r l))) := by rw [← hG]; exact frz0_hh
  have glen : G.length = 4 + l.length := by rw [← hG, hh_len, Kl]; rfl
  have hx : ∀ v ∈ refs 4 l.length, ∃ x, IsL G v x := fun v hv => by
    obtain ⟨i, hi, rfl⟩ := List.mem_map.1 hv
    exact ⟨_, IsL.ref (g4 i (List.mem_range.1 hi))⟩
  have cel := call_2 (q := true) (F := run P (n + 5)) (h := G) (ρ := Eg s c (.int N) (.int m) k mo o (.lst (V.lists (rows N r l))) (.ref 2) .undef .undef .undef .undef) (a := .var 0) (b := .int 2) (v_at (v := V.ints s) rfl trivial) rfl (cell_p (n := n + 4) u.l_cell_at s 2)
  obtain ⟨j, hj, q⟩ := b_base (F := run P (n + 5)) 1 4 (by decide) cel
  have hz : 1 + j ≤ 4 := by rw [Nat.add_comm]; exact hj
  generalize 1 + j = z at q hz
  obtain ⟨w, loop⟩ := steps_loop (n := n) (m := m) (ws := .undef) (due := .lst (V.lists (rows N r l))) u s c k mo o b g2 g4 hz (Nat.le_trans clen n9)
  rw [rnd] at loop
  have wl : (List.replicate N (rws r z)).flatten.length = N * r.length := by rw [List.length_flatten, List.map_replicate, List.sum_replicate_nat, rws_len]
  have wle : N * r.length ≤ 256 := by rw [Nat.mul_comm]; exact b.le
  have w0' : 0 < N * r.length := Nat.mul_pos b.n1 b.r1
  have gset : ∀ i, i ≠ 4 → (app0 G 4)[i]? = G[i]? := fun i hi => app0_ne G hi
  generalize hG3 : app0 G 4 = G3 at gset
  have k2 : G3[2]? = some (.list (refs 4 l.length)) := (gset 2 (by decide)).trans g2
  have k1 : G3[1]? = some (.list (V.nats r)) := (gset 1 (by decide)).trans g1
  have k0 : G3[0]? = some (.list (V.nats r)) := (gset 0 (by decide)).trans g0
  have l2 : 2 < G3.length := (List.getElem?_eq_some_iff.1 k2).1
  have l1 : 1 < G3.length := (List.getElem?_eq_some_iff.1 k1).1
  have e2 : (G3.set 2 (.list (refs 4 l.length ++ [.lst []])))[2]? = some (.list (refs 4 l.length ++ [.lst []])) := List.getElem?_set_self l2
  have e1 : (G3.set 2 (.list (refs 4 l.length ++ [.lst []])))[1]? = some (.list (V.nats r)) := by rw [List.getElem?_set_ne (by decide)]; exact k1
  have e0 : (G3.set 2 (.list (refs 4 l.length ++ [.lst []])))[0]? = some (.list (V.nats r)) := by rw [List.getElem?_set_ne (by decide)]; exact k0
  generalize hG4 : G3.set 2 (.list (refs 4 l.length ++ [.lst []])) = G4 at e0 e1 e2
  have f2 : (G4.set 1 (.list []))[2]? = some (.list (refs 4 l.length ++ [.lst []])) := by rw [List.getElem?_set_ne (by decide)]; exact e2
  have f0 : (G4.set 1 (.list []))[0]? = some (.list (V.nats r)) := by rw [List.getElem?_set_ne (by decide)]; exact e0
  generalize hG5 : G4.set 1 (.list []) = G5 at f0 f2
  refine ⟨G5, ?_⟩
  refine o_ifF (ho _) (o_ifF t8 ?_)
  refine o_asg (call_2 (v := .int N) rfl (v_at (v := .ref 0) rfl trivial) hdue) (ρ' := El s c (.int N) (.int m) (.ref 0) k mo o .undef .undef .undef (.lst (V.lists (rows N r l))) .undef .undef .undef .undef .undef .undef) rfl ?_
  refine o_asg (own_ev (lst_ev (x := 4) (v := .ref 0) rfl w0)) (ρ' := Eg s c (.int N) (.int m) k mo o (.lst (V.lists (rows N r l))) .undef .undef .undef .undef .undef) rfl ?_
  refine o_asg (v := .ref 2) (h' := G) ?_ (ρ' := Eg s c (.int N) (.int m) k mo o (.lst (V.lists (rows N r l))) (.ref 2) .undef .undef .undef .undef) rfl ?_
  · rw [qE_27, es_cons (v := .int N) rfl (es_cons (v := .ref 1) rfl rfl), R.bind_ok]; exact hask
  clear hask hdue hli t8
  have r1 := right_run (n := n + 4) (h := G) (told := .ref 2) (vs := refs 4 l.length) u.l_right (litems_ref g2) hx gf
  have rt := call_2 (F := run P (n + 5)) (ρ := Eg s c (.int N) (.int m) k mo o (.lst (V.lists (rows N r l))) (.ref 2) .undef .undef .undef .undef) (f := "_law_right") (a := .var 13) (b := .var 11) (v_at (v := .ref 2) rfl trivial) (v_at (v := .lst (V.lists (rows N r l))) rfl trivial) r1
  have nt : evE true (run P (n + 5)) (Eg s c (.int N) (.int m) k mo o (.lst (V.lists (rows N r l))) (.ref 2) .undef .undef .undef .undef) (.not (.call false "_law_right" [.var 13, .var 11])) G = .ok (.bool false) G := by rw [qE_9, rt]; rfl
  refine o_ifF (or2 nt (e_ne (t := true) (v := .ref 1) (w := .ref 0) rfl rfl (by rw [pyEq_L (IsL.ref g1) (IsL.ref g0), decide_eq_true rfl]))) ?_
  clear nt rt r1
  refine o_asg q (ρ' := Eg s c (.int N) (.int m) k mo o (.lst (V.lists (rows N r l))) (.ref 2) (.int z) .undef .undef .undef) rfl ?_
  refine o_asg (v := .lst []) (h' := G) rfl (ρ' := Eg s c (.int N) (.int m) k mo o (.lst (V.lists (rows N r l))) (.ref 2) (.int z) (.lst []) .undef .undef) rfl (o_step loop ?_)
  clear loop q cel
  have wd : evE true (run P (n + 5)) (Eg s c (.int N) (.int m) k mo o (.lst (V.lists (rows N r l))) (.ref 2) (.int z) (.lst (V.lists (List.replicate N (rws r z)).flatten)) w .undef) (.comp (.call false "_law_from" [.var 4, .var 18, .var 14]) 18 (.range1 (.bf .len (.var 4))) .none) G = .ok (.lst (V.lists (rws r z))) G := by
    refine ev_comp (c := fun i : Nat => V.int i) (l := List.range r.length) (it_rng (n := r.length) (by rw [len_var (w := .ref 0) rfl (IsL.ref g0), nats_length]) (Nat.le_trans lb (by decide))) rfl (fun p => .lst (V.nats (rd r z p))) (fun p hp => ?_) (by rw [mkL_eq (by rw [List.length_map, List.length_range]; exact Nat.le_trans lb (by decide)), V.lists, rws, List.map_map]; rfl)
    exact from_words (n := n + 4) (h := G) (ρ := Eg s c (.int N) (.int m) k mo o (.lst (V.lists (rows N r l))) (.ref 2) (.int z) (.lst (V.lists (List.replicate N (rws r z)).flatten)) w .undef) (e := .var 14) (z := z) u.l_from (i := 4) rfl (IsL.ref g0) b.r1 (Nat.le_trans lb (by decide)) (Nat.le_trans hz (by decide)) (by decide) (show 18 < 19 by decide) (fun p => rfl) p (List.mem_range.1 hp)
  refine o_asg wd (ρ' := Eg s c (.int N) (.int m) k mo o (.lst (V.lists (rows N r l))) (.ref 2) (.int z) (.lst (V.lists (List.replicate N (rws r z)).flatten)) w (.lst (V.lists (rws r z)))) rfl ?_
  clear wd
  have srt : evE true (run P (n + 5)) (Eg s c (.int N) (.int m) k mo o (.lst (V.lists (rows N r l))) (.ref 2) (.int z) (.lst (V.lists (List.replicate N (rws r z)).flatten)) w (.lst (V.lists (rws r z)))) (.cmp .ne (.bf .sorted (.var 15)) (.bf .sorted (.bin .mul (.var 17) (.var 2)))) G = .ok (.bool false) G := by
    obtain ⟨Sv, s1, _, s3⟩ := sort_perm G (List.Perm.refl (List.replicate N (rws r z)).flatten) (by rw [wl]; exact w0') (by rw [wl]; exact Nat.le_trans wle (by decide))
    obtain ⟨L, rfl⟩ := all_lists s3
    refine e_ne (t := true) (v := .lst (V.lists L)) (w := .lst (V.lists L)) ?_ ?_ (by rw [pyEq_LL (frz_plain 0 G _ (lists_plain _)) (frz_plain 0 G _ (lists_plain _)), decide_eq_true rfl])
    · rw [b_bf (f := .sorted) rfl, v_at (v := .lst (V.lists (List.replicate N (rws r z)).flatten)) rfl trivial, R.bind_ok]
      show R.opt ((sortVs G (V.lists (List.replicate N (rws r z)).flatten)).map V.lst) G = _
      rw [s1]; rfl
    · have mu : evE true (run P (n + 5)) (Eg s c (.int N) (.int m) k mo o (.lst (V.lists (rows N r l))) (.ref 2) (.int z) (.lst (V.lists (List.replicate N (rws r z)).flatten)) w (.lst (V.lists (rws r z)))) (.bin .mul (.var 17) (.var 2)) G = .ok (.lst (V.lists (List.replicate N (rws r z)).flatten)) G := by
        rw [qE_7, v_at (v := .lst (V.lists (rws r z))) rfl trivial, R.bind_ok, v_at (v := .int N) rfl trivial, R.bind_ok, mul_of (h := G) (a := .lst (V.lists (rws r z))) rfl N (Nat.lt_of_le_of_lt n9 (by decide)) (by rw [V.lists, List.length_map, rws_len]; exact Nat.le_trans wle (by decide)), lists_rep]; rfl
      rw [b_bf (f := .sorted) rfl, mu, R.bind_ok]
      show R.opt ((sortVs G (V.lists (List.replicate N (rws r z)).flatten)).map V.lst) G = _
      rw [s1]; rfl
  refine o_ifF srt ?_
  clear srt
  generalize V.lst (V.lists (List.replicate N (rws r z)).flatten) = v15
  generalize V.lst (V.lists (rws r z)) = v17
  have i0 : evE true (run P (n + 5)) (Eg s c (.int N) (.int m) k mo o (.lst (V.lists (rows N r l))) (.ref 2) (.int z) v15 w v17) (.idx (.var 13) (.int 0)) G = .ok (.ref 4) G :=
    e_idx (j := 0) (v_at (v := .ref 2) rfl trivial) (litems_ref g2) (by rw [refs, List.getElem?_map, List.getElem?_range l0]; rfl)
  have a4 := app_ev i0 (g4 0 l0) (by rw [nats_length, row_len]; exact Nat.lt_of_le_of_lt lr (by decide))
  rw [hG3] at a4
  refine o_expr a4 ?_
  refine o_expr (h' := G4) ?_ ?_
  · rw [qE_30, v_at (v := .ref 2) rfl trivial, R.bind_ok, if_pos (lcell_ref k2)]
    show (R.bind (R.ok (V.lst []) G3) _) = _
    rw [R.bind_ok, onList_ref k2 _ .none (refs 4 l.length ++ [.lst []]) rfl (by rw [List.length_append, refs, List.length_map, List.length_range, List.length_singleton]; exact Nat.le_trans (Nat.succ_le_succ (Nat.le_trans clen n9)) (by decide)), hG4]
  refine o_expr (h' := G5) ?_ ?_
  · rw [qE_32, v_at (v := .ref 1) rfl trivial, R.bind_ok, onList_ref e1 _ .none [] rfl (Nat.zero_le _), hG5]
  refine o_ret (h' := G5) (v := .bool true) ?_
  obtain ⟨es', ag⟩ := again G5
  have ls : evE true (run P (n + 5)) (Eg s c (.int N) (.int m) k mo o (.lst (V.lists (rows N r l))) (.ref 2) (.int z) v15 w v17) (.bf .list (.var 4)) G5 = .ok (.lst (V.nats r)) G5 := lst_ev (x := 4) (v := .ref 0) rfl (litems_ref f0)
  have pn : pcall G5 (.ok (.ref G5.length) (HH G5 (.dict es') (rows N r l))) = .ok (.lst (V.lists (rows N r l))) G5 := pcall_new _ _ (frz_hh b (IsL.lst G5 r))
  have ca := call_2 (q := true) (F := run P (n + 5)) (f := "_law_asked") (a := .var 2) (v := .int N) rfl ls (by rw [ag]; exact pn)
  have rt := call_2 (F := run P (n + 5)) (f := "_law_right") (b := .var 11) ca (v_at (v := .lst (V.lists (rows N r l))) rfl trivial) (right_run (n := n + 4) (h := G5) (told := .lst (V.lists (rows N r l))) (vs := V.lists (rows N r l)) u.l_right rfl (fun v hv => by
    obtain ⟨x, _, rfl⟩ := List.mem_map.1 hv; exact ⟨x, IsL.lst G5 x⟩) (frz_plain 0 G5 _ (lists_plain _)))
  rw [qE_10, qA_3, rt, R.bind_ok]
  show evE true (run P (n + 5)) _ (.cmp .eq _ _) G5 = _
  have le1 : evE true (run P (n + 5)) (Eg s c (.int N) (.int m) k mo o (.lst (V.lists (rows N r l))) (.ref 2) (.int z) v15 w v17) (.bf .len (.var 13)) G5 = .ok (.int ((l.length + 1 : Nat) : Int)) G5 := by
    rw [len_var (w := .ref 2) rfl (litems_ref f2), List.length_append, refs, List.length_map, List.length_range]; rfl
  have le2 : evE true (run P (n + 5)) (Eg s c (.int N) (.int m) k mo o (.lst (V.lists (rows N r l))) (.ref 2) (.int z) v15 w v17) (.bin .add (.bf .len (.var 11)) (.int 1)) G5 = .ok (.int ((l.length + 1 : Nat) : Int)) G5 :=
    (b_add (x := l.length) (y := 1) (by rw [len_var (w := .lst (V.lists (rows N r l))) rfl rfl, V.lists, List.length_map, Kl]) rfl).trans (by rw [Int.natCast_add]; rfl)
  exact (c_eqI le1 le2).trans (by rw [decide_eq_true rfl])
end
theorem law_eq (u : UL_law P) (n : Nat) (s : List Int) : ∃ h', run P (n + 6) true "law" [V.ints s] [] = .ok (.bool true) h' := by
  obtain ⟨c, k, mo, N, m, r, ⟨N1, N9⟩, ⟨m1, m60⟩, ⟨hr, hd⟩, go⟩ := law_start (n := n) u s
  by_cases o1 : (cellAt s 1).fmod 6 = 1
  · exact ⟨_, go _ (law_odd (n := n) u s c k mo N1 N9 (by rw [hr]; exact m60) o1)⟩
  · have ho : ∀ G : H, evE true (run P (n + 5)) (E7 s c (.int N) (.int m) k mo (.int (cellAt s 1))) (.cmp .eq (.bin .mod (.var 7) (.int 6)) (.int 1)) G = .ok (.bool false) G := fun G => (c_eqI (y := 1) (b_mod (x := cellAt s 1) (y := 6) rfl rfl (by decide)) rfl).trans (by rw [decide_eq_false o1])
    by_cases hl : r.length * N ≤ 256
    · obtain ⟨g, e⟩ := law_good (n := n) u s c k mo (.int (cellAt s 1)) ⟨N1, N9, by rw [hr]; exact m1, hd, hl⟩ hr ho
      exact ⟨g, go _ e⟩
    · have hl := Nat.lt_of_not_le hl
      refine ⟨[.list (V.nats r)], go _ (o_ifF (ho _) ?_)⟩
      have t8 : evE true (run P (n + 5)) (E7 s c (.int N) (.int m) k mo (.int (cellAt s 1))) (.cmp .gt (.bin .mul (.var 2) (.var 3)) (.int 256)) [.list (V.nats r)] = .ok (.bool true) [.list (V.nats r)] := by
        rw [qE_13, b_mul (x := N) (y := m) rfl rfl (Nat.lt_of_le_of_lt m60 (by decide)), R.bind_ok, qE_3, R.bind_ok, cmp_gt_int, ← Int.natCast_mul]
        have : (256 : Int) < ((N * m : Nat) : Int) := Int.ofNat_lt.2 (by rw [Nat.mul_comm, ← hr]; exact hl)
        rw [decide_eq_true this]; rfl
      refine o_ifT t8 (o_ret ?_)
      have ea := asked_err (n := n + 1) u.l_asked (z := .int N) (w := .ref 0) trivial trivial (by decide) (lifted_long (n := n + 1) (h := [.list (V.nats r)]) (w := .ref 0) (IsL.ref rfl) u.l_asked.lifted N1 N9 hl)
      exact e_eq (call_2 (v := .int N) rfl (v_at (v := .ref 0) rfl trivial) (by rw [ea]; exact pcall_ok rfl _)) (w := .tup [.int 3]) rfl (eqT _ 3)
end
end L06
end Mine

set_option maxRecDepth 100000
set_option maxHeartbeats 8000000
namespace Mine
open PySem PySem.W PyProof.Rows
noncomputable def view : Program := keepAt ((List.range 28).filter fun i => !([0, 9, 14, 16, 19].contains i)) PySem.Challenge.rw_uf010021_06.row.prog
theorem b0 : PySem.Challenge.rw_uf010021_06.wellSaid = true := by kernel_rfl
theorem b1 : LeftO PySem.Challenge.rw_uf010021_06.row.prog view [] (fun s => xlAt view [] s && recOk (RowW.records PySem.Challenge.rw_uf010021_06.row.toRowW) s) (fun s => hookB L06.nums s.heap) (fun z_ => true) 4976 := fun w => by kernel_rfl
theorem b2 : (defOf view PySem.Challenge.rw_uf010021_06.row.name).isSome = true := by kernel_rfl
theorem b3 : PySem.Challenge.rw_uf010021_06.row.prog.theDef PySem.Challenge.rw_uf010021_06.row.name = (defOf view PySem.Challenge.rw_uf010021_06.row.name).map fun x => (x.1.params, x.1.body, x.1.scope) := by kernel_rfl
theorem b4 : ((defOf view PySem.Challenge.rw_uf010021_06.row.name).map fun x => kwWritten? x.1.params.kwonlyargs x.1.params.kw_defaults) = (defOf view PySem.Challenge.rw_uf010021_06.row.name).map fun x => some x.2 := by kernel_rfl
theorem b5 : (chainsOk view && opensWell PySem.Challenge.rw_uf010021_06.row.prog && (frees PySem.Challenge.rw_uf010021_06.row.toRowW && PySem.Challenge.rw_uf010021_06.row.within.isEmpty)) = true := by kernel_rfl
theorem b6 : PySem.Challenge.rw_uf010021_06.row.prog.bare := ⟨rfl, rfl, rfl, rfl, rfl, by decide +kernel⟩
theorem b7 : PySem.Challenge.rw_uf010021_06.row.toRowW.promised := by w_witness2
theorem b8 : importsNone view = true := by kernel_rfl
theorem b9 : specChk view = true := by kernel_rfl
theorem b10 : defChk view L06.fns L06.nums L06.tl = true := by kernel_rfl
theorem b11 : fnsChk view L06.fns = true := by kernel_rfl
end Mine
open PySem PySem.W PyProof.Rows
set_option tactic.hygienic true in
theorem PySem.Challenge.cw_uf010021_06_holds : PySem.Challenge.rw_uf010021_06.Holds := by
  refine Mine.law_head Mine.b0 (row_said Mine.b0) Mine.b1 Mine.b2 Mine.b3 Mine.b4 rfl Mine.b5 Mine.b6 Mine.b7 ?_
  intro d kwd hdef w s₀ s₁ mg mb G Y fa o pm cd doc dV kV ho hd hcd hD hmg hg args vals as hpre hlay hrd hwl hlo
  obtain ⟨K, KX, k3, k5, k8⟩ := Y
  refine Ground.open G ?_
  intro T B D TE TW
  have hmg' : mg (Str.ofString "law") = some (.ref fa) := by rw [defOf_name hdef] at hmg; exact hmg
  clear ho hd hcd hD G hmg hdef
  wrow_args hpre hlay hrd hwl hlo
  rename_i hL _ _ _ hI _ hc _
  obtain ⟨H', hrun⟩ := Mine.L06.law_eq Mine.L06.u_L_law 0 _
  refine Mine.law_wp T KX Mine.b8 rfl k3 Mine.b9 k5 Mine.b10 Mine.b11 k8 (by simp [Mine.L06.fns]) hmg' hL hI hc (by omega) hrun fun s' hs hk => ?_
  obtain ⟨h', tk, rfl⟩ := hs
  exact ⟨.inl ⟨.bool true, .bool true, [], rfl, fun z_ => rfl, .bool true, by kernel_rfl, unshared_nil⟩, .of_keep hk, rfl, .of_eq hg⟩
