import PyProof.Rows.All
import Wide.All
import OpenK.AllK
import Wide.FinOn
import PySem.Value
import PyProof.Cells
import PyProof.CompFree
import PyProof.StationsW
import PyProof.RulesTry
import PyProof.TupleIter
import PyProof.TupleKey
import PyProof.DictKinds
import OpenK.KCall
import PyProof.NoPylong
import PyProof.Rows.IntRules
import PyProof.Rows.RuleB_sub
import PyProof.Rows.RuleB_mul
import PyProof.Rows.RuleB_mod
import PyProof.Rows.RuleB_floordiv
import PyProof.Rows.RuleB_pow
import PyProof.Rows.TupAdd
import PyProof.Rows.ListMul
import PyProof.ListMulAny
import PyProof.FitsBits
import PyProof.EqLayable
import PyProof.P3In
import PyProof.IsRules
import PyProof.PureInt
import PyProof.Rows.RuleC_int
import PyProof.DictRoadsH
import PyProof.Rows.SeqSlice
import PyProof.SliceMore
import PyProof.ListIndexNeg
import PyProof.LetGo
import PyProof.Rows.TupSub
import PyProof.WalksMore
import PyProof.RangeFor
import PyProof.ConsumeWalk
import PyProof.TupleOfSeq
import PyProof.TupleCall
import PyProof.ListCopy
import PyProof.CallStr
import PyProof.Conv_int_bool
import PyProof.ListRange
import KE.KRevIter
import KE.KIsAll
import PyProof.Rows.StrJoin2
import PyProof.SeqWrite
import PyProof.SeqI3
import KE.KSortAsk
import PyProof.MeetsSeq3
import PyProof.FactsAll.list_2
import PyProof.Rows.SortWalk
import PyProof.ExcArgsOwn
import KE.KTryMore
import PyProof.MakeMany
import PyProof.CallType
import PyProof.CallRoads
import PyProof.FactsAll.str_0
import PyProof.FactsAll.str_5
import PyProof.FactsAll.list_0
import PyProof.FactsAll.list_3
import PyProof.FactsAll.list_4
import PyProof.FactsAll.dict_3
import PyProof.ForRange
import PyProof.Rows.Range3
import KE.KStateDown
import PyProof.CompMap
import PyProof.ExcAttrAll.ValueError
import PyProof.CompUse
import PyProof.Raises
import PyProof.Rows.TupAssign
import PyProof.ForAny
import PyProof.EnumFor
import PyProof.EnumMake
import PyProof.ExcBaseAll.ValueError
import PyProof.NsDelKeeps
import PyProof.RulesAs
import OpenK.KWalk
import PyProof.Rows.Top
import PyProof.Rows.TupIn
import Wide.BridgeG
import Wide.Loose
import Open.Head
import PySem.Challenge.RW_uf010021_13
namespace Mine.Internal
noncomputable def zZ := @List.mem_cons_self
noncomputable def zY := @List.mem_cons_of_mem
noncomputable def zQ := @List.length_append
noncomputable def zJ := @List.length_map
noncomputable def zK := @List.mem_singleton
noncomputable def zX := @Nat.le_trans
noncomputable def zW := @decide_eq_true
noncomputable def zV := @of_decide_eq_true
noncomputable def zU := @decide_eq_false
noncomputable def zT := @if_pos
noncomputable def zR := @if_neg
noncomputable def zP := @List.mem_append
noncomputable def zN := @List.mem_cons
noncomputable def zM := @List.getElem?_eq_getElem
noncomputable def yY := @List.map_cons
noncomputable def yQ := @List.mem_map
noncomputable def yJ := @List.append_assoc
noncomputable def yK := @Bool.and_eq_true_iff
noncomputable def yX := @PySem.wpAny_bind
noncomputable def yW := @PySem.wpAny_pure
noncomputable def yV := @PySem.wpAny_mono
noncomputable def yU := @PySem.wpAny_holding
end Mine.Internal
open List (all_eq_true all_map append_nil cons_append cons_ne_nil drop_eq_getElem_cons drop_left drop_of_length_le drop_zero eq_nil_of_length_eq_zero ext_getElem? filterMap_cons flatMap_cons flatMap_nil getElem_mem getElem_of_mem length_cons length_drop length_nil length_range length_reverse length_set length_singleton length_take lookup_cons map_append map_congr_left map_id map_map map_nil map_toArray mem_append_left mem_append_right mem_of_getElem? mem_of_mem_drop mem_of_mem_take nodup_append nodup_cons nodup_range not_mem_nil pairwise_singleton perm_append_comm range_add range_succ reverse_cons reverse_perm reverse_reverse set_append_right set_set size_toArray sum_cons take_append_drop take_left take_length take_of_length_le take_take take_zero zip_cons_cons)
set_option tactic.hygienic false
set_option genInjectivity false
set_option Elab.async false
set_option bootstrap.genMatcherCode false
set_option genSizeOf false
set_option linter.unusedSimpArgs false
set_option linter.unusedVariables false
section
set_option maxRecDepth 100000
set_option maxHeartbeats 8000000
namespace Mine.Internal
open PySem PySem.W PyProof.Rows
noncomputable def zaf:List String:=["RingError","BadSize","BadWord","BadBook","BadRing","NoWord","NoRing","NoJoin"]
noncomputable def bTab:List (Str × Value) :=
 [("len",.builtin "len"),("all",.builtin "all"),("any",.builtin "any"),("isinstance",.builtin "isinstance"),("sorted",.builtin "sorted"),("min",.builtin "min"),("sum",.builtin "sum"),
  ("list",.type "list"),("tuple",.type "tuple"),("int",.type "int"),("str",.type "str"),("bool",.type "bool"),("range",.type "range"),("reversed",.type "reversed"),
  ("enumerate",.type "enumerate"),("ValueError",.type "ValueError")]
noncomputable def refB (o:Option (Option Value)) (f:Addr→Bool):Bool:=match o with
 |some (some (.ref C))=>f C
 |_=>false
noncomputable def excOne (K:Frag) (c:String) (C:Addr):Bool :=
 findIn K (.ref C) "__getattribute__" == some (some (.builtin "BaseException.__getattribute__"))&&(findIn K (.ref C) "__getattr__" == some none&&((clsIn K C).isSome&&(findIn K (.ref C) "__class__" == some (some (.builtin "object.__class__")) &&
 (specialIn K (.builtin "object.__class__") "__get__" == some (some (.builtin "getset_descriptor.__get__"))&&(takesIn K (.builtin "object.__class__") == some true &&
 (mroIn K C (.type "object") == some true&&(kitOne K (.ref C) (.type "ValueError") == some true &&
 ((zaf.all fun d=>refB (nsIn K mainGlobals (Str.ofString d)) fun D=>kitOne K (.ref C) (.ref D) == some (c == d||d == "RingError")) &&
 refB (nsIn K mainGlobals (Str.ofString "RingError")) fun D=>exmOne K (.ref C) (.ref D) == some true))))))))
noncomputable def excChk (K:Frag):Bool:=zaf.all fun c=>refB (nsIn K mainGlobals (Str.ofString c)) (excOne K c)
noncomputable def btChk (K:Frag):Bool:=bTab.all fun q=>nsIn K mainGlobals q.1 == some none&&bootBuiltins q.1 == some q.2&&q.1 != ("__name__":Str)
noncomputable def intB (o:Option (Option Value)) (i:Int):Bool:=match o with
 |some (some (.int j _))=>j == i
 |_=>false
noncomputable def zei (K:Frag) (nums:List (String × Int)):Bool:=nums.all fun q=>intB (nsIn K mainGlobals (Str.ofString q.1)) q.2
noncomputable def zkq (h:Heap):List Addr:=zaf.filterMap fun c=>match h.nsMap mainGlobals (Str.ofString c) with
 |some (.ref C)=>some C
 |_=>none
noncomputable def fragAt (h:Heap) (as:List Addr):Frag:=as.filterMap fun a=>(h.get? a).map fun o=>(a,o)
noncomputable def exFrag (h:Heap):Frag:=fragAt h (mainGlobals::zkq h++(zkq h).filterMap fun C=>match h.get? C with
 |some ⟨_,_,.cls cd,_⟩=>some cd.ns
 |_=>none)
noncomputable def hookB (nums:List (String × Int)) (h:Heap):Bool:=excChk (exFrag h)&&btChk (exFrag h)&&zei (exFrag h) nums
noncomputable def keepAt (is:List Nat) (p:Program):Program:={ p with main:={ p.main with body:=(p.main.body.zipIdx.filter fun x=>is.contains x.2).map (·.1) } }
namespace L13
noncomputable def nums:List (String × Int):=[("MOST_SIGNS",9),("MOST_SIZE",8),("MOST_WORDS",256)]
end L13
noncomputable def view:Program:=keepAt ((List.range 48).filter fun i=>!([0,9,21,25,28,33,37].contains i)) PySem.Challenge.rw_uf010021_13.row.prog
theorem b0:PySem.Challenge.rw_uf010021_13.wellSaid=true:=by kernel_rfl
theorem b1:LeftO PySem.Challenge.rw_uf010021_13.row.prog view [] (fun s=>xlAt view [] s&&recOk (RowW.records PySem.Challenge.rw_uf010021_13.row.toRowW) s) (fun s=>hookB L13.nums s.heap) (fun z=>true) 4976:=fun w=>by kernel_rfl
end Mine.Internal
end
namespace Mine.Internal
theorem no {α:Type}{P:Prop}{x:α}(h:(none:Option α)=some x):P:=absurd h.symm (Option.some_ne_none x)
theorem noB {P:Prop}(h:false=true):P:=Bool.noConfusion h
theorem hold {G:Prop}(h:∀ X:Prop,(G→X)→X):G:=h G id
set_option genInjectivity true in
inductive V where
 |uu
 |none
 |bool (b:Bool)
 |int (i:Int)
 |str (s:String)
 |tup (vs:List V)
 |l (vs:List V)
 |ref (i:Nat)
 |exc (c:String)
set_option genInjectivity true in
inductive Cell where
 |list (vs:List V)
 |dict (es:List (V × V))
abbrev H:=List Cell
noncomputable instance:DecidableEq V:=fun z z=>Classical.propDecidable _
noncomputable instance:DecidableEq Cell:=fun z z=>Classical.propDecidable _
inductive R (α:Type) where
 |ok (a:α) (h:H)
 |err (c:String) (h:H)
 |bad
noncomputable def R.bind {α β:Type}(r:R α) (f:α→H→R β):R β :=
 match r with
 |.ok a h=>f a h
 |.err c h=>.err c h
 |.bad=>.bad
@[simp] theorem R.bind_ok {α β:Type}(a:α) (h:H) (f:α→H→R β):(R.ok a h).bind f=f a h:=rfl
noncomputable def R.opt {α:Type}(o:Option α) (h:H):R α :=
 match o with
 |some a=>.ok a h
 |none=>.bad
@[simp] theorem R.opt_some {α:Type}(a:α) (h:H):R.opt (some a) h=.ok a h:=rfl
mutual
noncomputable def V.mapRef (g:Nat→Option V):V→Option V
 |.tup vs=>(V.mapRefs g vs).map .tup
 |.l vs=>(V.mapRefs g vs).map .l
 |.ref i=>g i
 |.uu=>some .uu
 |.none=>some .none
 |.bool b=>some (.bool b)
 |.int i=>some (.int i)
 |.str s=>some (.str s)
 |.exc c=>some (.exc c)
noncomputable def V.mapRefs (g:Nat→Option V):List V→Option (List V)
 |[]=>some []
 |v::vs=>(V.mapRef g v).bind fun v'=>(V.mapRefs g vs).map (v'::·)
end
noncomputable def frzAt:Nat→Nat→H→Nat→Option V
 |0,n,_,i=>if i < n then some (.ref i) else Option.none
 |k+1,n,h,i =>
  if i < n then some (.ref i)
  else match h[i]? with
   |some (.list vs)=>(V.mapRefs (frzAt k n h) vs).map .l
   |_=>Option.none
noncomputable def frz (n:Nat) (h:H) (v:V):Option V:=V.mapRef (frzAt 4 n h) v
mutual
noncomputable def V.plain:V→Bool
 |.tup vs=>V.plains vs
 |.l vs=>V.plains vs
 |.ref _=>false
 |_=>true
noncomputable def V.plains:List V→Bool
 |[]=>true
 |v::vs=>V.plain v&&V.plains vs
end
mutual
theorem zaL (g:Nat→Option V):∀ v:V,v.plain=true→V.mapRef g v=some v
 |.tup vs,h=>congrArg (Option.map V.tup) (zaF g vs h)
 |.l vs,h=>congrArg (Option.map V.l) (zaF g vs h)
 |.ref _,h=>Bool.noConfusion h
 |.uu,_=>rfl
 |.none,_=>rfl
 |.bool _,_=>rfl
 |.int _,_=>rfl
 |.str _,_=>rfl
 |.exc _,_=>rfl
theorem zaF (g:Nat→Option V):∀ vs:List V,V.plains vs=true→V.mapRefs g vs=some vs
 |[],_=>rfl
 |v::vs,h=>by
  have h:=yK.1 (show(V.plain v&&V.plains vs)=true from h);show((V.mapRef g v).bind fun v'=>(V.mapRefs g vs).map (v'::·))=_;rw[zaL g v h.1,zaF g vs h.2];rfl
end
noncomputable def items (h:H):V→Option (List V)
 |.l vs=>some vs
 |.tup vs=>some vs
 |.ref i=>match h[i]? with
  |some (.list vs)=>some vs
  |_=>Option.none
 |_=>Option.none
noncomputable def litems (h:H):V→Option (List V)
 |.l vs=>some vs
 |.ref i=>match h[i]? with
  |some (.list vs)=>some vs
  |_=>Option.none
 |_=>Option.none
mutual
noncomputable def peq:V→V→Bool
 |.none,.none=>true
 |.bool a,.bool b=>a == b
 |.bool a,.int b=>(if a then 1 else 0) == b
 |.int a,.bool b=>a == (if b then 1 else 0)
 |.int a,.int b=>a == b
 |.str a,.str b=>a == b
 |.tup a,.tup b=>peqs a b
 |.l a,.l b=>peqs a b
 |_,_=>false
noncomputable def peqs:List V→List V→Bool
 |[],[]=>true
 |a::as,b::bs=>peq a b&&peqs as bs
 |_,_=>false
end
theorem zlp:peq .none .none=true:=rfl
theorem zlq (a b:Bool):peq (.bool a) (.bool b)=(a == b):=rfl
theorem zeh (a b:Int):peq (.int a) (.int b)=(a == b):=rfl
theorem zoc (a b:String):peq (.str a) (.str b)=(a == b):=rfl
theorem zob (a b:List V):peq (.tup a) (.tup b)=peqs a b:=rfl
theorem zeg (a b:List V):peq (.l a) (.l b)=peqs a b:=rfl
theorem zjA (a b:V) (as bs:List V):peqs (a::as) (b::bs)=(peq a b&&peqs as bs):=rfl
noncomputable def V.ok:Nat→V→Bool
 |0,_=>false
 |n+1,v=>match v with
  |.uu=>false
  |.exc _=>false
  |.ref _=>false
  |.tup vs=>vs.all (V.ok n)
  |.l vs=>vs.all (V.ok n)
  |_=>true
noncomputable def pyEq (h:H) (a b:V):Option Bool :=
 match frz 0 h a,frz 0 h b with
 |some a,some b=>if V.ok 8 a&&V.ok 8 b then some (peq a b) else Option.none
 |_,_=>Option.none
noncomputable def asInts:List V→Option (List Int)
 |[]=>some []
 |.int i::vs=>(asInts vs).map (i::·)
 |_=>Option.none
noncomputable def lexLt:List Int→List Int→Bool
 |[],[]=>false
 |[],_::_=>true
 |_::_,[]=>false
 |a::as,b::bs=>if a=b then lexLt as bs else decide (a < b)
noncomputable def pyLt:V→V→Option Bool
 |.int a,.int b=>some (decide (a < b))
 |_,_=>Option.none
inductive Cop where
 |eq|ne|lt|le|gt|ge|is|isNot|isin|notIn
noncomputable def zh6:V→Option (List V)
 |.l vs=>some vs
 |.tup vs=>some vs
 |_=>Option.none
noncomputable def isIn (h:H) (a b:V):Option Bool :=
 match frz 0 h a,frz 0 h b with
 |some a,some b=>if V.ok 8 a&&V.ok 8 b then(zh6 b).map fun vs=>vs.any fun y=>peq y a else Option.none
 |_,_=>Option.none
noncomputable def tupT:V→Option (List Int)
 |.tup vs=>asInts vs
 |_=>Option.none
noncomputable def isI:V→Bool
 |.int _=>true
 |_=>false
noncomputable def keyOk (k:V):Bool:=isI k||(tupT k).isSome
noncomputable def keyFit (k:V) (es:List (V × V)):Bool :=
 match k with
 |.int _=>es.all fun e=>isI e.1
 |k=>(tupT k).isSome&&es.all fun e=>(tupT e.1).isSome
noncomputable def dfind (k:V):List (V × V)→Option V
 |[]=>Option.none
 |(k',v)::es=>if k=k' then some v else dfind k es
noncomputable def dput (k v:V):List (V × V)→List (V × V)
 |[]=>[(k,v)]
 |(k',v')::es=>if k=k' then(k',v)::es else(k',v')::dput k v es
noncomputable def pyIn (h:H) (a b:V):Option Bool :=
 match b with
 |.ref i=>match h[i]? with
  |some (.dict es)=>if keyFit a es then some (dfind a es).isSome else Option.none
  |_=>isIn h a b
 |_=>isIn h a b
noncomputable def pyIs (a b:V):Option Bool :=
 match b with
 |.none=>match a with
  |.none=>some true
  |.uu=>Option.none
  |_=>some false
 |_=>Option.none
noncomputable def pyCmp (op:Cop) (h:H) (a b:V):Option Bool :=
 match op with
 |.eq=>pyEq h a b
 |.ne=>(pyEq h a b).map (!·)
 |.lt=>pyLt a b
 |.gt=>pyLt b a
 |.le=>(pyLt b a).map (!·)
 |.ge=>(pyLt a b).map (!·)
 |.is=>pyIs a b
 |.isNot=>(pyIs a b).map (!·)
 |.isin=>pyIn h a b
 |.notIn=>(pyIn h a b).map (!·)
inductive Bop where
 |add|sub|mul|fdiv|mod
noncomputable def rep {α:Type}(vs:List α) (n:Int):List α:=(List.replicate n.toNat vs).flatten
noncomputable def mkL (vs:List V):Option V:=if vs.length≤1000000 then some (.l vs) else Option.none
noncomputable def mkT (vs:List V):Option V:=if vs.length≤1000000 then some (.tup vs) else Option.none
noncomputable def int2 (f:Int→Int→Option V) (a b:V):Option V :=
 match a with
 |.int x=>match b with
  |.int y=>f x y
  |_=>Option.none
 |_=>Option.none
noncomputable def pyAdd (h:H) (a b:V):Option V :=
 match a with
 |.int x=>match b with
  |.int y=>some (.int (x+y))
  |_=>Option.none
 |a=>(litems h a).bind fun x=>(litems h b).bind fun y=>mkL (x++y)
noncomputable def pyMul (h:H) (a b:V):Option V :=
 match b with
 |.int n=>match a with
  |.int x=>if x.natAbs < 9223372036854775808∨n.natAbs < 9223372036854775808 then some (.int (x * n)) else Option.none
  |a=>if -1000000 < n∧n < 1000000 then(litems h a).bind fun vs=>mkL (rep vs n) else Option.none
 |_=>Option.none
noncomputable def pyBin (op:Bop) (h:H) (a b:V):Option V :=
 match op with
 |.add=>pyAdd h a b
 |.sub=>int2 (fun x y=>some (.int (x - y))) a b
 |.mul=>pyMul h a b
 |.fdiv=>int2 (fun x y=>if y=0 then Option.none else some (.int (x.fdiv y))) a b
 |.mod=>int2 (fun x y=>if y=0 then Option.none else some (.int (x.fmod y))) a b
inductive Int2C (f:Int→Int→Option V):V→V→Prop
 |none {a b:V}(e:int2 f a b=Option.none):Int2C f a b
 |ints (x y:Int):Int2C f (.int x) (.int y)
theorem zcj (f:Int→Int→Option V) (a b:V):Int2C f a b:=by
 cases a with
 |int x=>cases b with
  |int y=>exact .ints x y
  |_=>exact .none rfl
 |_=>exact .none rfl
inductive AddC (h:H):V→V→Prop
 |none {a b:V}(e:pyAdd h a b=Option.none):AddC h a b
 |ints (x y:Int):AddC h (.int x) (.int y)
 |tups (x y:List V):AddC h (.tup x) (.tup y)
 |lsts {a b:V}(x y:List V) (ha:litems h a=some x) (hb:litems h b=some y) (e:pyAdd h a b=mkL (x++y)):AddC h a b
theorem zc2 (h:H) (a b:V):AddC h a b:=by
 have go:pyAdd h a b=((litems h a).bind fun x=>(litems h b).bind fun y=>mkL (x++y))→AddC h a b:=fun e=>by
  cases ha:litems h a with
  |none=>rw[ha] at e;exact .none e
  |some x=>cases hb:litems h b with
   |none=>rw[ha,hb] at e;exact .none e
   |some y=>rw[ha,hb] at e;exact .lsts x y ha hb e
 cases a with
 |int x=>cases b with
  |int y=>exact .ints x y
  |_=>exact .none rfl
 |_=>exact go rfl
inductive MulC (h:H):V→V→Prop
 |none {a b:V}(e:pyMul h a b=Option.none):MulC h a b
 |ints (x y:Int):MulC h (.int x) (.int y)
 |lsts {a:V}(n:Int) (e:pyMul h a (.int n)=if -1000000 < n∧n < 1000000 then(litems h a).bind fun vs=>mkL (rep vs n) else Option.none):MulC h a (.int n)
theorem zc1 (h:H) (a b:V):MulC h a b:=by
 cases b with
 |int n=>cases a with
  |int x=>exact .ints x n
  |_=>exact .lsts n rfl
 |_=>exact .none rfl
noncomputable def place (n:Nat) (i:Int):Option Nat :=
 if 0≤i then(if i < n then some i.toNat else Option.none)
 else if 0≤i+n then some (i+n).toNat else Option.none
noncomputable def pyIdx (h:H) (a i:V):Option V :=
 match a with
 |.ref r=>match h[r]? with
  |some (.dict es)=>if keyFit i es then dfind i es else Option.none
  |some (.list vs)=>match i with
   |.int k=>(place vs.length k).bind fun j=>vs[j]?
   |_=>Option.none
  |none=>Option.none
 |.l vs=>match i with
  |.int k=>(place vs.length k).bind fun j=>vs[j]?
  |_=>Option.none
 |.tup vs=>match i with
  |.int k=>(place vs.length k).bind fun j=>vs[j]?
  |_=>Option.none
 |_=>Option.none
noncomputable def cut (n:Nat) (i:Int):Nat :=
 if i < 0 then(i+n).toNat else min i.toNat n
noncomputable def slc {α:Type}(vs:List α) (lo hi:Option Int):List α :=
 let a:=match lo with|some i=>cut vs.length i|none=>0
 let b:=match hi with|some i=>cut vs.length i|none=>vs.length
 (vs.take b).drop a
noncomputable def asInt?:V→Option Int
 |.int i=>some i
 |_=>Option.none
noncomputable def zbM (h:H) (a:V) (lo hi:Option V):Option V :=
 match lo.mapM asInt?,hi.mapM asInt? with
 |some lo,some hi=>(litems h a).map fun vs=>.l (slc vs lo hi)
 |_,_=>Option.none
set_option genInjectivity true in
inductive Ty where
 |int|bool|list|tuple|valueError
 |own (c:String)
deriving DecidableEq
noncomputable def isExc (c:String) (t:Ty):Option Bool :=
 if zaf.contains c then
  match t with
  |.own d=>if zaf.contains d then some (c == d||d == "RingError") else Option.none
  |.valueError=>some true
  |_=>Option.none
 else Option.none
noncomputable def refTy:Option Cell→Ty→Option Bool
 |some (.list _),t=>some (t == .list)
 |some (.dict _),_=>some false
 |none,_=>Option.none
noncomputable def isTy (h:H) (v:V) (t:Ty):Option Bool :=
 match v with
 |.uu=>Option.none
 |.exc _=>Option.none
 |.ref i=>refTy h[i]? t
 |.l _=>some (t == .list)
 |.tup _=>some (t == .tuple)
 |.bool _=>some (t == .bool||t == .int)
 |.int _=>some (t == .int)
 |_=>some false
noncomputable def isTys (h:H) (v:V):List Ty→Option Bool
 |[]=>some false
 |t::ts=>match isTy h v t with
  |some true=>some true
  |some false=>isTys h v ts
  |none=>Option.none
noncomputable def truthy:V→Option Bool
 |.bool b=>some b
 |_=>Option.none
inductive Bf where
 |len|list|tuple|sorted|min|sum|any|all|int|str|listRev|listRange
noncomputable def Bf.walks (f:Bf):Bool:=f.casesOn false false false true true true true true false false true true
noncomputable def Bf.ready (f:Bf):Bool:=f.casesOn true true true
 true
 false
 true
 false
 true
 true
 false
 true
 true
noncomputable def isort {α:Type}(lt:α→α→Bool):List α→List α
 |[]=>[]
 |x::xs=>insertBy' lt x (isort lt xs)
where
 insertBy' (lt:α→α→Bool) (x:α):List α→List α
  |[]=>[x]
  |y::ys=>if lt y x then y::insertBy' lt x ys else x::y::ys
noncomputable def V.ints (l:List Int):V:=.l (l.map .int)
noncomputable def V.words (l:List (List Int)):V:=.l (l.map V.ints)
noncomputable def keyed {α:Type}(f:V→Option α):List V→Option (List (α × V))
 |[]=>some []
 |v::vs=>(f v).bind fun a=>(keyed f vs).map ((a,v)::·)
noncomputable def keyL (h:H) (v:V):Option (List Int):=(litems h v).bind asInts
noncomputable def keyI:V→Option Int
 |.int i=>some i
 |_=>Option.none
noncomputable def sortBy {α:Type} [DecidableEq α] (lt:α→α→Bool) (l:List (α × V)):Option (List V) :=
 if l.length≤1000&&l.all (fun p=>l.all fun q=>decide (p.1=q.1→p.2=q.2)) then some ((isort (fun a b=>lt a.1 b.1) l).map (·.2)) else Option.none
noncomputable def sortVs (h:H) (vs:List V):Option (List V) :=
 match keyed keyI vs with
 |some l=>sortBy (fun a b=>decide (a < b)) l
 |none=>match keyed (keyL h) vs with
  |some l=>sortBy lexLt l
  |none=>Option.none
noncomputable def zgp (a:List Int) (v:V):List (List Int × V)→V
 |[]=>v
 |p::l=>if lexLt p.1 a then zgp p.1 p.2 l else zgp a v l
noncomputable def minVs (h:H) (vs:List V):Option V :=
 match keyed (keyL h) vs with
 |some (p::l)=>some (zgp p.1 p.2 l)
 |_=>Option.none
noncomputable def zby:List V→Option (List Bool)
 |[]=>some []
 |.bool b::r=>(zby r).map (b::·)
 |_=>Option.none
noncomputable def upto (n:Int):List V:=(List.range n.toNat).map fun(i:Nat)=>.int (i:Int)
noncomputable def fromTo (a b:Int):List V:=(List.range (b - a).toNat).map fun(i:Nat)=>.int (a+(i:Int))
noncomputable def fromBy (a b k:Int):List V:=(List.range ((b - a+k - 1).fdiv k).toNat).map fun(i:Nat)=>.int (a+(i:Int) * k)
noncomputable def sumI (l:List Int):Option V:=if l.length≤1000∧∀ i∈l,0≤i∧i≤1000000 then some (.int l.sum) else Option.none
noncomputable def bf (f:Bf) (h:H) (v:V):Option V :=
 match f with
 |.len=>match v with
  |.ref i=>match h[i]? with
   |some (.list vs)=>some (.int vs.length)
   |some (.dict _)=>Option.none
   |none=>Option.none
  |_=>(items h v).map fun vs=>.int vs.length
 |.list=>(items h v).map .l
 |.tuple=>(items h v).map .tup
 |.listRev=>(litems h v).map fun vs=>.l vs.reverse
 |.sorted=>(litems h v).bind fun vs=>(sortVs h vs).map .l
 |.min=>(litems h v).bind (minVs h)
 |.sum=>(litems h v).bind fun vs=>(asInts vs).bind sumI
 |.any=>(litems h v).bind fun vs=>(zby vs).map fun bs=>.bool (bs.any id)
 |.all=>(litems h v).bind fun vs=>(zby vs).map fun bs=>.bool (bs.all id)
 |.int=>match v with
  |.bool b=>some (.int (if b then 1 else 0))
  |_=>Option.none
 |.str=>match v with
  |.int i=>if 0≤i∧i < 100 then some (.str (toString i)) else Option.none
  |_=>Option.none
 |.listRange=>match v with
  |.int n=>if -1000000≤n∧n≤1000000 then some (.l (upto n)) else Option.none
  |_=>Option.none
abbrev Watch:=Option (Nat × Cell)
noncomputable def Watch.ok (w:Watch) (h:H):Bool :=
 match w with
 |none=>true
 |some (i,c)=>decide (h[i]?=some c)
@[simp] theorem Watch.ok_none (h:H):Watch.ok none h=true:=rfl
noncomputable def iterOf (h:H):V→Option (List V × Watch)
 |.l vs=>some (vs,Option.none)
 |.tup vs=>some (vs,Option.none)
 |.ref i=>match h[i]? with
  |some (.list vs)=>some (vs,some (i,.list vs))
  |some (.dict _)=>Option.none
  |none=>Option.none
 |_=>Option.none
set_option genCtorIdx false in
mutual
inductive PE where
 |none|bool (b:Bool)|int (i:Int)|str (s:String)
 |v (i:Nat)
 |glob (g:String) (i:Int)
 |bin (op:Bop) (a b:PE)
 |neg (i:Int)
 |not (a:PE)
 |and (es:List PE)|or (es:List PE)
 |cmp (op:Cop) (a b:PE)
 |cmp2 (op1 op2:Cop) (a b c:PE)
 |list (es:List PE)|tup (es:List PE)
 |idx (a i:PE)
 |slice (a:PE) (lo hi:Option PE)
 |rev (a:PE)
 |isinst (a:PE) (ts:List Ty)
 |isexc (x:Nat) (t:Ty)        -- isinstance of the caught exception
 |callX (f:String) (x:Nat)    -- a call with the caught exception
 |bf (f:Bf) (a:PE)
 |comp (elt:PE) (x:Nat) (it:PIt) (cond:Option PE)
 |call (keep:Bool) (f:String) (args:List PE)
 |own (a:PE)                    -- a fresh list,as a cell
 |newDict                         -- {},as a cell
 |append (o a:PE)|remove (o a:PE)
 |clear (o:PE)
 |pop (o:PE)|popAt (o i:PE)
 |get (o k d:PE)|setdef (o k d:PE)
 |dict1 (k v:PE)                -- {k: v},as a cell
inductive PIt where
 |seq (e:PE)
 |range1 (a:PE)|range2 (a b:PE)|range3 (a b c:PE)
 |enum (e:PE)
end
set_option genCtorIdx false in
inductive PS where
 |expr (e:PE)
 |asg (x:Nat) (e:PE)
 |asgT (xs:List Nat) (e:PE)
 |setIdx (o i e:PE)
 |swap (o i o' i' e:PE)
 |ret (e:PE)
 |ifs (t:PE) (a b:List PS)
 |for1 (x:Nat) (it:PIt) (body:List PS)
 |for2 (x y:Nat) (it:PIt) (body:List PS)
 |while (t:PE) (body:List PS)
 |raise (c:String)
 |try (body:List PS) (c:String) (x:Nat) (handler:List PS)
 |pass
structure FnDef where
 arity:Nat
 slots:Nat
 body:List PS
abbrev Tab:=String→Option FnDef
abbrev Fn:=Bool→String→List V→H→R V
noncomputable def pcall (h:H) (r:R V):R V :=
 match r with
 |.ok v h'=>if h'.take h.length=h then R.opt (Mine.Internal.frz h.length h' v) h else .bad
 |.err c h'=>if h'.take h.length=h then .err c h else .bad
 |.bad=>.bad
noncomputable def seti (h:H) (o i v:V):Option H :=
 match o with
 |.ref r=>match h[r]? with
  |some (.list vs)=>match i with
   |.int k=>(place vs.length k).map fun j=>h.set r (.list (vs.set j v))
   |_=>Option.none
  |some (.dict es)=>if keyFit i es&&decide (es.length≤1000) then some (h.set r (.dict (dput i v es))) else Option.none
  |none=>Option.none
 |_=>Option.none
noncomputable def zkr (h:H) (a:V):List V→Option (List V)
 |[]=>Option.none
 |b::bs=>match pyEq h b a with
  |some true=>some bs
  |some false=>(zkr h a bs).map (b::·)
  |none=>Option.none
noncomputable def onList (h:H) (o:V) (f:List V→Option (V × List V)):R V :=
 match o with
 |.ref r=>match h[r]? with
  |some (.list vs)=>match f vs with
   |some (v,vs')=>if vs'.length≤1000000 then .ok v (h.set r (.list vs')) else .bad
   |none=>.bad
  |_=>.bad
 |_=>.bad
noncomputable def lcell (h:H) (o:V):Bool :=
 match o with
 |.ref r=>match h[r]? with
  |some (.list _)=>true
  |_=>false
 |_=>false
noncomputable def dcell (h:H) (o:V):Bool :=
 match o with
 |.ref r=>match h[r]? with
  |some (.dict _)=>true
  |_=>false
 |_=>false
noncomputable def onDict (h:H) (o k:V) (f:Nat→List (V × V)→R V):R V :=
 match o with
 |.ref r=>match h[r]? with
  |some (.dict es)=>if keyFit k es then f r es else .bad
  |_=>.bad
 |_=>.bad
noncomputable def setDef (h:H) (x y z:V):R V :=
 onDict h x y fun r es=>match dfind y es with
  |some v=>.ok v h
  |Option.none=>if es.length≤1000 then .ok z (h.set r (.dict (es++[(y,z)]))) else .bad
noncomputable def getDef (h:H) (x y z:V):R V:=onDict h x y fun u es=>.ok ((dfind y es).getD z) h
noncomputable def rng3 (m n k:Int) (h:H):R (List V × Watch) :=
 if 0 < k∧k≤1000000 then .ok (fromBy m n k,Option.none) h else .bad
noncomputable def zaj (n:Nat):List V→List V
 |[]=>[]
 |v::vs=>.tup [.int n,v]::zaj (n+1) vs
noncomputable def enumOf (h:H):V→Option (List V × Watch)
 |.ref i=>match h[i]? with
  |some (.list vs)=>some (zaj 0 vs,some (i,.list vs))
  |_=>Option.none
 |_=>Option.none
noncomputable def compL (w:Watch) (elt:V→H→R V) (cond:V→H→R V):List V→H→R (List V)
 |[],h=>if w.ok h then .ok [] h else .bad
 |x::xs,h=>if w.ok h then(cond x h).bind fun b h=>match truthy b with
  |some true=>(elt x h).bind fun v h=>(compL w elt cond xs h).bind fun vs h=>.ok (v::vs) h
  |some false=>compL w elt cond xs h
  |none=>.bad
  else .bad
mutual
noncomputable def evE (q:Bool) (F:Fn) (ρ:List V):PE→H→R V
 |.none,h=>.ok .none h
 |.bool b,h=>.ok (.bool b) h
 |.int i,h=>.ok (.int i) h
 |.str s,h=>.ok (.str s) h
 |.v i,h=>match ρ[i]? with
  |some .uu=>.bad
  |some (.exc _)=>.bad
  |some v=>.ok v h
  |Option.none=>.bad
 |.glob _ i,h=>.ok (.int i) h
 |.bin op a b,h=>(evE q F ρ a h).bind fun x h=>(evE q F ρ b h).bind fun y h=>R.opt (pyBin op h x y) h
 |.neg i,h=>.ok (.int (-i)) h
 |.not a,h=>(evE q F ρ a h).bind fun x h=>match truthy x with
  |some b=>.ok (.bool (!b)) h
  |Option.none=>.bad
 |.and es,h=>evAnd q F ρ es h
 |.or es,h=>evOr q F ρ es h
 |.cmp op a b,h=>(evE q F ρ a h).bind fun x h=>(evE q F ρ b h).bind fun y h=>R.opt ((pyCmp op h x y).map .bool) h
 |.cmp2 op1 op2 a b c,h=>(evE q F ρ a h).bind fun x h=>(evE q F ρ b h).bind fun y h=>match pyCmp op1 h x y with
  |some true=>(evE q F ρ c h).bind fun z h=>R.opt ((pyCmp op2 h y z).map .bool) h
  |some false=>.ok (.bool false) h
  |Option.none=>.bad
 |.list es,h=>(evEs q F ρ es h).bind fun vs h=>R.opt (mkL vs) h
 |.tup es,h=>(evEs q F ρ es h).bind fun vs h=>R.opt (mkT vs) h
 |.idx a i,h=>(evE q F ρ a h).bind fun x h=>(evE q F ρ i h).bind fun y h=>R.opt (pyIdx h x y) h
 |.slice a lo hi,h=>(evE q F ρ a h).bind fun x h=>(evO q F ρ lo h).bind fun l h=>(evO q F ρ hi h).bind fun u h=>R.opt (zbM h x l u) h
 |.rev a,h=>(evE q F ρ a h).bind fun x h=>R.opt ((litems h x).map fun vs=>.l vs.reverse) h
 |.isinst a ts,h=>(evE q F ρ a h).bind fun x h=>R.opt ((isTys h x ts).map .bool) h
 |.isexc x t,h=>match ρ[x]? with
  |some (.exc c)=>R.opt ((isExc c t).map .bool) h
  |_=>.bad
 |.callX f x,h=>match ρ[x]? with
  |some (.exc c)=>pcall h (F q f [.exc c] h)
  |_=>.bad
 |.bf f a,h=>if(!q&&f.walks)||!f.ready then .bad else(evE q F ρ a h).bind fun x h=>R.opt (Mine.Internal.bf f h x) h
 |.comp elt x it cond,h=>if !q then .bad else(evIt q F ρ it h).bind fun vs h =>
   match compL vs.2 (fun v h=>evE q F (ρ.set x v) elt h) (fun v h=>evC q F (ρ.set x v) cond h) vs.1 h with
   |.ok r h=>R.opt (mkL r) h
   |_=>.bad
 |.call k f args,h=>(evEs q F ρ args h).bind fun vs h=>if k then F q f vs h else pcall h (F q f vs h)
 |.own a,h=>(evE q F ρ a h).bind fun x h=>match x with
  |.l vs=>.ok (.ref h.length) (h++[.list vs])
  |_=>.bad
 |.newDict,h=>.ok (.ref h.length) (h++[.dict []])
 |.append o a,h=>(evE q F ρ o h).bind fun x h=>if lcell h x then(evE q F ρ a h).bind fun y h=>onList h x fun vs=>some (.none,vs++[y]) else .bad
 |.clear o,h=>(evE q F ρ o h).bind fun x h=>onList h x fun w=>some (.none,[])
 |.remove o a,h=>(evE q F ρ o h).bind fun x h=>if lcell h x then(evE q F ρ a h).bind fun y h=>onList h x fun vs=>(zkr h y vs).map fun r=>(.none,r) else .bad
 |.pop o,h=>(evE q F ρ o h).bind fun x h=>onList h x fun vs=>(vs.getLast?).map fun v=>(v,vs.dropLast)
 |.popAt o i,h=>(evE q F ρ o h).bind fun x h=>if lcell h x then(evE q F ρ i h).bind fun y h=>match y with
  |.int k=>onList h x fun vs=>(place vs.length k).bind fun j=>(vs[j]?).map fun v=>(v,vs.eraseIdx j)
  |_=>.bad
  else .bad
 |.get o k d,h=>(evE q F ρ o h).bind fun x h=>if dcell h x then(evE q F ρ k h).bind fun y h=>(evE q F ρ d h).bind fun z h=>getDef h x y z else .bad
 |.setdef o k d,h=>(evE q F ρ o h).bind fun x h=>if dcell h x then(evE q F ρ k h).bind fun y h=>(evE q F ρ d h).bind fun z h=>setDef h x y z else .bad
 |.dict1 _ _,_=>.bad
noncomputable def evEs (q:Bool) (F:Fn) (ρ:List V):List PE→H→R (List V)
 |[],h=>.ok [] h
 |e::es,h=>(evE q F ρ e h).bind fun v h=>(evEs q F ρ es h).bind fun vs h=>.ok (v::vs) h
noncomputable def evO (q:Bool) (F:Fn) (ρ:List V):Option PE→H→R (Option V)
 |Option.none,h=>.ok Option.none h
 |some e,h=>(evE q F ρ e h).bind fun v h=>.ok (some v) h
noncomputable def evC (q:Bool) (F:Fn) (ρ:List V):Option PE→H→R V
 |Option.none,h=>.ok (.bool true) h
 |some e,h=>evE q F ρ e h
noncomputable def evAnd (q:Bool) (F:Fn) (ρ:List V):List PE→H→R V
 |[],_=>.bad
 |[e],h=>evE q F ρ e h
 |e::es,h=>(evE q F ρ e h).bind fun x h=>match truthy x with
  |some true=>evAnd q F ρ es h
  |some false=>.ok x h
  |Option.none=>.bad
noncomputable def evOr (q:Bool) (F:Fn) (ρ:List V):List PE→H→R V
 |[],_=>.bad
 |[e],h=>evE q F ρ e h
 |e::es,h=>(evE q F ρ e h).bind fun x h=>match truthy x with
  |some true=>.ok x h
  |some false=>evOr q F ρ es h
  |Option.none=>.bad
noncomputable def evIt (q:Bool) (F:Fn) (ρ:List V):PIt→H→R (List V × Watch)
 |.seq e,h=>(evE q F ρ e h).bind fun x h=>R.opt (iterOf h x) h
 |.range1 a,h=>(evE q F ρ a h).bind fun x h=>match x with
  |.int n=>if -1000000≤n∧n≤1000000 then .ok (upto n,Option.none) h else .bad
  |_=>.bad
 |.range2 a b,h=>(evE q F ρ a h).bind fun x h=>(evE q F ρ b h).bind fun y h=>match x,y with
  |.int m,.int n=>if -1000000≤m∧m≤1000000∧-1000000≤n∧n≤1000000 then .ok (fromTo m n,Option.none) h else .bad
  |_,_=>.bad
 |.range3 a b c,h=>(evE q F ρ a h).bind fun x h=>(evE q F ρ b h).bind fun y h=>(evE q F ρ c h).bind fun z h=>match x,y,z with
  |.int m,.int n,.int k=>if -1000000≤m∧m≤1000000∧-1000000≤n∧n≤1000000 then
    rng3 m n k h else .bad
  |_,_,_=>.bad
 |.enum e,h=>(evE q F ρ e h).bind fun x h=>R.opt (enumOf h x) h
end
set_option genInjectivity true in
inductive Fl where
 |next
 |ret (v:V)
inductive RS where
 |ok (f:Fl) (ρ:List V) (h:H)
 |err (c:String) (ρ:List V) (h:H)
 |bad
noncomputable def R.st {α:Type}(r:R α) (ρ:List V) (f:α→H→RS):RS :=
 match r with
 |.ok a h=>f a h
 |.err c h=>.err c ρ h
 |.bad=>.bad
@[simp] theorem R.st_ok {α:Type}(a:α) (h:H) (ρ:List V) (f:α→H→RS):(R.ok a h).st ρ f=f a h:=rfl
noncomputable def RS.then (r:RS) (f:List V→H→RS):RS :=
 match r with
 |.ok .next ρ h=>f ρ h
 |r=>r
@[simp] theorem RS.then_next (ρ:List V) (h:H) (f:List V→H→RS):(RS.ok .next ρ h).then f=f ρ h:=rfl
noncomputable def setAll (ρ:List V):List Nat→List V→Option (List V)
 |[],[]=>some ρ
 |x::xs,v::vs=>setAll (ρ.set x v) xs vs
 |_,_=>Option.none
noncomputable def bind1 (x:Nat) (ρ:List V) (v:V):Option (List V):=some (ρ.set x v)
noncomputable def bind2 (x y:Nat) (ρ:List V) (v:V):Option (List V) :=
 match v with
 |.tup [a,b]=>some ((ρ.set x a).set y b)
 |_=>Option.none
noncomputable def forL (w:Watch) (bindv:List V→V→Option (List V)) (body:List V→H→RS):List V→List V→H→RS
 |[],ρ,h=>if w.ok h then .ok .next ρ h else .bad
 |v::vs,ρ,h=>if w.ok h then(match bindv ρ v with
   |some ρ'=>(body ρ' h).then fun ρ h=>forL w bindv body vs ρ h
   |none=>.bad) else .bad
noncomputable def whileL (test:List V→H→R V) (body:List V→H→RS):Nat→List V→H→RS
 |0,_,_=>.bad
 |n+1,ρ,h=>(test ρ h).st ρ fun b h=>match truthy b with
  |some true=>(body ρ h).then fun ρ h=>whileL test body n ρ h
  |some false=>.ok .next ρ h
  |none=>.bad
noncomputable def turns:Nat:=1000000
noncomputable def noneS (_:V) (ρ:List V) (h:H):RS:=.ok .next ρ h
noncomputable def putAt (q:Bool) (F:Fn) (ρ:List V) (o i:PE) (v:V) (h:H):RS :=
 (evE q F ρ o h).st ρ fun x h=>(evE q F ρ i h).st ρ fun y h=>if lcell h x then(match seti h x y v with
  |some h=>.ok .next ρ h
  |Option.none=>.bad) else .bad
noncomputable def put2 (v:V) (f:V→V→RS):RS :=
 match v with
 |.tup [a,b]=>f a b
 |_=>.bad
mutual
noncomputable def exS (q:Bool) (F:Fn):PS→List V→H→RS
 |.expr e,ρ,h=>(evE q F ρ e h).st ρ fun v h=>noneS v ρ h
 |.asg x e,ρ,h=>(evE q F ρ e h).st ρ fun v h=>.ok .next (ρ.set x v) h
 |.asgT xs e,ρ,h=>if !q then .bad else(evE q F ρ e h).st ρ fun v h=>match v with
  |.tup vs=>(match setAll ρ xs vs with
   |some ρ=>.ok .next ρ h
   |Option.none=>.bad)
  |_=>.bad
 |.setIdx o i e,ρ,h=>(evE q F ρ e h).st ρ fun v h=>(evE q F ρ o h).st ρ fun x h=>(evE q F ρ i h).st ρ fun y h=>match seti h x y v with
  |some h=>.ok .next ρ h
  |Option.none=>.bad
 |.swap o i o' i' e,ρ,h=>if !q then .bad else(evE q F ρ e h).st ρ fun v h=>put2 v fun a b=>(putAt q F ρ o i a h).then fun ρ h=>putAt q F ρ o' i' b h
 |.ret e,ρ,h=>(evE q F ρ e h).st ρ fun v h=>.ok (.ret v) ρ h
 |.ifs t a b,ρ,h=>(evE q F ρ t h).st ρ fun x h=>match truthy x with
  |some true=>exSs q F a ρ h
  |some false=>exSs q F b ρ h
  |Option.none=>.bad
 |.for1 x it body,ρ,h=>if !q then .bad else(evIt q F ρ it h).st ρ fun vs h=>forL vs.2 (bind1 x) (fun ρ h=>exSs q F body ρ h) vs.1 ρ h
 |.for2 x y it body,ρ,h=>if !q then .bad else(evIt q F ρ it h).st ρ fun vs h=>forL vs.2 (bind2 x y) (fun ρ h=>exSs q F body ρ h) vs.1 ρ h
 |.while t body,ρ,h=>if !q then .bad else whileL (fun ρ h=>evE q F ρ t h) (fun ρ h=>exSs q F body ρ h) turns ρ h
 |.raise c,ρ,h=>if !q then .bad else .err c ρ h
 |.try body c x handler,ρ,h=>if !q then .bad else match exSs q F body ρ h with
  |.err d ρ h=>if zaf.contains d&&c == "RingError" then(match exSs false F handler (ρ.set x (.exc d)) h with
    |.ok f ρ h=>.ok f (ρ.set x .uu) h
    |.err _ _ _=>.bad
    |.bad=>.bad) else .bad
  |r=>r
 |.pass,ρ,h=>.ok .next ρ h
noncomputable def exSs (q:Bool) (F:Fn):List PS→List V→H→RS
 |[],ρ,h=>.ok .next ρ h
 |s::ss,ρ,h=>(exS q F s ρ h).then fun ρ h=>exSs q F ss ρ h
end
noncomputable def RS.out (r:RS):R V :=
 match r with
 |.ok (.ret v) _ h=>.ok v h
 |.ok .next _ h=>.ok .none h
 |.err c _ h=>.err c h
 |.bad=>.bad
noncomputable def runD (q:Bool) (F:Fn) (d:FnDef) (vs:List V) (h:H):R V :=
 if vs.length=d.arity then(exSs q F d.body (vs++List.replicate (d.slots - d.arity) .uu) h).out else .bad
noncomputable def run (P:Tab):Nat→Fn
 |0=>fun z z z z=>.bad
 |n+1=>fun q f vs h=>match P f with
  |some d=>runD q (run P n) d vs h
  |Option.none=>.bad
theorem zld (hf:P f=some d) (n:Nat) (q:Bool) (vs:List V) (h:H) :
  run P (n+1) q f vs h=runD q (run P n) d vs h:=by
 show(match P f with|some d=>runD q (run P n) d vs h|Option.none=>.bad)=_
 rw[hf]
theorem zoR (n:Nat) (h:H) (i:Nat):frzAt 0 n h i=if i < n then some (.ref i) else Option.none:=rfl
theorem zeE (k n:Nat) (h:H) (i:Nat):frzAt (k+1) n h i=if i < n then some (.ref i) else match h[i]? with
   |some (.list vs)=>(V.mapRefs (frzAt k n h) vs).map .l
   |_=>Option.none:=rfl
theorem zdb (a b:Int) (as bs:List Int):lexLt (a::as) (b::bs)=if a=b then lexLt as bs else decide (a < b):=rfl
theorem zoH {α:Type}(lt:α→α→Bool) (x:α) (xs:List α):isort lt (x::xs)=isort.insertBy' lt x (isort lt xs):=rfl
theorem zcK {α:Type}(lt:α→α→Bool) (x y:α) (ys:List α):isort.insertBy' lt x (y::ys)=if lt y x then y::isort.insertBy' lt x ys else x::y::ys:=rfl
theorem zoy {α:Type}(f:V→Option α) (v:V) (vs:List V):keyed f (v::vs)=(f v).bind fun a=>(keyed f vs).map ((a,v)::·):=rfl
theorem zdh (k k' v:V) (es:List (V × V)):dfind k ((k',v)::es)=if k=k' then some v else dfind k es:=rfl
theorem zfN (k v k' v':V) (es:List (V × V)):dput k v ((k',v')::es)=if k=k' then(k',v)::es else(k',v')::dput k v es:=rfl
theorem zgK (w:Watch) (elt cond:V→H→R V) (h:H):compL w elt cond [] h=if w.ok h then .ok [] h else .bad:=rfl
theorem zgL (w:Watch) (elt cond:V→H→R V) (x:V) (xs:List V) (h:H):compL w elt cond (x::xs) h=if w.ok h then(cond x h).bind fun b h=>match truthy b with
  |some true=>(elt x h).bind fun v h=>(compL w elt cond xs h).bind fun vs h=>.ok (v::vs) h
  |some false=>compL w elt cond xs h
  |none=>.bad
  else .bad:=rfl
theorem znd (w:Watch) (bindv:List V→V→Option (List V)) (body:List V→H→RS) (ρ:List V) (h:H):forL w bindv body [] ρ h=if w.ok h then .ok .next ρ h else .bad:=rfl
theorem zhm (w:Watch) (bindv:List V→V→Option (List V)) (body:List V→H→RS) (v:V) (vs ρ:List V) (h:H):forL w bindv body (v::vs) ρ h=if w.ok h then(match bindv ρ v with
   |some ρ'=>(body ρ' h).then fun ρ h=>forL w bindv body vs ρ h
   |none=>.bad) else .bad:=rfl
theorem zkZ (test:List V→H→R V) (body:List V→H→RS) (n:Nat) (ρ:List V) (h:H):whileL test body (n+1) ρ h=(test ρ h).st ρ fun b h=>match truthy b with
  |some true=>(body ρ h).then fun ρ h=>whileL test body n ρ h
  |some false=>.ok .next ρ h
  |none=>.bad:=rfl
theorem zsp (q:Bool) (F:Fn) (ρ:List V)  (h):evE q F ρ .none h=.ok .none h:=rfl
theorem zse (q:Bool) (F:Fn) (ρ:List V) (b) (h):evE q F ρ (.bool b) h=.ok (.bool b) h:=rfl
theorem zpX (q:Bool) (F:Fn) (ρ:List V) (i) (h):evE q F ρ (.int i) h=.ok (.int i) h:=rfl
theorem zso (q:Bool) (F:Fn) (ρ:List V) (s) (h):evE q F ρ (.str s) h=.ok (.str s) h:=rfl
theorem zsd (q:Bool) (F:Fn) (ρ:List V) (i) (h):evE q F ρ (.v i) h=match ρ[i]? with
  |some .uu=>.bad
  |some (.exc _)=>.bad
  |some v=>.ok v h
  |Option.none=>.bad:=rfl
theorem zrl (q:Bool) (F:Fn) (ρ:List V) (i) (u1) (h):evE q F ρ (.glob u1 i) h=.ok (.int i) h:=rfl
theorem zkX (q:Bool) (F:Fn) (ρ:List V) (op) (a) (b) (h):evE q F ρ (.bin op a b) h=(evE q F ρ a h).bind fun x h=>(evE q F ρ b h).bind fun y h=>R.opt (pyBin op h x y) h:=rfl
theorem zrx (q:Bool) (F:Fn) (ρ:List V) (i) (h):evE q F ρ (.neg i) h=.ok (.int (-i)) h:=rfl
theorem zmY (q:Bool) (F:Fn) (ρ:List V) (a) (h):evE q F ρ (.not a) h=(evE q F ρ a h).bind fun x h=>match truthy x with
  |some b=>.ok (.bool (!b)) h
  |Option.none=>.bad:=rfl
theorem zn7 (q:Bool) (F:Fn) (ρ:List V) (es) (h):evE q F ρ (.and es) h=evAnd q F ρ es h:=rfl
theorem zgh (q:Bool) (F:Fn) (ρ:List V) (es) (h):evE q F ρ (.or es) h=evOr q F ρ es h:=rfl
theorem zbo (q:Bool) (F:Fn) (ρ:List V) (op) (a) (b) (h):evE q F ρ (.cmp op a b) h=(evE q F ρ a h).bind fun x h=>(evE q F ρ b h).bind fun y h=>R.opt ((pyCmp op h x y).map .bool) h:=rfl
theorem zjx (q:Bool) (F:Fn) (ρ:List V) (op1) (op2) (a) (b) (c) (h):evE q F ρ (.cmp2 op1 op2 a b c) h=(evE q F ρ a h).bind fun x h=>(evE q F ρ b h).bind fun y h=>match pyCmp op1 h x y with
  |some true=>(evE q F ρ c h).bind fun z h=>R.opt ((pyCmp op2 h y z).map .bool) h
  |some false=>.ok (.bool false) h
  |Option.none=>.bad:=rfl
theorem zjw (q:Bool) (F:Fn) (ρ:List V) (es) (h):evE q F ρ (.list es) h=(evEs q F ρ es h).bind fun vs h=>R.opt (mkL vs) h:=rfl
theorem zjv (q:Bool) (F:Fn) (ρ:List V) (es) (h):evE q F ρ (.tup es) h=(evEs q F ρ es h).bind fun vs h=>R.opt (mkT vs) h:=rfl
theorem zce (q:Bool) (F:Fn) (ρ:List V) (a) (i) (h):evE q F ρ (.idx a i) h=(evE q F ρ a h).bind fun x h=>(evE q F ρ i h).bind fun y h=>R.opt (pyIdx h x y) h:=rfl
theorem zlm (q:Bool) (F:Fn) (ρ:List V) (a) (lo) (hi) (h):evE q F ρ (.slice a lo hi) h=(evE q F ρ a h).bind fun x h=>(evO q F ρ lo h).bind fun l h=>(evO q F ρ hi h).bind fun u h=>R.opt (zbM h x l u) h:=rfl
theorem zpZ (q:Bool) (F:Fn) (ρ:List V) (a) (h):evE q F ρ (.rev a) h=(evE q F ρ a h).bind fun x h=>R.opt ((litems h x).map fun vs=>.l vs.reverse) h:=rfl
theorem zll (q:Bool) (F:Fn) (ρ:List V) (a) (ts) (h):evE q F ρ (.isinst a ts) h=(evE q F ρ a h).bind fun x h=>R.opt ((isTys h x ts).map .bool) h:=rfl
theorem zrB (q:Bool) (F:Fn) (ρ:List V) (x) (t) (h):evE q F ρ (.isexc x t) h=match ρ[x]? with
  |some (.exc c)=>R.opt ((isExc c t).map .bool) h
  |_=>.bad:=rfl
theorem zrA (q:Bool) (F:Fn) (ρ:List V) (f) (x) (h):evE q F ρ (.callX f x) h=match ρ[x]? with
  |some (.exc c)=>pcall h (F q f [.exc c] h)
  |_=>.bad:=rfl
theorem zju (q:Bool) (F:Fn) (ρ:List V) (f) (a) (h):evE q F ρ (.bf f a) h=if(!q&&f.walks)||!f.ready then .bad else(evE q F ρ a h).bind fun x h=>R.opt (Mine.Internal.bf f h x) h:=rfl
theorem zpY (q:Bool) (F:Fn) (ρ:List V) (elt) (x) (it) (cond) (h):evE q F ρ (.comp elt x it cond) h=if !q then .bad else(evIt q F ρ it h).bind fun vs h =>
   match compL vs.2 (fun v h=>evE q F (ρ.set x v) elt h) (fun v h=>evC q F (ρ.set x v) cond h) vs.1 h with
   |.ok r h=>R.opt (mkL r) h
   |_=>.bad:=rfl
theorem za2 (q:Bool) (F:Fn) (ρ:List V) (k) (f) (args) (h):evE q F ρ (.call k f args) h=(evEs q F ρ args h).bind fun vs h=>if k then F q f vs h else pcall h (F q f vs h):=rfl
theorem zlk (q:Bool) (F:Fn) (ρ:List V) (a) (h):evE q F ρ (.own a) h=(evE q F ρ a h).bind fun x h=>match x with
  |.l vs=>.ok (.ref h.length) (h++[.list vs])
  |_=>.bad:=rfl
theorem zlj (q:Bool) (F:Fn) (ρ:List V) (o) (a) (h):evE q F ρ (.append o a) h=(evE q F ρ o h).bind fun x h=>if lcell h x then(evE q F ρ a h).bind fun y h=>onList h x fun vs=>some (.none,vs++[y]) else .bad:=rfl
theorem zrz (q:Bool) (F:Fn) (ρ:List V) (o) (h):evE q F ρ (.clear o) h=(evE q F ρ o h).bind fun x h=>onList h x fun z=>some (.none,[]):=rfl
theorem zpW (q:Bool) (F:Fn) (ρ:List V) (o) (i) (h):evE q F ρ (.popAt o i) h=(evE q F ρ o h).bind fun x h=>if lcell h x then(evE q F ρ i h).bind fun y h=>match y with
  |.int k=>onList h x fun vs=>(place vs.length k).bind fun j=>(vs[j]?).map fun v=>(v,vs.eraseIdx j)
  |_=>.bad
  else .bad:=rfl
theorem zry (q:Bool) (F:Fn) (ρ:List V) (o) (k) (d) (h):evE q F ρ (.setdef o k d) h=(evE q F ρ o h).bind fun x h=>if dcell h x then(evE q F ρ k h).bind fun y h=>(evE q F ρ d h).bind fun z h=>setDef h x y z else .bad:=rfl
theorem zn6 (q:Bool) (F:Fn) (ρ:List V)  (h):evEs q F ρ [] h=.ok [] h:=rfl
theorem zbn (q:Bool) (F:Fn) (ρ:List V) (e) (es) (h):evEs q F ρ (e::es) h=(evE q F ρ e h).bind fun v h=>(evEs q F ρ es h).bind fun vs h=>.ok (v::vs) h:=rfl
theorem zpV (q:Bool) (F:Fn) (ρ:List V)  (h):evO q F ρ Option.none h=.ok Option.none h:=rfl
theorem zpU (q:Bool) (F:Fn) (ρ:List V) (e) (h):evO q F ρ (some e) h=(evE q F ρ e h).bind fun v h=>.ok (some v) h:=rfl
theorem zsg (q:Bool) (F:Fn) (ρ:List V)  (h):evC q F ρ Option.none h=.ok (.bool true) h:=rfl
theorem zsf (q:Bool) (F:Fn) (ρ:List V) (e) (h):evC q F ρ (some e) h=evE q F ρ e h:=rfl
theorem zn5 (q:Bool) (F:Fn) (ρ:List V) (e) (h):evIt q F ρ (.seq e) h=(evE q F ρ e h).bind fun x h=>R.opt (iterOf h x) h:=rfl
theorem zsn (q:Bool) (F:Fn) (ρ:List V) (a) (h):evIt q F ρ (.range1 a) h=(evE q F ρ a h).bind fun x h=>match x with
  |.int n=>if -1000000≤n∧n≤1000000 then .ok (upto n,Option.none) h else .bad
  |_=>.bad:=rfl
theorem zsc (q:Bool) (F:Fn) (ρ:List V) (a) (b) (c) (h):evIt q F ρ (.range3 a b c) h=(evE q F ρ a h).bind fun x h=>(evE q F ρ b h).bind fun y h=>(evE q F ρ c h).bind fun z h=>match x,y,z with
  |.int m,.int n,.int k=>if -1000000≤m∧m≤1000000∧-1000000≤n∧n≤1000000 then
    rng3 m n k h else .bad
  |_,_,_=>.bad:=rfl
theorem zsb (q:Bool) (F:Fn) (ρ:List V) (e) (h):evIt q F ρ (.enum e) h=(evE q F ρ e h).bind fun x h=>R.opt (enumOf h x) h:=rfl
theorem zrw (q:Bool) (F:Fn) (e) (ρ) (h):exS q F (.expr e) ρ h=(evE q F ρ e h).st ρ fun v h=>noneS v ρ h:=rfl
theorem zli (q:Bool) (F:Fn) (x) (e) (ρ) (h):exS q F (.asg x e) ρ h=(evE q F ρ e h).st ρ fun v h=>.ok .next (ρ.set x v) h:=rfl
theorem zrt (q:Bool) (F:Fn) (o) (i) (e) (ρ) (h):exS q F (.setIdx o i e) ρ h=(evE q F ρ e h).st ρ fun v h=>(evE q F ρ o h).st ρ fun x h=>(evE q F ρ i h).st ρ fun y h=>match seti h x y v with
  |some h=>.ok .next ρ h
  |Option.none=>.bad:=rfl
theorem zsk (q:Bool) (F:Fn) (o) (i) (o') (i') (e) (ρ) (h):exS q F (.swap o i o' i' e) ρ h=if !q then .bad else(evE q F ρ e h).st ρ fun v h=>put2 v fun a b=>(putAt q F ρ o i a h).then fun ρ h=>putAt q F ρ o' i' b h:=rfl
theorem zpT (q:Bool) (F:Fn) (e) (ρ) (h):exS q F (.ret e) ρ h=(evE q F ρ e h).st ρ fun v h=>.ok (.ret v) ρ h:=rfl
theorem zlh (q:Bool) (F:Fn) (t) (a) (b) (ρ) (h):exS q F (.ifs t a b) ρ h=(evE q F ρ t h).st ρ fun x h=>match truthy x with
  |some true=>exSs q F a ρ h
  |some false=>exSs q F b ρ h
  |Option.none=>.bad:=rfl
theorem zsj (q:Bool) (F:Fn) (x) (it) (body) (ρ) (h):exS q F (.for1 x it body) ρ h=if !q then .bad else(evIt q F ρ it h).st ρ fun vs h=>forL vs.2 (bind1 x) (fun ρ h=>exSs q F body ρ h) vs.1 ρ h:=rfl
theorem zsa (q:Bool) (F:Fn) (x) (y) (it) (body) (ρ) (h):exS q F (.for2 x y it body) ρ h=if !q then .bad else(evIt q F ρ it h).st ρ fun vs h=>forL vs.2 (bind2 x y) (fun ρ h=>exSs q F body ρ h) vs.1 ρ h:=rfl
theorem zn4 (q:Bool) (F:Fn) (t) (body) (ρ) (h):exS q F (.while t body) ρ h=if !q then .bad else whileL (fun ρ h=>evE q F ρ t h) (fun ρ h=>exSs q F body ρ h) turns ρ h:=rfl
theorem zrv (q:Bool) (F:Fn) (c) (ρ) (h):exS q F (.raise c) ρ h=if !q then .bad else .err c ρ h:=rfl
theorem zn3 (q:Bool) (F:Fn) (body) (c) (x) (handler) (ρ) (h):exS q F (.try body c x handler) ρ h=if !q then .bad else match exSs q F body ρ h with
  |.err d ρ h=>if zaf.contains d&&c == "RingError" then(match exSs false F handler (ρ.set x (.exc d)) h with
    |.ok f ρ h=>.ok f (ρ.set x .uu) h
    |.err _ _ _=>.bad
    |.bad=>.bad) else .bad
  |r=>r:=rfl
theorem zru (q:Bool) (F:Fn)  (ρ) (h):exS q F .pass ρ h=.ok .next ρ h:=rfl
theorem zrs (q:Bool) (F:Fn)  (ρ) (h):exSs q F [] ρ h=.ok .next ρ h:=rfl
theorem zn2 (q:Bool) (F:Fn) (s) (ss) (ρ) (h):exSs q F (s::ss) ρ h=(exS q F s ρ h).then fun ρ h=>exSs q F ss ρ h:=rfl
theorem zsr (q:Bool) (F:Fn) (ρ:List V) (h:H):evAnd q F ρ [] h=.bad:=rfl
theorem zsq (q:Bool) (F:Fn) (ρ:List V) (e:PE) (h:H):evAnd q F ρ [e] h=evE q F ρ e h:=rfl
theorem zrC (q:Bool) (F:Fn) (ρ:List V) (e d:PE) (es:List PE) (h:H):evAnd q F ρ (e::d::es) h=(evE q F ρ e h).bind fun x h=>match truthy x with
  |some true=>evAnd q F ρ (d::es) h
  |some false=>.ok x h
  |Option.none=>.bad:=rfl
theorem zsm (q:Bool) (F:Fn) (ρ:List V) (h:H):evOr q F ρ [] h=.bad:=rfl
theorem zsl (q:Bool) (F:Fn) (ρ:List V) (e:PE) (h:H):evOr q F ρ [e] h=evE q F ρ e h:=rfl
theorem zmX (q:Bool) (F:Fn) (ρ:List V) (e d:PE) (es:List PE) (h:H):evOr q F ρ (e::d::es) h=(evE q F ρ e h).bind fun x h=>match truthy x with
  |some true=>.ok x h
  |some false=>evOr q F ρ (d::es) h
  |Option.none=>.bad:=rfl
end Mine.Internal
namespace Mine.Internal
open PySem
structure Ck where
 ctx:List (Str × Nat)
 names:List (Str × NameKind)
 fns:List String
 nums:List (String × Int)
noncomputable def zf2 (k:Option NameKind):Bool:=k == some .local||k == some .cell||k == some .free
noncomputable def Ck.var (c:Ck) (x:Str) (i:Nat):Bool:=c.ctx.lookup x == some i&&zf2 (c.names.lookup x)&&!(x == ("__debug__":Str))&&!(x == ("__classdict__":Str))
noncomputable def Ck.glob (c:Ck) (x:Str):Bool:=c.names.lookup x == some .globalImplicit&&!(x == ("__debug__":Str))
noncomputable def bopM:Bop→Operator
 |.add=>.Add|.sub=>.Sub|.mul=>.Mult|.fdiv=>.FloorDiv|.mod=>.Mod
noncomputable def copM:Cop→CmpOp
 |.eq=>.Eq|.ne=>.NotEq|.lt=>.Lt|.le=>.LtE|.gt=>.Gt|.ge=>.GtE|.is=>.Is|.isNot=>.IsNot|.isin=>.In|.notIn=>.NotIn
noncomputable def bopIs (op:Bop) (o:Operator):Bool:=decide (bopM op=o)
noncomputable def copIs (op:Cop) (o:CmpOp):Bool:=decide (copM op=o)
noncomputable def tyName:Ty→Str
 |.int=>"int"|.bool=>"bool"|.list=>"list"|.tuple=>"tuple"|.valueError=>"ValueError"
 |.own c=>Str.ofString c
noncomputable def isStar (e:Expr):Bool:=@Expr.casesOn (fun z=>Bool) e (fun z z z=>false) (fun z z z=>false) (fun z z z z=>false) (fun z z z=>false) (fun z z z z=>false) (fun z z z z=>false) (fun z z z=>false) (fun z z z=>false) (fun z z z z=>false) (fun z z z z=>false) (fun z z z z z=>false) (fun z z z z=>false) (fun z z=>false) (fun z z=>false) (fun z z=>false) (fun z z z z=>false) (fun z z z z=>false) (fun z z z z=>false) (fun z z=>false) (fun z z z=>false) (fun z z z=>false) (fun z z z=>false) (fun z z=>true) (fun z z=>false) (fun z z=>false) (fun z z z=>false) (fun z z z z=>false)
noncomputable def zoS (o:Bop):Bool:=@Bop.casesOn (fun z=>Bool) o
 true
 false
 true
 false false
noncomputable def freshF (f:Bf):Bool:=@Bf.casesOn (fun z=>Bool) f false true false false false false false false false false true true
noncomputable def freshE (e:PE):Bool:=@PE.casesOn (fun z=>Bool) e false (fun z=>false) (fun z=>false) (fun z=>false) (fun z=>false) (fun z z=>false) (fun o z z=>zoS o) (fun z=>false) (fun z=>false) (fun z=>false) (fun z=>false)
 (fun z z z=>false) (fun z z z z z=>false) (fun z=>true) (fun z=>false)
 (fun z z=>false) (fun z z z=>true) (fun z=>false) (fun z z=>false) (fun z z=>false) (fun z z=>false) (fun f z=>freshF f)
 (fun z z z z=>true) (fun z z z=>false) (fun z=>false) false (fun z z=>false) (fun z z=>false)
 (fun z=>false)
 (fun z=>false) (fun z z=>false) (fun z z z=>false) (fun z z z=>false) (fun z z=>false)
noncomputable def okBase (e:Expr):Bool:=@Expr.casesOn (fun z=>Bool) e (fun z z z=>true) (fun z z z=>true) (fun z z z z=>true) (fun z z z=>true) (fun z z z z=>true) (fun z z z z=>true) (fun z z z=>true) (fun z z z=>true) (fun z z z z=>true) (fun z z z z=>true) (fun z z z z z=>true) (fun z z z z=>true) (fun z z=>true) (fun z z=>true) (fun z z=>true) (fun z z z z=>true) (fun z z z z=>false) (fun z z z z=>true) (fun z z=>true) (fun z z z=>true) (fun z z z=>true) (fun z z z=>true) (fun z z=>true) (fun z z=>true) (fun z z=>true) (fun z z z=>true) (fun z z z z=>true)
noncomputable def isSet (e:Expr):Bool:=@Expr.casesOn (fun z=>Bool) e (fun z z z=>false) (fun z z z=>false) (fun z z z z=>false) (fun z z z=>false) (fun z z z z=>false) (fun z z z z=>false) (fun z z z=>false) (fun z z z=>true) (fun z z z z=>false) (fun z z z z=>false) (fun z z z z z=>false) (fun z z z z=>false) (fun z z=>false) (fun z z=>false) (fun z z=>false) (fun z z z z=>false) (fun z z z z=>false) (fun z z z z=>false) (fun z z=>false) (fun z z z=>false) (fun z z z=>false) (fun z z z=>false) (fun z z=>false) (fun z z=>false) (fun z z=>false) (fun z z z=>false) (fun z z z z=>false)
noncomputable def tyPl:Ty→Bool
 |.own _|.valueError=>false
 |_=>true
theorem al (h:(a&&b)=true):a=true:=(yK.mp h).1
theorem ar (h:(a&&b)=true):b=true:=(yK.mp h).2
theorem nt (h:(!a)=true):a=false:=by cases a;rfl;cases h
theorem zag {c:Prop} [Decidable c] {g:c→Bool}{G:Prop}(h:(dite c g fun z=>false)=true) (k:∀ hc,g hc=true→G):G :=
 if hc:c then k hc ((dif_pos hc).symm.trans h) else noB ((dif_neg hc).symm.trans h)
noncomputable def xConst (e:Expr) (v0:Const) (p:Bool):Bool:=dite (e.ctorIdx=19) (fun hc=>(@Expr.Constant.elim (fun z=>Bool) e hc fun v z z=>decide (v=v0)&&p)) fun z=>false
theorem za9 {G:Expr→Prop}(h:xConst e v0 p=true) (k:∀ n q,p=true→G (.Constant v0 n q)):G e :=
 zag h fun hc h=>@Expr.Constant.elim (fun e=>∀ hc:e.ctorIdx=19,(@Expr.Constant.elim (fun z=>Bool) e hc fun v z z=>decide (v=v0)&&p)=true→G e) e hc (fun v n q z h=>(show G (.Constant v n q) from by cases zV (al h);exact k n q (ar h))) hc h
noncomputable def xName (e:Expr) (p:Str→Bool):Bool:=dite (e.ctorIdx=23) (fun hc=>(@Expr.Name.elim (fun z=>Bool) e hc fun x z=>p x)) fun z=>false
theorem zaR {p:Str→Bool}{G:Expr→Prop}(h:xName e p=true) (k:∀ x q,p x=true→G (.Name x q)):G e :=
 zag h fun hc h=>@Expr.Name.elim (fun e=>∀ hc:e.ctorIdx=23,(@Expr.Name.elim (fun z=>Bool) e hc fun x z=>p x)=true→G e) e hc (fun x q z h=>k x q h) hc h
noncomputable def zcO (e:Expr) (x0:Str) (p:Bool):Bool:=dite (e.ctorIdx=23) (fun hc=>(@Expr.Name.elim (fun z=>Bool) e hc fun x z=>decide (x=x0)&&p)) fun z=>false
theorem zbC {G:Expr→Prop}(h:zcO e x0 p=true) (k:∀ q,p=true→G (.Name x0 q)):G e :=
 zag h fun hc h=>@Expr.Name.elim (fun e=>∀ hc:e.ctorIdx=23,(@Expr.Name.elim (fun z=>Bool) e hc fun x z=>decide (x=x0)&&p)=true→G e) e hc (fun x q z h=>(show G (.Name x q) from by cases zV (al h);exact k q (ar h))) hc h
noncomputable def xBin (e:Expr) (o0:Operator) (p:Expr→Expr→Bool):Bool:=dite (e.ctorIdx=2) (fun hc=>(@Expr.BinOp.elim (fun z=>Bool) e hc fun l o r z=>decide (o=o0)&&p l r)) fun z=>false
theorem zpf {p:Expr→Expr→Bool}{G:Expr→Prop}(h:xBin e o0 p=true) (k:∀ l r q,p l r=true→G (.BinOp l o0 r q)):G e :=
 zag h fun hc h=>@Expr.BinOp.elim (fun e=>∀ hc:e.ctorIdx=2,(@Expr.BinOp.elim (fun z=>Bool) e hc fun l o r z=>decide (o=o0)&&p l r)=true→G e) e hc (fun l o r q z h=>(show G (.BinOp l o r q) from by cases zV (al h);exact k l r q (ar h))) hc h
noncomputable def xUn (e:Expr) (o0:UnaryOp) (p:Expr→Bool):Bool:=dite (e.ctorIdx=3) (fun hc=>(@Expr.UnaryOp.elim (fun z=>Bool) e hc fun o y z=>decide (o=o0)&&p y)) fun z=>false
theorem ziZ {p:Expr→Bool}{G:Expr→Prop}(h:xUn e o0 p=true) (k:∀ y q,p y=true→G (.UnaryOp o0 y q)):G e :=
 zag h fun hc h=>@Expr.UnaryOp.elim (fun e=>∀ hc:e.ctorIdx=3,(@Expr.UnaryOp.elim (fun z=>Bool) e hc fun o y z=>decide (o=o0)&&p y)=true→G e) e hc (fun o y q z h=>(show G (.UnaryOp o y q) from by cases zV (al h);exact k y q (ar h))) hc h
noncomputable def xBool (e:Expr) (o0:BoolOp) (p:List Expr→Bool):Bool:=dite (e.ctorIdx=0) (fun hc=>(@Expr.BoolOp.elim (fun z=>Bool) e hc fun o ys z=>decide (o=o0)&&p ys)) fun z=>false
theorem zhD {p:List Expr→Bool}{G:Expr→Prop}(h:xBool e o0 p=true) (k:∀ ys q,p ys=true→G (.BoolOp o0 ys q)):G e :=
 zag h fun hc h=>@Expr.BoolOp.elim (fun e=>∀ hc:e.ctorIdx=0,(@Expr.BoolOp.elim (fun z=>Bool) e hc fun o ys z=>decide (o=o0)&&p ys)=true→G e) e hc (fun o ys q z h=>(show G (.BoolOp o ys q) from by cases zV (al h);exact k ys q (ar h))) hc h
noncomputable def xCmp (e:Expr) (p:Expr→List CmpOp→List Expr→Bool):Bool:=dite (e.ctorIdx=15) (fun hc=>(@Expr.Compare.elim (fun z=>Bool) e hc fun l os rs z=>p l os rs)) fun z=>false
theorem zkF {p:Expr→List CmpOp→List Expr→Bool}{G:Expr→Prop}(h:xCmp e p=true) (k:∀ l os rs q,p l os rs=true→G (.Compare l os rs q)):G e :=
 zag h fun hc h=>@Expr.Compare.elim (fun e=>∀ hc:e.ctorIdx=15,(@Expr.Compare.elim (fun z=>Bool) e hc fun l os rs z=>p l os rs)=true→G e) e hc (fun l os rs q z h=>k l os rs q h) hc h
noncomputable def xList (e:Expr) (p:List Expr→Bool):Bool:=dite (e.ctorIdx=24) (fun hc=>(@Expr.List.elim (fun z=>Bool) e hc fun xs z=>p xs)) fun z=>false
theorem zlP {p:List Expr→Bool}{G:Expr→Prop}(h:xList e p=true) (k:∀ xs q,p xs=true→G (.List xs q)):G e :=
 zag h fun hc h=>@Expr.List.elim (fun e=>∀ hc:e.ctorIdx=24,(@Expr.List.elim (fun z=>Bool) e hc fun xs z=>p xs)=true→G e) e hc (fun xs q z h=>k xs q h) hc h
noncomputable def xTup (e:Expr) (p:List Expr→Bool):Bool:=dite (e.ctorIdx=25) (fun hc=>(@Expr.Tuple.elim (fun z=>Bool) e hc fun xs z z=>p xs)) fun z=>false
theorem zd4 {p:List Expr→Bool}{G:Expr→Prop}(h:xTup e p=true) (k:∀ xs n q,p xs=true→G (.Tuple xs n q)):G e :=
 zag h fun hc h=>@Expr.Tuple.elim (fun e=>∀ hc:e.ctorIdx=25,(@Expr.Tuple.elim (fun z=>Bool) e hc fun xs z z=>p xs)=true→G e) e hc (fun xs n q z h=>k xs n q h) hc h
noncomputable def xDict (e:Expr) (p:List (Option Expr)→List Expr→Bool):Bool:=dite (e.ctorIdx=6) (fun hc=>(@Expr.Dict.elim (fun z=>Bool) e hc fun ks vs z=>p ks vs)) fun z=>false
theorem zmx {p:List (Option Expr)→List Expr→Bool}{G:Expr→Prop}(h:xDict e p=true) (k:∀ ks vs q,p ks vs=true→G (.Dict ks vs q)):G e :=
 zag h fun hc h=>@Expr.Dict.elim (fun e=>∀ hc:e.ctorIdx=6,(@Expr.Dict.elim (fun z=>Bool) e hc fun ks vs z=>p ks vs)=true→G e) e hc (fun ks vs q z h=>k ks vs q h) hc h
noncomputable def xSub (e:Expr) (p:Expr→Expr→Bool):Bool:=dite (e.ctorIdx=21) (fun hc=>(@Expr.Subscript.elim (fun z=>Bool) e hc fun v i z=>p v i)) fun z=>false
theorem zcd {p:Expr→Expr→Bool}{G:Expr→Prop}(h:xSub e p=true) (k:∀ v i q,p v i=true→G (.Subscript v i q)):G e :=
 zag h fun hc h=>@Expr.Subscript.elim (fun e=>∀ hc:e.ctorIdx=21,(@Expr.Subscript.elim (fun z=>Bool) e hc fun v i z=>p v i)=true→G e) e hc (fun v i q z h=>k v i q h) hc h
noncomputable def xSlice (e:Expr) (p:Option Expr→Option Expr→Option Expr→Bool):Bool:=dite (e.ctorIdx=26) (fun hc=>(@Expr.Slice.elim (fun z=>Bool) e hc fun l u d z=>p l u d)) fun z=>false
theorem ze8 {p:Option Expr→Option Expr→Option Expr→Bool}{G:Expr→Prop}(h:xSlice e p=true) (k:∀ l u d q,p l u d=true→G (.Slice l u d q)):G e :=
 zag h fun hc h=>@Expr.Slice.elim (fun e=>∀ hc:e.ctorIdx=26,(@Expr.Slice.elim (fun z=>Bool) e hc fun l u d z=>p l u d)=true→G e) e hc (fun l u d q z h=>k l u d q h) hc h
noncomputable def xCall (e:Expr) (p:Expr→List Expr→List Keyword→Pos→Bool):Bool:=dite (e.ctorIdx=16) (fun hc=>(@Expr.Call.elim (fun z=>Bool) e hc fun f xs ks q=>p f xs ks q)) fun z=>false
theorem zhz {p:Expr→List Expr→List Keyword→Pos→Bool}{G:Expr→Prop}(h:xCall e p=true) (k:∀ f xs ks q,p f xs ks q=true→G (.Call f xs ks q)):G e :=
 zag h fun hc h=>@Expr.Call.elim (fun e=>∀ hc:e.ctorIdx=16,(@Expr.Call.elim (fun z=>Bool) e hc fun f xs ks q=>p f xs ks q)=true→G e) e hc (fun f xs ks q z h=>k f xs ks q h) hc h
noncomputable def xAttr (e:Expr) (m0:Str) (p:Expr→Pos→Bool):Bool:=dite (e.ctorIdx=20) (fun hc=>(@Expr.Attribute.elim (fun z=>Bool) e hc fun v m q=>decide (m=m0)&&p v q)) fun z=>false
theorem zmF {p:Expr→Pos→Bool}{G:Expr→Prop}(h:xAttr e m0 p=true) (k:∀ v q,p v q=true→G (.Attribute v m0 q)):G e :=
 zag h fun hc h=>@Expr.Attribute.elim (fun e=>∀ hc:e.ctorIdx=20,(@Expr.Attribute.elim (fun z=>Bool) e hc fun v m q=>decide (m=m0)&&p v q)=true→G e) e hc (fun v m q z h=>(show G (.Attribute v m q) from by cases zV (al h);exact k v q (ar h))) hc h
noncomputable def xLC (e:Expr) (p:Expr→List Comprehension→Scope→Bool):Bool:=dite (e.ctorIdx=8) (fun hc=>(@Expr.ListComp.elim (fun z=>Bool) e hc fun y gs sc z=>p y gs sc)) fun z=>false
theorem zm9 {p:Expr→List Comprehension→Scope→Bool}{G:Expr→Prop}(h:xLC e p=true) (k:∀ y gs sc q,p y gs sc=true→G (.ListComp y gs sc q)):G e :=
 zag h fun hc h=>@Expr.ListComp.elim (fun e=>∀ hc:e.ctorIdx=8,(@Expr.ListComp.elim (fun z=>Bool) e hc fun y gs sc z=>p y gs sc)=true→G e) e hc (fun y gs sc q z h=>k y gs sc q h) hc h
noncomputable def one {α:Type}(l:List α) (p:α→Bool):Bool:=@List.casesOn α (fun z=>Bool) l false fun x t=>@List.casesOn α (fun z=>Bool) t (p x) fun z z=>false
theorem zal {α:Type}{l:List α}{p:α→Bool}{G:List α→Prop}(h:one l p=true) (k:∀ x,p x=true→G [x]):G l :=
 @List.casesOn α (fun l=>one l p=true→G l) l noB (fun x t=>@List.casesOn α (fun t=>one (x::t) p=true→G (x::t)) t (k x) fun z z=>noB) h
noncomputable def two {α:Type}(l:List α) (p:α→α→Bool):Bool:=@List.casesOn α (fun z=>Bool) l false fun x t=>one t (p x)
theorem zbl {α:Type}{l:List α}{p:α→α→Bool}{G:List α→Prop}(h:two l p=true) (k:∀ x y,p x y=true→G [x,y]):G l :=
 @List.casesOn α (fun l=>two l p=true→G l) l noB (fun x t h=>zal (G:=fun t=>G (x::t)) h (k x)) h
noncomputable def three {α:Type}(l:List α) (p:α→α→α→Bool):Bool:=@List.casesOn α (fun z=>Bool) l false fun x t=>two t (p x)
theorem zi2 {α:Type}{l:List α}{p:α→α→α→Bool}{G:List α→Prop}(h:three l p=true) (k:∀ x y z,p x y z=true→G [x,y,z]):G l :=
 @List.casesOn α (fun l=>three l p=true→G l) l noB (fun x t h=>zbl (G:=fun t=>G (x::t)) h (k x)) h
theorem zaI {α:Type}{l:List α}{G:List α→Prop}(h:l.isEmpty=true) (k:G []):G l:=by
 cases l with
 |nil=>exact k
 |cons _ _=>cases h
noncomputable def oneO {α:Type}(o:Option α) (p:α→Bool):Bool:=@Option.casesOn α (fun z=>Bool) o false p
theorem zbg {α:Type}{o:Option α}{p:α→Bool}{G:Option α→Prop}(h:oneO o p=true) (k:∀ x,p x=true→G (some x)):G o :=
 @Option.casesOn α (fun o=>oneO o p=true→G o) o noB k h
theorem zb0 {α:Type}{o:Option α}{G:Option α→Prop}(h:o.isNone=true) (k:G none):G o:=by
 cases o with
 |none=>exact k
 |some _=>cases h
noncomputable def xNamed (e:Expr) (f:Str) (p:List Expr→Bool):Bool:=xCall e fun g xs ks z=>ks.isEmpty&&(zcO g f true&&p xs)
theorem zay {e:Expr}{f:Str}{p:List Expr→Bool}{G:Expr→Prop}(h:xNamed e f p=true) (k:∀ xs q q',p xs=true→G (.Call (.Name f q) xs [] q')):G e :=
 zhz h fun g xs ks q' h=>zaI (G:=fun ks=>G (.Call g xs ks q')) (al h) (zbC (G:=fun g=>G (.Call g xs [] q')) (al (ar h)) fun q z=>k xs q q' (ar (ar h)))
noncomputable def xMeth (e:Expr) (m:Str) (p:Expr→List Expr→Bool):Bool:=xCall e fun g xs ks q'=>ks.isEmpty&&xAttr g m fun v q=>q.endLine == q'.line&&p v xs
theorem zcI {e:Expr}{m:Str}{p:Expr→List Expr→Bool}{G:Expr→Prop}(h:xMeth e m p=true) (k:∀ v xs q q',(q.endLine == q'.line)=true→p v xs=true→G (.Call (.Attribute v m q) xs [] q')):G e :=
 zhz h fun g xs ks q' h=>zaI (G:=fun ks=>G (.Call g xs ks q')) (al h) (zmF (G:=fun g=>G (.Call g xs [] q')) (ar h) fun v q h=>k v xs q q' (al h) (ar h))
noncomputable def xGen (gs:List Comprehension) (p:Str→Expr→List Expr→Bool):Bool:=one gs fun g=>decide (g.is_async=0)&&xName g.target fun x=>p x g.iter g.ifs
theorem zkf {gs:List Comprehension}{p:Str→Expr→List Expr→Bool}{G:List Comprehension→Prop}(h:xGen gs p=true) (k:∀ x iter ifs q,p x iter ifs=true→G [⟨.Name x q,iter,ifs,0⟩]):G gs :=
 zal h fun g h=>by
  obtain⟨t,iter,ifs,d⟩:=g
  cases zV (al h)
  exact zaR (G:=fun t=>G [⟨t,iter,ifs,0⟩]) (ar h) fun x q h=>k x iter ifs q h
noncomputable def ckTy (c:Ck) (t:Ty) (e:Expr):Bool:=zcO e (tyName t) true&&c.glob (tyName t)
theorem zeM (h:ckTy c t e=true):∃ p,e=.Name (tyName t) p∧c.glob (tyName t)=true :=
 zbC (G:=fun e=>∃ p,e=.Name (tyName t) p∧c.glob (tyName t)=true) (al h) fun q z=>⟨q,rfl,ar h⟩
noncomputable def ckTys (c:Ck):List Ty→List Expr→Bool
 |[],[]=>true
 |t::ts,e::es=>ckTy c t e&&ckTys c ts es
 |_,_=>false
noncomputable def relab (outer:List (Str × NameKind)) (names:List (Str × NameKind)):List (Str × NameKind) :=
 names.map fun(n,k)=>if(k == .free&&outer.lookup n == some .cell) then(n,.cell) else(n,k)
noncomputable def zcY (c:Ck) (x:Str) (scope:Scope):Bool :=
 scope.kind == .function&&scope.names.all (fun p=>(p.2 != .local||((p.1 == x||p.1 == (".0":Str))&&scope.names.lookup p.1 == some .local))&&(p.2 != .free||c.names.lookup p.1 == some .cell||c.names.lookup p.1 == some .free)&&p.2 != .cell) &&
 scope.names.lookup x == some .local&&!(x == (".0":Str))&&c.ctx.lookup (".0":Str) == none
noncomputable def Ck.inner (c:Ck) (x:Str) (i:Nat) (scope:Scope):Ck:=⟨(x,i)::c.ctx,relab c.names scope.names,c.fns,c.nums⟩
noncomputable def bfName:Bf→Str
 |.len=>"len"|.list=>"list"|.tuple=>"tuple"|.sorted=>"sorted"|.min=>"min"|.sum=>"sum"|.any=>"any"|.all=>"all"|.int=>"int"|.str=>"str"
 |.listRev=>"list"|.listRange=>"list"
mutual
noncomputable def ckE (c:Ck):PE→Expr→Bool
 |.none,ex=>xConst ex .none true
 |.bool b,ex=>xConst ex (.bool b) true
 |.int i,ex=>xConst ex (.int i) true
 |.str s,ex=>xConst ex (.str (Str.ofString s)) true
 |.v i,ex=>xName ex fun x=>c.var x i
 |.glob g i,ex=>zcO ex (Str.ofString g) true&&(c.glob (Str.ofString g)&&c.nums.contains (g,i))
 |.bin op a b,ex=>xBin ex (bopM op) fun l r=>ckE c a l&&ckE c b r
 |.neg i,ex=>xUn ex .USub fun y=>xConst y (.int i) true
 |.not a,ex=>xUn ex .Not fun y=>ckE c a y
 |.and es,ex=>xBool ex .And fun ys=>ckEs c es ys
 |.or es,ex=>xBool ex .Or fun ys=>ckEs c es ys
 |.cmp op a b,ex=>xCmp ex fun l os rs=>one os fun o=>one rs fun r=>copIs op o&&(ckE c a l&&(ckE c b r&&!isSet r))
 |.cmp2 o1 o2 a b d,ex=>xCmp ex fun l os rs=>two os fun u1 u2=>two rs fun r1 r2=>copIs o1 u1&&(copIs o2 u2&&(ckE c a l&&(ckE c b r1&&(ckE c d r2&&!isSet r2))))
 |.list es,ex=>xList ex fun xs=>ckEs c es xs
 |.tup es,ex=>xTup ex fun xs=>ckEs c es xs
 |.idx a i,ex=>xSub ex fun v s=>ckE c a v&&ckE c i s
 |.slice a lo hi,ex=>xSub ex fun v s=>xSlice s fun l u d=>d.isNone&&(ckE c a v&&(ckO c lo l&&ckO c hi u))
 |.rev a,ex=>xSub ex fun v s=>xSlice s fun l u d=>l.isNone&&(u.isNone&&(ckE c a v&&oneO d fun e=>xUn e .USub fun y=>xConst y (.int 1) true))
 |.isinst a ts,ex=>xNamed ex "isinstance" fun xs=>two xs fun y t=>c.glob "isinstance"&&(ckE c a y&&(ts.all tyPl&&one ts fun u=>ckTy c u t))
 |.isexc i t,ex=>xNamed ex "isinstance" fun xs=>two xs fun y t'=>c.glob "isinstance"&&((xName y fun x=>c.var x i)&&ckTy c t t')
 |.callX f i,ex=>xNamed ex (Str.ofString f) fun xs=>one xs fun v=>c.glob (Str.ofString f)&&(c.fns.contains f&&xName v fun x=>c.var x i)
 |.bf f a,ex=>xNamed ex (bfName f) fun xs=>one xs fun x=>c.glob (bfName f)&&(match f with
    |.listRev=>xNamed x "reversed" fun ys=>one ys fun y=>c.glob "reversed"&&ckE c a y
    |.listRange=>xNamed x "range" fun ys=>one ys fun y=>c.glob "range"&&ckE c a y
    |_=>ckE c a x)
 |.comp elt i it cond,ex=>xLC ex fun y gs sc=>xGen gs fun x iter ifs=>ckIt c it iter&&(!isSet iter&&(zcY c x sc&&(c.ctx.all (fun p=>p.2 != i)&&(ckE (c.inner x i sc) elt y&&ckC (c.inner x i sc) cond ifs))))
 |.call _ f args,ex=>xNamed ex (Str.ofString f) fun xs=>c.glob (Str.ofString f)&&(c.fns.contains f&&(ckEs c args xs&&!args.isEmpty))
 |.own a,ex=>freshE a&&ckE c a ex
 |.newDict,ex=>xDict ex fun ks vs=>ks.isEmpty&&vs.isEmpty
 |.append o a,ex=>xMeth ex "append" fun v xs=>one xs fun x=>okBase v&&(ckE c o v&&(ckE c a x&&!isStar x))
 |.clear o,ex=>xMeth ex "clear" fun v xs=>okBase v&&(ckE c o v&&xs.isEmpty)
 |.remove ..,_=>false
 |.pop ..,_=>false
 |.popAt o a,ex=>xMeth ex "pop" fun v xs=>one xs fun x=>okBase v&&(ckE c o v&&(ckE c a x&&!isStar x))
 |.get ..,_=>false
 |.setdef o k d,ex=>xMeth ex "setdefault" fun v xs=>two xs fun x y=>okBase v&&(ckE c o v&&(ckE c k x&&(ckE c d y&&(!isStar x&&!isStar y))))
 |.dict1 ..,_=>false
noncomputable def ckEs (c:Ck):List PE→List Expr→Bool
 |[],xs=>xs.isEmpty
 |e::es,xs=>(match xs with|x::xs=>!isStar x&&(ckE c e x&&ckEs c es xs)|[]=>false)
noncomputable def ckO (c:Ck):Option PE→Option Expr→Bool
 |none,x=>x.isNone
 |some e,x=>oneO x fun x=>ckE c e x
noncomputable def ckC (c:Ck):Option PE→List Expr→Bool
 |none,xs=>xs.isEmpty
 |some e,xs=>one xs fun x=>ckE c e x
noncomputable def ckIt (c:Ck):PIt→Expr→Bool
 |.seq e,x=>ckE c e x
 |.range1 a,x=>xNamed x "range" fun xs=>one xs fun y=>c.glob "range"&&ckE c a y
 |.range2 ..,_=>false
 |.range3 a b d,x=>xNamed x "range" fun xs=>three xs fun y z w=>c.glob "range"&&(ckE c a y&&(ckE c b z&&ckE c d w))
 |.enum ..,_=>false
end
structure Amb where
 prog:Program
 w:World
 B:Heap
 mg:Str→Option Value
 mb:Str→Option Value
 P:Tab
 K:List (Addr × Obj):=[]
 res:List Addr:=[]
noncomputable abbrev Amb.M (am:Amb):Model:=model am.prog am.w
noncomputable def ExcAt (am:Amb) (h:Heap) (c:String) (a:Addr):Prop :=
 ∃ C o vs,am.mg (Str.ofString c)=some (.ref C)∧h.get? a=some o∧(o.cls=.ref C∧o.dict=none)∧o.data=.fields vs∧vs[2]?=some .none∧am.B.get? a=none
mutual
def VR (am:Amb) (π:List Addr) (h:Heap):V→Value→Prop
 |.uu,_=>False
 |.none,x=>x=.none
 |.bool b,x=>x=.bool b
 |.int i,x=>∃ t,x=.int i t
 |.str s,x=>∃ t,x=.str (Str.ofString s) t
 |.tup vs,x=>∃ a xs,x=.ref a∧(a ∉ π∧a ∉ am.res)∧h.IsTuple a (List.toArray xs)∧vs.length≤1000000∧VRs am π h vs xs
 |.l vs,x=>∃ a xs,x=.ref a∧(a ∉ π∧a ∉ am.res)∧h.IsList a (List.toArray xs)∧vs.length≤1000000∧VRs am π h vs xs
 |.ref i,x=>∃ a,x=.ref a∧π[i]?=some a
 |.exc _,_=>False
def VRs (am:Amb) (π:List Addr) (h:Heap):List V→List Value→Prop
 |[],xs=>xs=[]
 |v::vs,xs=>∃ x xs',xs=x::xs'∧VR am π h v x∧VRs am π h vs xs'
end
theorem zkT:VR am π h (.ref i) x=∃ a,x=.ref a∧π[i]?=some a:=rfl
theorem zrh:VR am π h (.int i) x=∃ t,x=.int i t:=rfl
theorem VRs.len (e:VRs am π h vs xs):xs.length=vs.length:=by
 induction vs generalizing xs with
 |nil=>cases e;rfl
 |cons v vs ih =>
  obtain⟨x,xs',rfl,_,r⟩:=e;exact congrArg Nat.succ (ih r)
theorem VRs.get (e:VRs am π h vs xs) (i:Nat) (v:V) (hv:vs[i]?=some v):∃ x,xs[i]?=some x∧VR am π h v x:=by
 induction vs generalizing xs i with
 |nil=>cases hv
 |cons w vs ih =>
  obtain⟨x,xs',rfl,hx,r⟩:=e
  cases i with
  |zero=>cases hv;exact⟨x,rfl,hx⟩
  |succ i=>exact ih r i hv
theorem VRs.append (e:VRs am π h vs xs) (r:VRs am π h ws ys):VRs am π h (vs++ws) (xs++ys):=by
 induction vs generalizing xs with
 |nil=>cases e;exact r
 |cons v vs ih =>
  obtain⟨x,xs',rfl,hx,e⟩:=e;exact⟨x,xs'++ys,rfl,hx,ih e⟩
theorem VRs.single (e:VR am π h v x):VRs am π h [v] [x]:=by
 exact⟨x,[],rfl,e,rfl⟩
theorem VRs.take (n:Nat) (e:VRs am π h vs xs):VRs am π h (vs.take n) (xs.take n):=by
 induction vs generalizing xs n with
 |nil=>cases e;cases n<;>rfl
 |cons v vs ih =>
  obtain⟨x,xs',rfl,hx,e⟩:=e
  cases n with
  |zero=>rfl
  |succ n=>exact⟨x,xs'.take n,rfl,hx,ih n e⟩
theorem VRs.drop (n:Nat) (e:VRs am π h vs xs):VRs am π h (vs.drop n) (xs.drop n):=by
 induction vs generalizing xs n with
 |nil=>cases e;cases n<;>rfl
 |cons v vs ih =>
  cases n with
  |zero=>exact e
  |succ n =>
   obtain⟨x,xs',rfl,hx,e⟩:=e;exact ih n e
theorem VRs.reverse (e:VRs am π h vs xs):VRs am π h vs.reverse xs.reverse:=by
 induction vs generalizing xs with
 |nil=>cases e;rfl
 |cons v vs ih =>
  obtain⟨x,xs',rfl,hx,e⟩:=e;rw[reverse_cons,reverse_cons];exact VRs.append (ih e) (VRs.single hx)
theorem VRs.flatten (e:VRs am π h vs xs) (n:Nat):VRs am π h (List.replicate n vs).flatten (List.replicate n xs).flatten:=by
 induction n with
 |zero=>rfl
 |succ n ih=>exact VRs.append e ih
theorem VRs.set (i:Nat) (e:VRs am π h vs xs) (hv:VR am π h v x):VRs am π h (vs.set i v) (xs.set i x):=by
 induction vs generalizing xs i with
 |nil=>cases e;rfl
 |cons w vs ih =>
  obtain⟨y,xs',rfl,hy,e⟩:=e
  cases i with
  |zero=>exact⟨x,xs',rfl,hv,e⟩
  |succ i=>exact⟨y,xs'.set i x,rfl,hy,ih i e⟩
theorem VRs.eraseIdx (i:Nat) (e:VRs am π h vs xs):VRs am π h (vs.eraseIdx i) (xs.eraseIdx i):=by
 induction vs generalizing xs i with
 |nil=>cases e;rfl
 |cons w vs ih =>
  obtain⟨y,xs',rfl,hy,e⟩:=e
  cases i with
  |zero=>exact e
  |succ i=>exact⟨y,xs'.eraseIdx i,rfl,hy,ih i e⟩
structure Ext (π Fs:List Addr) (h h':Heap):Prop where
 keep:∀ a o,h.get? a=some o→a ∉ π→a ∉ Fs→h'.get? a=some o
 slots:∀ a o,h.get? a=some o→a ∉ π→∃ sl,h'.get? a=some { o with slots:=sl }
 alive:∀ a o,h.get? a=some o→∃ o',h'.get? a=some o'
theorem Ext.refl (π Fs:List Addr) (h:Heap):Ext π Fs h h :=
 ⟨fun z z e z z=>e,fun z o e z=>⟨o.slots,e⟩,fun z o e=>⟨o,e⟩⟩
theorem Ext.of_keeps (k:∀ b o,h.get? b=some o→h'.get? b=some o):Ext π Fs h h' :=
 ⟨fun a o e z z=>k a o e,fun a o e z=>⟨o.slots,k a o e⟩,fun a o e=>⟨o,k a o e⟩⟩
theorem Ext.push (π Fs:List Addr) (h:Heap) (o:Obj):Ext π Fs h (h.push o) :=
 Ext.of_keeps fun z z e=>Heap.get?_push_of_some _ e
structure Step (Fs:List Addr) (π:List Addr) (s:Shared) (π':List Addr) (s':Shared):Prop where
 same:∃ h' tk,s'={ s with heap:=h',toks:=tk }
 ext:Ext π Fs s.heap s'.heap
 grow:∃ δ,π'=π++δ∧∀ a∈δ,s.heap.get? a=none
theorem Step.refl (Fs π:List Addr) (s:Shared):Step Fs π s π s:=⟨⟨s.heap,s.toks,rfl⟩,.refl ..,[],by simp,by simp⟩
theorem Step.notin (x:Step Fs π s π' s') (ho:s.heap.get? a=some o) (ha:a ∉ π):a ∉ π':=by
 obtain⟨δ,rfl,hδ⟩:=x.grow;intro hm
 rcases zP.mp hm with h1|h1
 ·exact ha h1
 ·have:=hδ a h1;rw[ho] at this;cases this
theorem Step.trans (x:Step Fs π₀ s₀ π₁ s₁) (y:Step Fs π₁ s₁ π₂ s₂):Step Fs π₀ s₀ π₂ s₂:=by
 refine⟨?_,⟨fun a o e h1 h2=>?_,fun a o e h1=>?_,fun a o e=>?_⟩,?_⟩
 ·obtain⟨h',tk,rfl⟩:=x.same
  obtain⟨h'',tk',rfl⟩:=y.same;exact⟨h'',tk',rfl⟩
 ·exact y.ext.keep a o (x.ext.keep a o e h1 h2) (x.notin e h1) h2
 ·obtain⟨sl,h3⟩:=x.ext.slots a o e h1
  obtain⟨sl',h4⟩:=y.ext.slots a _ h3 (x.notin e h1);exact⟨sl',h4⟩
 ·obtain⟨o',h3⟩:=x.ext.alive a o e
  exact y.ext.alive a o' h3
 ·obtain⟨δ,rfl,hδ⟩:=x.grow
  obtain⟨δ',rfl,hδ'⟩:=y.grow;refine⟨δ++δ',by simp,fun a ha=>?_⟩
  rcases zP.mp ha with h1|h1
  ·exact hδ a h1
  ·cases hq:s₀.heap.get? a with
   |none=>rfl
   |some o =>
    obtain⟨o',h3⟩:=x.ext.alive a o hq;have:=hδ' a h1;rw[h3] at this;cases this
theorem Step.keeps (k:∀ b o,s.heap.get? b=some o→h'.get? b=some o):Step Fs π s π { s with heap:=h',toks:=tk } :=
 ⟨⟨h',tk,rfl⟩,.of_keeps k,[],by simp,by simp⟩
theorem Step.tok (tk:Nat):Step Fs π s π { s with toks:=tk }:=Step.keeps fun z z e=>e
noncomputable def Via (am am':Amb) (π π':List Addr) (h h':Heap):Prop :=
 (∀ a o,h.get? a=some o→(∀ us,o.data≠.fields us)→a ∉ π→a ∉ am.res→(∃ sl,h'.get? a=some { o with slots:=sl })∧a ∉ π'∧a ∉ am'.res)∧∀ (i:Nat) (a:Addr),π[i]?=some a→π'[i]?=some a
mutual
theorem VR.via (k:Via am am' π π' h h'):∀ {v:V}{y:Value},VR am π h v y→VR am' π' h' v y
 |.uu,_,e=>e
 |.none,_,e=>e
 |.bool _,_,e=>e
 |.int _,_,e=>e
 |.str _,_,e=>e
 |.exc _,_,e=>e
 |.ref i,_,e=>by
  obtain⟨a,h1,h2⟩:=e;exact⟨a,h1,k.2 i a h2⟩
 |.tup vs,_,e=>by
  obtain⟨a,xs,h1,ha,⟨o,ho,hc,n,hd⟩,hz,e⟩:=e;obtain⟨⟨sl,hs⟩,q⟩:=k.1 a o ho (fun us z=>by rw[hd] at z;cases z) ha.1 ha.2
  exact⟨a,xs,h1,q,⟨_,hs,hc,n,hd⟩,hz,VRs.via k e⟩
 |.l vs,_,e=>by
  obtain⟨a,xs,h1,ha,⟨o,ho,hc,n,hd⟩,hz,e⟩:=e;obtain⟨⟨sl,hs⟩,q⟩:=k.1 a o ho (fun us z=>by rw[hd] at z;cases z) ha.1 ha.2
  exact⟨a,xs,h1,q,⟨_,hs,hc,n,hd⟩,hz,VRs.via k e⟩
theorem VRs.via (k:Via am am' π π' h h'):∀ {vs:List V}{ys:List Value},VRs am π h vs ys→VRs am' π' h' vs ys
 |[],_,e=>e
 |v::vs,_,e=>by
  obtain⟨y,ys',h1,h2,h3⟩:=e;exact⟨y,ys',h1,VR.via k h2,VRs.via k h3⟩
end
theorem Step.via (x:Step Fs π s π' s'):Via am am π π' s.heap s'.heap :=
 ⟨fun a o ho z h1 h2=>⟨x.ext.slots a o ho h1,x.notin ho h1,h2⟩,fun i a ha=>by
  obtain⟨δ,rfl,_⟩:=x.grow;rw[List.getElem?_append_left (List.getElem?_eq_some_iff.mp ha).1];exact ha⟩
theorem VR.step (x:Step Fs π s π' s') (e:VR am π s.heap v y):VR am π' s'.heap v y:=e.via x.via
theorem VRs.step (x:Step Fs π s π' s') (e:VRs am π s.heap vs ys):VRs am π' s'.heap vs ys:=e.via x.via
def PL (h:Heap) (a:Addr) (xs:List Value):Prop:=∃ o n,h.get? a=some o∧o.cls=.type "list"∧o.dict=none∧o.data=.seq (List.toArray xs) n
theorem PL.is (x:PL h a xs):h.IsList a (List.toArray xs):=let ⟨o,n,ho,hc,_,hd⟩:=x;⟨o,ho,hc,n,hd⟩
noncomputable def Cell.vals:Cell→List V
 |.list vs=>vs
 |.dict es=>es.flatMap fun e=>[e.1,e.2]
noncomputable def hashV (k:V):Int:=match k with
 |.int i=>hashInt i
 |k=>match tupT k with
  |some is=>reduceHash (Builtin.Tuple.tupleHashOf (is.map hashInt))
  |none=>0
noncomputable def ents:List (V × V)→List Value→List DictEntry
 |(k,_)::es,x::y::xs=>⟨hashV k,x,y⟩::ents es xs
 |_,_=>[]
def dgood (es:List (V × V)):Prop:=(es.map (·.1)).Nodup∧∀ e∈es,keyOk e.1=true
def CK:Cell→Addr→Obj→List Value→Prop
 |.list _,_,o,xs=>∃ n,o.cls=.type "list"∧o.dict=none∧o.data=.seq (List.toArray xs) n
 |.dict es,a,o,xs=>a≠sysModules∧∃ arr ep,o.cls=.type "dict"∧o.dict=none∧o.data=.dict arr ep∧arr.toList=ents es xs∧dgood es∧ep=es.length
theorem CK.slots (sl:Array (Option Value)) (x:CK c a o xs):CK c a { o with slots:=sl } xs:=by
 cases c<;>exact x
theorem CK.nf (x:CK c a o xs):∀ us,o.data≠.fields us:=fun us q=>by
 cases c with
 |list vs=>obtain⟨n,_,_,hd⟩:=x;rw[hd] at q;cases q
 |dict es=>obtain⟨_,arr,ep,_,_,hd,_⟩:=x;rw[hd] at q;cases q
def CellAt (am:Amb) (π:List Addr) (h:Heap) (c:Cell) (a:Addr):Prop:=∃ o xs,h.get? a=some o∧CK c a o xs∧c.vals.length≤1000000∧VRs am π h c.vals xs
theorem CellAt.list (x:CellAt am π h (.list vs) a):∃ xs,PL h a xs∧vs.length≤1000000∧VRs am π h vs xs:=by
 obtain⟨o,xs,ho,⟨n,r⟩,h2,h3⟩:=x;exact⟨xs,⟨o,n,ho,r⟩,h2,h3⟩
theorem CellAt.ofList (x:PL h a xs) (h2:vs.length≤1000000) (h3:VRs am π h vs xs):CellAt am π h (.list vs) a:=by
 obtain⟨o,n,ho,r⟩:=x;exact⟨o,xs,ho,⟨n,r⟩,h2,h3⟩
theorem CellAt.obj (x:CellAt am π h c a):∃ o,h.get? a=some o∧∀ us,o.data≠.fields us:=by
 obtain⟨o,xs,ho,hk,_⟩:=x;exact⟨o,ho,hk.nf⟩
theorem CellAt.via (k:Via am am' π π' h h') (ka:∀ o,h.get? a=some o→(∀ us,o.data≠.fields us)→∃ sl,h'.get? a=some { o with slots:=sl }) (x:CellAt am π h c a):CellAt am' π' h' c a:=by
 obtain⟨o,xs,ho,hk,h2,h3⟩:=x;obtain⟨sl,hs⟩:=ka o ho hk.nf;exact⟨_,xs,hs,hk.slots sl,h2,h3.via k⟩
structure HR (am:Amb) (sk:List Env) (π:List Addr) (H:H) (h:Heap):Prop where
 base:am.B.StaysIn h
 frames:h.FunFrames am.B sk
 len:π.length=H.length
 nodup:π.Nodup
 res:∀ a∈am.res,∃ o,h.get? a=some o∧∀ us,o.data≠.fields us
 off:∀ a∈π,am.B.get? a=none∧a ∉ sk.filterMap (·.frame)
 cell:∀ (i:Nat) (c:Cell) (a:Addr),H[i]?=some c→π[i]?=some a→CellAt am π h c a
end Mine.Internal
namespace Mine.Internal
open PySem PySem.W
noncomputable abbrev Fs (sk:List Env):List Addr:=sk.filterMap (·.frame)
noncomputable def XAt (base h:Heap) (e:Addr) (C:Value) (fl:Option Value):Prop :=
 base.StaysIn h∧base.get? e=none∧∃ oe vs,h.get? e=some oe∧(oe.cls=C∧oe.dict=none)∧oe.data=.fields vs∧vs[2]?=some .none ∧
  (match fl with
   |none=>vs[1]?=some .none
   |some f=>∃ T oT ts,vs[1]?=some (.ref T)∧base.get? T=none∧T≠e∧h.get? T=some oT∧oT.data=.fields ts∧ts[3]?=some f)
theorem zai {base B:Heap}(k:base.StaysIn B){b:Addr}(e:B.get? b=none):base.get? b=none:=by
 cases q:base.get? b with
 |none=>rfl
 |some o=>have:=k b o q;rw[e] at this;cases this
theorem zde {h h' base:Heap}(k:h.UpToSlots h'){l:List Env}(x:h.FunFrames base l):h'.FunFrames base l :=
 x.of_keeps fun b o ho hn=>let ⟨_,e⟩:=k b o ho hn;⟨_,e,rfl⟩
theorem XAt.mono {base B h:Heap}{e:Addr}{C:Value}{fl:Option Value}(k:base.StaysIn B) (x:XAt B h e C fl):XAt base h e C fl:=by
 refine hold fun z k_=>?_;obtain⟨h1,h2,oe,vs,h3,h4,h5,h6,h7⟩:=x;refine k_ ?_;refine⟨fun b o q=>h1 b o (k b o q),zai k h2,oe,vs,h3,h4,h5,h6,?_⟩
 cases fl with
 |none=>exact h7
 |some f =>
  refine hold fun z k_=>?_;obtain⟨T,oT,ts,t1,t2,t3⟩:=h7;refine k_ ?_;exact⟨T,oT,ts,t1,zai k t2,t3⟩
structure Touch (base:Heap) (h h':Heap):Prop where
 stays:base.StaysIn h'
 slots:h.UpToSlots h'
theorem Touch.trans (x:Touch base h₁ h₂) (y:Touch base h₂ h₃):Touch base h₁ h₃:=⟨y.stays,x.slots.trans y.slots⟩
theorem zdC (o:Obj) (f):(o.mapFields f).dict=o.dict:=by
 obtain⟨c,d,dt,sl⟩:=o;cases dt<;>rfl
section
variable {M:Model}{A:Around}{E:Value→Shared→Prop}{s:Shared}
theorem ziO {Q:Unit→Shared→Prop}
  (hfr:A.frames=some (env::outer)) (hl:s.heap.FunFrames base (env::outer)) (hf:env.frame=some L)
  (he:s.heap.get? e=some oe) (hkb:base.StaysIn s.heap) (hen:base.get? e=none) (hdi:oe.dict=none) (hd:oe.data=.fields vs) (hsz:1 < vs.size) (h2:vs[2]?=some .none)
  (h:∀ h',XAt base h' e oe.cls (some (rawInt L))→Touch base s.heap h'→Q () { s with heap:=h' }) :
  wpAny M A (do let a ← frameOf env;let pl ← entryPlaceOf L hadNext;let b ← EntryCells.newEntry head a .none (rawInt L) .none pl;setField (.ref e) 1 b) Q E s:=by
 have hene:e ∉ (env::outer).filterMap (·.frame):=fun hm=>by
  refine hold fun z k_=>?_;obtain⟨_,o,ho,hnf⟩:=hl.mem hm;refine k_ ?_;rw[he] at ho;injection ho with ho;subst ho;exact hnf vs hd
 refine yX (wpAny_frameOf_fun hfr hl hf fun h₁ hs₁=>?_);refine yX (wpAny_entryPlaceOf fun pl hpl=>?_);unfold EntryCells.newEntry newFields;refine yX (wpAny_newObj_type ?_ (hpl.sizeOk5 _ _ _ _ _));have he₁:h₁.get? e=some oe:=(hs₁.2.1 e hene).trans he;have kb₁:base.StaysIn h₁:=fun b o hbo=>(hs₁.2.1 b fun hm=>by rw[(hl.mem hm).1] at hbo;cases hbo).trans (hkb b o hbo)
 generalize hT:({ cls:=.type "traceback",dict:=none,data:=.fields ([head,.ref L,.none,rawInt L,.none]++(if pl.isEmpty then List.replicate 6 Value.none else pl)).toArray }:Obj)=T;have hTd:T.data=.fields ([head,.ref L,.none,rawInt L,.none]++(if pl.isEmpty then List.replicate 6 Value.none else pl)).toArray:=by rw[←hT]
 have he₂:=Heap.get?_push_of_some (h:=h₁) T he₁;refine wpAny_setField he₂ hd hsz (h _ ?_ ?_)
 all_goals
  have hTe:h₁.objs.size≠e:=Nat.ne_of_gt (Heap.lt_size he₁);have hd₃:=Obj.data_mapFields hd (·.setIfInBounds 1 (Value.ref h₁.objs.size));have he₃:=Heap.get?_update_self (Obj.mapFields (·.setIfInBounds 1 (Value.ref h₁.objs.size))) he₂ (Obj.isFreed_of_fields hd₃);have hT₃:=(Heap.get?_update_other (h₁.push T) (Obj.mapFields (·.setIfInBounds 1 (Value.ref h₁.objs.size))) (Ne.symm hTe)).trans (Heap.get?_push_size h₁ (Obj.isFreed_of_fields hTd))
  have keep:∀ b o,b≠e→h₁.get? b=some o→((h₁.push T).update e (Obj.mapFields (·.setIfInBounds 1 (Value.ref h₁.objs.size)))).get? b=some o :=
   fun b o hbe hb=>by
    rw[Heap.get?_update_other _ _ (Ne.symm hbe)];exact Heap.get?_push_of_some _ hb
  have noRecord:∀ b o,s.heap.get? b=some o→(∀ vs,o.data≠.fields vs)→b≠e:=fun b o hb hnf q=>by
   rw[q,he] at hb;injection hb with hb;subst hb;exact hnf vs hd
  have kb₂:base.StaysIn ((h₁.push T).update e (Obj.mapFields (·.setIfInBounds 1 (Value.ref h₁.objs.size)))):=fun b o hbo=>keep b o (fun q=>by rw[q,hen] at hbo;cases hbo) (kb₁ b o hbo)
 ·refine⟨kb₂,hen,_,_,he₃,⟨Obj.cls_mapFields _ _,(zdC _ _).trans hdi⟩,hd₃,by rw[Array.getElem?_setIfInBounds_ne (by decide)];exact h2,h₁.objs.size,_,_,by simp[hsz],kb₁.fresh,hTe,hT₃,hTd,?_⟩
  first|(simp;done)|(rcases hpl with rfl|⟨_,_,_,_,_,_,_,rfl⟩<;>simp)
 ·refine⟨kb₂,fun b o hb hnf=>?_⟩
  obtain⟨sl,hs⟩:=hs₁.2.2 b o hb;exact⟨sl,keep b _ (noRecord b o hb hnf) hs⟩
theorem ziN {Q:Unit→Shared→Prop}
  (hfr:A.frames=some (env::outer)) (hl:s.heap.FunFrames base (env::outer)) (hf:env.frame=some L) (x:XAt base s.heap e C fl)
  (h:∀ h',XAt base h' e C (some (rawInt L))→Touch base s.heap h'→Q () { s with heap:=h' }):wpAny M A (noteFrame (.ref e) env) Q E s:=by
 refine hold fun z k_=>?_;obtain⟨h1,h2,oe,vs,h3,h4,h5,h6,h7⟩:=id x;refine k_ ?_;have hz2:2 < vs.size:=(Array.getElem?_eq_some_iff.mp h6).1;obtain⟨rfl,h4d⟩:=h4;unfold noteFrame;simp only[hf]
 cases fl with
 |none =>
  refine yX (wpAny_field h3 h5 h7 ?_);rw[zR (by decide)]
  exact ziO hfr hl hf h3 h1 h2 h4d h5 (by omega) h6 h
 |some f =>
  refine hold fun z k_=>?_;obtain⟨T,oT,ts,t1,t2,t3,t4,t5,t6⟩:=h7;refine k_ ?_;refine yX (wpAny_field h3 h5 t1 ?_);rw[zT (show(Value.ref T != Value.none)=true from by simp)]
  refine yX (wpAny_field t4 t5 t6 ?_)
  by_cases hq:(f == rawInt L)=true
  ·rw[zT hq]
   have:f=rawInt L:=eq_of_beq hq;subst this;refine hold fun z k_=>?_;obtain⟨hh,hg,hd,ht,ho⟩:=s;refine k_ ?_;exact yW (h hh x ⟨h1,.refl _⟩)
  ·rw[zR hq]
   refine yX (wpAny_setField t4 t5 (Array.getElem?_eq_some_iff.mp t6).1 ?_);have other:∀ b,b≠T→(s.heap.update T (Obj.mapFields (·.setIfInBounds 3 Value.none))).get? b=s.heap.get? b:=fun b hb=>Heap.get?_update_other _ _ (Ne.symm hb);have noRecord:∀ b o,s.heap.get? b=some o→(∀ vs,o.data≠.fields vs)→b≠T:=fun b o hb hnf q=>by
    rw[q,t4] at hb;injection hb with hb;subst hb;exact hnf ts t5
   refine ziO (s:={ s with heap:=s.heap.update T (Obj.mapFields (·.setIfInBounds 3 Value.none)) }) hfr (hl.of_keeps fun b o hb hnf=>⟨o,(other b (noRecord b o hb hnf)).trans hb,rfl⟩) hf ((other e (Ne.symm t3)).trans h3)
    (fun b o hbo=>(other b fun q=>by rw[q,t2] at hbo;cases hbo).trans (h1 b o hbo)) h2 h4d h5 (by omega) h6 fun h' y1 y2=>h h' y1 ⟨y2.stays,fun b o hb hnf=>y2.slots b o ((other b (noRecord b o hb hnf)).trans hb) hnf⟩
theorem zcC {Q:Unit→Shared→Prop}
  (x:XAt base s.heap e C (some f))
  (h:∀ h',XAt base h' e C (some (fr.elim .none fun f=>rawInt f))→Touch base s.heap h'→Q () { s with heap:=h' }):wpAny M A (setFlight (.ref e) fr) Q E s:=by
 refine hold fun z k_=>?_;obtain⟨h1,h2,oe,vs,h3,h4,h5,h6,T,oT,ts,t1,t2,t3,t4,t5,t6⟩:=id x;refine k_ ?_;have hsz3:3 < ts.size:=(Array.getElem?_eq_some_iff.mp t6).1;have other:∀ b,b≠T→(s.heap.update T (Obj.mapFields (·.setIfInBounds 3 (fr.elim Value.none fun f=>rawInt f)))).get? b=s.heap.get? b :=
  fun b hb=>Heap.get?_update_other _ _ (Ne.symm hb)
 have noRecord:∀ b o,s.heap.get? b=some o→(∀ vs,o.data≠.fields vs)→b≠T:=fun b o hb hnf q=>by
  rw[q,t4] at hb;injection hb with hb;subst hb;exact hnf ts t5
 have kb:base.StaysIn (s.heap.update T (Obj.mapFields (·.setIfInBounds 3 (fr.elim Value.none fun f=>rawInt f)))):=fun b o hbo=>(other b fun q=>by rw[q,t2] at hbo;cases hbo).trans (h1 b o hbo)
 unfold setFlight;refine yX (wpAny_field h3 h5 t1 ?_);rw[zT (show(Value.ref T != Value.none)=true from by simp)]
 refine wpAny_setField t4 t5 hsz3 (h _ ?_ ⟨kb,fun b o hb hnf=>⟨o.slots,(other b (noRecord b o hb hnf)).trans hb⟩⟩);exact⟨kb,h2,oe,vs,(other e (Ne.symm t3)).trans h3,h4,h5,h6,T,_,_,t1,t2,t3,Heap.get?_update_self _ t4 (Obj.isFreed_of_fields (Obj.data_mapFields t5 _)),Obj.data_mapFields t5 _,by simp[hsz3]⟩
theorem zns {Q:Unit→Shared→Prop}
  (hfr:A.frames=some (env::outer)) (hl:s.heap.FunFrames base (env::outer)) (hf:env.frame=some L) (x:XAt base s.heap e C fl)
  (h:∀ h',XAt base h' e C (some .none)→Touch base s.heap h'→Q () { s with heap:=h' }):wpAny M A (leaving env (.ref e)) Q E s:=by
 unfold leaving;refine yX (ziN hfr hl hf x fun h₁ x₁ k₁=>?_);exact zcC (fr:=none) x₁ fun h₂ x₂ k₂=>h h₂ x₂ (k₁.trans k₂)
end
theorem zdE {M:Model}{A:Around}{α:Type}{t:Sem α}{Q:α→Shared→Prop}{E:Value→Shared→Prop}{s:Shared}(h:∀ (Q':α→Shared→Prop) (E':Value→Shared→Prop),(∀ a s,Q a s→Q' a s)→(∀ y s,E y s→E' y s)→wpAny M A t Q' E' s):wpAny M A t Q E s:=h Q E (fun z z h=>h) fun z z h=>h
inductive OkP (am:Amb) (sk:List Env){α β:Type}(Rel:List Addr→Heap→β→α→Prop) (π:List Addr) (s:Shared) (r:R β) (a:α) (s':Shared):Prop
 |mk (b:β) (H':H) (π':List Addr) (h1:r=.ok b H') (h2:Step (Fs sk) π s π' s') (h3:HR am sk π' H' s'.heap) (h4:Rel π' s'.heap b a)
noncomputable abbrev ground (sk:List Env) (π:List Addr) (h:Heap):Heap:=hideAll h (π++Fs sk)
inductive ErP (am:Amb) (sk:List Env){β:Type}(π:List Addr) (s:Shared) (r:R β) (x:Value) (s':Shared):Prop
 |mk (c:String) (H':H) (π':List Addr) (e C:Addr) (fl:Option Value) (h1:r=.err c H') (h2:x=.ref e) (h3:am.mg (Str.ofString c)=some (.ref C)) (h4:Step (Fs sk) π s π' s') (h5:HR am sk π' H' s'.heap) (h6:XAt (ground sk π s.heap) s'.heap e (.ref C) fl)
noncomputable def JAt (am:Amb) (sk:List Env) (A:Around){α β:Type}(m:Sem α) (r:R β) (Rel:List Addr→Heap→β→α→Prop) (π:List Addr) (s:Shared):Prop :=
 r=.bad∨wpAny am.M A m (OkP am sk Rel π s r) (ErP am sk π s r) s
theorem zgH {sk:List Env}{π π':List Addr}{s s':Shared}(x:Step (Fs sk) π s π' s'):(ground sk π s.heap).StaysIn (ground sk π' s'.heap):=by
 intro b o e;have h1:=of_hideAll _ e;have hn:b ∉ π++Fs sk:=fun hm=>by rw[hideAll_none _ hm] at e;cases e
 rw[zP,not_or] at hn;refine hideAll_get _ (x.ext.keep b o h1 hn.1 hn.2) ?_;rw[zP,not_or];exact⟨x.notin h1 hn.1,hn.2⟩
theorem OkP.step {am:Amb}{sk:List Env}{α β:Type}{Rel:List Addr→Heap→β→α→Prop}{π π₁:List Addr}{s s₁:Shared}{r:R β}{a:α}{s':Shared}
  (x:Step (Fs sk) π s π₁ s₁) (y:OkP am sk Rel π₁ s₁ r a s'):OkP am sk Rel π s r a s':=by
 refine hold fun z k_=>?_;obtain⟨b,H',π',h1,h2,h3,h4⟩:=y;refine k_ ?_;exact⟨b,H',π',h1,x.trans h2,h3,h4⟩
theorem ErP.step {am:Amb}{sk:List Env}{β:Type}{π π₁:List Addr}{s s₁:Shared}{r:R β}{a:Value}{s':Shared}
  (x:Step (Fs sk) π s π₁ s₁) (y:ErP am sk π₁ s₁ r a s'):ErP am sk π s r a s':=by
 refine hold fun z k_=>?_;obtain⟨c,H',π',e,C,fl,h1,h2,h3,h4,h5,h6⟩:=y;refine k_ ?_;exact⟨c,H',π',e,C,fl,h1,h2,h3,x.trans h4,h5,h6.mono (zgH x)⟩
section
variable {am:Amb}{sk:List Env}{A:Around}{α β γ δ:Type}{Rel:List Addr→Heap→β→α→Prop}{Rel':List Addr→Heap→δ→γ→Prop}{π:List Addr}{s:Shared}
theorem JAt.bind {m:Sem α}{f:α→Sem γ}{r:R β}{g:β→H→R δ}(h1:JAt am sk A m r Rel π s)
  (h2:∀ a b H' π' s',r=.ok b H'→Step (Fs sk) π s π' s'→HR am sk π' H' s'.heap→Rel π' s'.heap b a→JAt am sk A (f a) (g b H') Rel' π' s') :
  JAt am sk A (m >>= f) (r.bind g) Rel' π s:=by
 rcases h1 with rfl|h1
 ·exact .inl rfl
 ·cases r with
  |bad=>exact .inl rfl
  |err c H' =>
   refine .inr (yX (yV h1 (fun a s' h=>?_) fun e s' h=>?_))
   ·obtain⟨_,_,_,h,_⟩:=h;cases h
   ·refine hold fun z k_=>?_
    obtain⟨c',H'',π',e',C,fl,h,r2,r3,r4,r5,r6⟩:=h;refine k_ ?_
    cases h
    exact⟨c,H',π',e',C,fl,rfl,r2,r3,r4,r5,r6⟩
  |ok b H' =>
   by_cases hb:g b H'=.bad
   ·exact .inl hb
   ·refine .inr (yX (yV h1 (fun a s' h=>?_) fun e s' h=>?_))
    ·refine hold fun z k_=>?_
     obtain⟨b',H'',π',h,h3,h4,h5⟩:=h;refine k_ ?_
     cases h
     rcases h2 a b H' π' s' rfl h3 h4 h5 with h6|h6
     ·exact absurd h6 hb
     ·exact yV h6 (fun z z y=>OkP.step h3 y) fun z z y=>ErP.step h3 y
    ·obtain⟨_,_,_,_,_,_,h,_⟩:=h;cases h
theorem JAt.mono {Rel₂:List Addr→Heap→β→α→Prop}(h:JAt am sk A m r Rel π s) (k:∀ π h b a,Rel π h b a→Rel₂ π h b a):JAt am sk A m r Rel₂ π s:=by
 rcases h with h|h
 ·exact .inl h
 ·exact .inr (yV h (fun a s' ⟨b,H',π',h1,h2,h3,h4⟩=>⟨b,H',π',h1,h2,h3,k _ _ _ _ h4⟩) fun z z y=>y)
theorem JAt.pure (hr:HR am sk π Hc s.heap) (h:Rel π s.heap b a):JAt am sk A (pure a:Sem α) (.ok b Hc) Rel π s :=
 .inr (yW ⟨b,Hc,π,rfl,.refl ..,hr,h⟩)
theorem JAt.congr (e:m=m') (er:r=r') (h:JAt am sk A m' r' Rel π s):JAt am sk A m r Rel π s:=by subst e er;exact h
theorem JAt.holding (h:JAt am sk A m r Rel π s):JAt am sk A (PySem.holding vs m) r Rel π s:=by
 rcases h with h|h
 ·exact .inl h
 ·exact .inr (yU h)
theorem JAt.standAt {f:Unit→Sem α}(h:JAt am sk A (f ()) r Rel π s):JAt am sk A (PySem.standAt pos >>= f) r Rel π s:=by
 rcases h with h|h
 ·exact .inl h
 ·exact .inr (yX (wpAny_standAt h))
theorem JAt.rule (k:∀ (Q:α→Shared→Prop) (E:Value→Shared→Prop),wpAny am.M A m' Q E s→wpAny am.M A m Q E s) (h:JAt am sk A m' r Rel π s):JAt am sk A m r Rel π s:=by
 rcases h with h|h
 ·exact .inl h
 ·exact .inr (k _ _ h)
end
theorem zdH {Q:Unit→Shared→Prop}{E:Value→Shared→Prop}(h:Q () s):wpAny M A (release vs keep) Q E s :=
 fun Γ p z=>by
  unfold release;rw[Sem.wp_release_go];exact h
theorem zcg {Q:Value→Shared→Prop}{E:Value→Shared→Prop}(h:wpAny M A m Q E s):wpAny M A (operate vs m) Q E s:=by
 unfold operate;exact yX (yU (yV h (fun r s' hr=>yX (zdH (yW hr))) fun z z y=>y))
theorem JAt.operate {am:Amb}{sk:List Env}{A:Around}{β:Type}{Rel:List Addr→Heap→β→Value→Prop}{π:List Addr}{s:Shared}{vs:List Value}{m:Sem Value}{r:R β}(h:JAt am sk A m r Rel π s):JAt am sk A (PySem.operate vs m) r Rel π s :=
 h.rule fun z z x=>zcg x
structure Cx where
 env:Env
 sk:List Env
 ctx:List (Str × Nat)
def Vis (env:Env) (x:Str):Prop:=env.kindOf x=some .local∨env.kindOf x=some .cell∨env.kindOf x=some .free
noncomputable def VarAt (h:Heap) (env:Env) (x:Str) (v:Value):Prop :=
 (env.kindOf x=some .local∧∃ m,h.Ns env.locals m∧m x=some v) ∨
 ((env.kindOf x=some .cell∨env.kindOf x=some .free)∧∃ c,env.cells.lookup x=some c∧h.IsCell c (some v))
noncomputable def SR (am:Amb) (π:List Addr) (h:Heap) (v:V) (x:Value):Prop :=
 VR am π h v x∨∃ c a,v=.exc c∧x=.ref a∧a ∉ π∧ExcAt am h c a
structure ER (am:Amb) (cx:Cx) (ρ:List V) (π:List Addr) (h:Heap):Prop where
 ns:∃ m,h.Ns cx.env.locals m
 locOff:cx.env.locals ∉ π
 cellOff:∀ x c,cx.env.cells.lookup x=some c→c ∉ π∧c≠cx.env.locals∧∃ v,h.IsCell c v
 apart:∀ x y c,cx.env.cells.lookup x=some c→cx.env.cells.lookup y=some c→x=y
 var:∀ x i v,cx.ctx.lookup x=some i→ρ[i]?=some v→v≠.uu→Vis cx.env x→∃ v',VarAt h cx.env x v'∧SR am π h v v'
theorem Ext.ns {π Fs:List Addr}{h h':Heap}(x:Ext π Fs h h'){a:Addr}{m:Str→Option Value}(hn:h.Ns a m) (ha:a ∉ π):h'.Ns a m:=by
 refine hold fun z k_=>?_;obtain⟨o,es,ep,ho,hd,r⟩:=hn;refine k_ ?_;obtain⟨sl,hs⟩:=x.slots a o ho ha;exact⟨_,es,ep,hs,hd,r⟩
theorem Ext.cell {π Fs:List Addr}{h h':Heap}(x:Ext π Fs h h'){a:Addr}{v:Option Value}(hn:h.IsCell a v) (ha:a ∉ π):h'.IsCell a v:=by
 obtain⟨o,ho,hd⟩:=hn;obtain⟨sl,hs⟩:=x.slots a o ho ha;exact⟨_,hs,hd⟩
theorem Heap.Ns.exist {h:Heap}{a:Addr}{m:Str→Option Value}(hn:h.Ns a m):∃ o,h.get? a=some o:=let ⟨o,_,_,ho,_⟩:=hn;⟨o,ho⟩
theorem Heap.IsCell.exist {h:Heap}{a:Addr}{v:Option Value}(hn:h.IsCell a v):∃ o,h.get? a=some o:=let ⟨o,ho,_⟩:=hn;⟨o,ho⟩
theorem ExcAt.step {am:Amb}{Fs π π':List Addr}{s s':Shared}(x:Step Fs π s π' s'){c:String}{a:Addr}(e:ExcAt am s.heap c a) (ha:a ∉ π):a ∉ π'∧ExcAt am s'.heap c a:=by
 refine hold fun z k_=>?_;obtain⟨C,o,vs,h1,h2,h3,h4,h5,h6⟩:=e;refine k_ ?_;obtain⟨sl,h7⟩:=x.ext.slots a o h2 ha;exact⟨x.notin h2 ha,C,_,vs,h1,h7,h3,h4,h5,h6⟩
theorem SR.step {am:Amb}{Fs π π':List Addr}{s s':Shared}(x:Step Fs π s π' s'){v:V}{y:Value}(e:SR am π s.heap v y):SR am π' s'.heap v y:=by
 rcases e with e|⟨c,a,h1,h2,h3,h4⟩
 ·exact .inl (e.step x)
 ·have:=h4.step x h3
  exact .inr ⟨c,a,h1,h2,this.1,this.2⟩
theorem ER.step {am:Amb}{cx:Cx}{ρ:List V}{Fs π π':List Addr}{s s':Shared}(x:Step Fs π s π' s') (e:ER am cx ρ π s.heap):ER am cx ρ π' s'.heap:=by
 obtain⟨m,hm⟩:=e.ns;obtain⟨o,ho⟩:=Heap.Ns.exist hm;refine⟨⟨m,x.ext.ns hm e.locOff⟩,x.notin ho e.locOff,fun y c hc=>?_,e.apart,fun y i v h1 h2 h3 h4=>?_⟩
 ·refine hold fun z k_=>?_
  obtain⟨h1,h2,v,h3⟩:=e.cellOff y c hc;refine k_ ?_;obtain⟨o,ho⟩:=Heap.IsCell.exist h3;exact⟨x.notin ho h1,h2,v,x.ext.cell h3 h1⟩
 ·obtain⟨v',h5,h6⟩:=e.var y i v h1 h2 h3 h4
  refine⟨v',?_,h6.step x⟩
  rcases h5 with⟨k,m',h7,h8⟩|⟨k,c,h7,h8⟩
  ·exact .inl ⟨k,m',x.ext.ns h7 e.locOff,h8⟩
  ·exact .inr ⟨k,c,h7,x.ext.cell h8 (e.cellOff y c h7).1⟩
noncomputable def Hd (q:Bool) (A:Around) (π Fs:List Addr) (h:Heap):Prop :=
 if q then A.handled=none else ∃ he o vs,A.handled=some (.ref he)∧he ∉ π∧he ∉ Fs∧h.get? he=some o∧o.data=.fields vs∧vs[2]?=some .none
set_option tactic.hygienic true in
theorem Hd.step {q:Bool}{A:Around}{Fs π π':List Addr}{s s':Shared}(x:Step Fs π s π' s') (e:Hd q A π Fs s.heap):Hd q A π' Fs s'.heap:=by
 unfold Hd at e ⊢
 split
 ·rename_i hq;rw[zT hq] at e;exact e
 ·rename_i hq
  rw[zR hq] at e;refine hold fun z k_=>?_;obtain⟨he,o,vs,h1,h2,h3,h4,h5⟩:=e;refine k_ ?_;exact⟨he,o,vs,h1,x.notin h4 h2,h3,x.ext.keep he o h4 h2 h3,h5⟩
structure AS (n:Nat) (sk:List Env) (A:Around):Prop where
 frames:A.frames=some sk
 depth:A.depth+n < 800
 units:A.units+10 * n < 9000
theorem AS.dk {n:Nat}{sk:List Env}{A:Around}(as:AS n sk A){k:Nat}(hk:k≤200):A.depth+k < 1000:=Nat.lt_of_le_of_lt (Nat.add_le_add_right (Nat.le_add_right _ n) k) (Nat.lt_of_lt_of_le (Nat.add_lt_add_right as.depth k) (Nat.add_le_add_left hk 800))
theorem AS.uk {n:Nat}{sk:List Env}{A:Around}(as:AS n sk A){k:Nat}(hk:k≤900):A.units+k < 9900:=Nat.lt_of_le_of_lt (Nat.add_le_add_right (Nat.le_add_right _ (10 * n)) k) (Nat.lt_of_lt_of_le (Nat.add_lt_add_right as.units k) (Nat.add_le_add_left hk 9000))
theorem znj (h:i < n+1) (h':¬ i < n):i=n:=Nat.le_antisymm (Nat.le_of_lt_succ h) (Nat.le_of_not_lt h')
structure St (am:Amb) (q:Bool) (cx:Cx) (ρ:List V) (π:List Addr) (Hc:H) (A:Around) (s:Shared):Prop where
 hr:HR am cx.sk π Hc s.heap
 er:ER am cx ρ π s.heap
 hd:Hd q A π (Fs cx.sk) s.heap
theorem St.step (x:St am q cx ρ π Hc A s) (y:Step (Fs cx.sk) π s π' s') (hr:HR am cx.sk π' H' s'.heap):St am q cx ρ π' H' A s' :=
 ⟨hr,x.er.step y,x.hd.step y⟩
structure AmbOK (am:Amb):Prop where
 g:am.B.Ns mainGlobals am.mg
 b:am.B.Ns builtinsNs am.mb
 nolimit:am.B.NoLimit
 noseer:am.B.NoSeer
 tree:am.prog.given.tree=none
structure TopEnv (e₀:Env):Prop where
 gen:e₀.scope.isGenerator=false
 co:e₀.scope.isCoroutine=false
 globals:e₀.globals=mainGlobals
 builtins:e₀.builtins=builtinsNs
def zeU (sk:List Env):Prop:=∃ e₀ outer,sk=e₀::outer∧TopEnv e₀
structure CxOK (cx:Cx):Prop where
 clos:∀ x,cx.env.kindOf x=some .cell∨cx.env.kindOf x=some .free→∃ c,cx.env.cells.lookup x=some c
 kind:cx.env.scope.kind=.function
 globals:cx.env.globals=mainGlobals
 builtins:cx.env.builtins=builtinsNs
 top:∃ e₀ outer,cx.sk=e₀::outer∧e₀.frame=cx.env.frame∧TopEnv e₀
theorem CxOK.stackOK (x:CxOK cx):zeU cx.sk:=let ⟨e₀,outer,h,_,t⟩:=x.top;⟨e₀,outer,h,t⟩
end Mine.Internal
namespace Mine.Internal
open PySem PySem.W PyProof.Rows
theorem VR.keeps (k:∀ b o,h.get? b=some o→h'.get? b=some o) (e:VR am π h v x):VR am π h' v x :=
 VR.step (Fs:=[]) (s:={ heap:=h }) (s':={ heap:=h' }) (Step.keeps (s:={ heap:=h }) (tk:=1) k) e
theorem VRs.keeps (k:∀ b o,h.get? b=some o→h'.get? b=some o) (e:VRs am π h v x):VRs am π h' v x :=
 VRs.step (Fs:=[]) (s:={ heap:=h }) (s':={ heap:=h' }) (Step.keeps (s:={ heap:=h }) (tk:=1) k) e
theorem CellAt.keeps (k:∀ b o,h.get? b=some o→h'.get? b=some o) (e:CellAt am π h c a):CellAt am π h' c a:=by
 obtain⟨o,xs,ho,hk,h2,h3⟩:=e;exact⟨o,xs,k _ _ ho,hk,h2,h3.keeps k⟩
theorem HR.keeps {am:Amb}{sk:List Env}{π:List Addr}{Hc:H}{h h':Heap}(x:HR am sk π Hc h) (k:∀ b o,h.get? b=some o→h'.get? b=some o):HR am sk π Hc h' :=
 ⟨fun b o e=>k b o (x.base b o e),x.frames.of_keeps fun b o e z=>⟨o,k b o e,rfl⟩,x.len,x.nodup,fun a ha=>let ⟨o,ho,hn⟩:=x.res a ha;⟨o,k a o ho,hn⟩,x.off,fun i c a h1 h2=>(x.cell i c a h1 h2).keeps k⟩
section
variable {am:Amb}{sk:List Env}{A:Around}{α β:Type}{Rel:List Addr→Heap→β→α→Prop}{π:List Addr}{s:Shared}{Hc:H}
theorem OkP.keeps (hr:HR am sk π Hc s.heap) (k:∀ b o,s.heap.get? b=some o→h'.get? b=some o) (h:Rel π h' b a) :
  OkP am sk Rel π s (.ok b Hc) a { s with heap:=h',toks:=tk } :=
 ⟨b,Hc,π,rfl,.keeps k,hr.keeps k,h⟩
theorem OkP.tok (hr:HR am sk π Hc s.heap) (h:Rel π s.heap b a) :
  OkP am sk Rel π s (.ok b Hc) a { s with toks:=tk }:=OkP.keeps (h':=s.heap) hr (fun z z e=>e) h
theorem OkP.here (hr:HR am sk π Hc s.heap) (h:Rel π s.heap b a) :
  OkP am sk Rel π s (.ok b Hc) a s:=OkP.tok (tk:=s.toks) hr h
end
theorem zaG {am:Amb}{sk:List Env}{π:List Addr}{Hc:H}{h:Heap}(hr:HR am sk π Hc h){l:Addr}(hl:h.get? l=none):l ∉ am.res:=fun hm=>by
 obtain⟨o,ho,_⟩:=hr.res l hm;rw[hl] at ho;cases ho
theorem zaJ {am:Amb}{sk:List Env}{π:List Addr}{Hc:H}{h:Heap}(hr:HR am sk π Hc h){l:Addr}(hl:h.get? l=none):l ∉ π:=by
 intro hm;obtain⟨i,hi⟩:=List.mem_iff_getElem?.mp hm;have hlt:i < Hc.length:=by rw[←hr.len];exact(List.getElem?_eq_some_iff.mp hi).1
 obtain⟨o,ho,_⟩:=(hr.cell i Hc[i] _ (zM hlt) hi).obj;rw[hl] at ho;cases ho
theorem zbj {am:Amb}{sk:List Env}{π:List Addr}{Hc:H}{h:Heap}(hr:HR am sk π Hc h){l:Addr}(hl:h.get? l=none):l ∉ Fs sk:=fun hm=>by
 refine hold fun z k_=>?_;obtain⟨_,o,ho,_⟩:=hr.frames.mem hm;refine k_ ?_;rw[hl] at ho;cases ho
theorem zat (h:Heap):h.get? h.objs.size=none:=by
 cases q:h.get? h.objs.size with
 |none=>rfl
 |some o=>exact absurd (Heap.lt_size q) (Nat.lt_irrefl _)
noncomputable def Amb.hold (am:Amb) (l:Addr):Amb:={ am with res:=l::am.res }
theorem zps:Via (am.hold l) am π (π++[l]) h h :=
 ⟨fun a o ho z h1 h2=>⟨⟨o.slots,ho⟩,by
   simp only[Amb.hold,zN,not_or] at h2;simp[h1,h2.1],by
   simp only[Amb.hold,zN,not_or] at h2;exact h2.2⟩,fun i a ha=>by rw[List.getElem?_append_left (List.getElem?_eq_some_iff.mp ha).1];exact ha⟩
theorem znx:Via (am.hold l) am π π h h :=
 ⟨fun a o ho z h1 h2=>⟨⟨o.slots,ho⟩,h1,fun q=>h2 (zY _ q)⟩,fun z z e=>e⟩
theorem zgY (hl:h.get? l=none):Via am (am.hold l) π π h h :=
 ⟨fun a o ho z h1 h2=>⟨⟨o.slots,ho⟩,h1,fun q=>by
  rcases zN.mp q with rfl|q
  ·rw[hl] at ho;cases ho
  ·exact h2 q⟩,fun z z e=>e⟩
theorem VRs.reserve (e:VRs (am.hold l) π h vs xs):VRs am (π++[l]) h vs xs∧VRs am π h vs xs:=⟨e.via zps,e.via znx⟩
theorem VR.held (hl:h.get? l=none) (e:VR am π h v x):VR (am.hold l) π h v x:=e.via (zgY hl)
theorem VRs.held (hl:h.get? l=none) (e:VRs am π h vs xs):VRs (am.hold l) π h vs xs:=e.via (zgY hl)
noncomputable def NewL (am:Amb) (π:List Addr) (s:Shared) (vs:List V) (x:Value) (s':Shared):Prop :=
 ∃ l xs h' tk,x=.ref l∧s'={ s with heap:=h',toks:=tk }∧(∀ b o,s.heap.get? b=some o→h'.get? b=some o)∧s.heap.get? l=none∧PL h' l xs∧VRs (am.hold l) π h' vs xs
theorem NewL.push (hv:VRs am π s.heap vs xs) (hc:o.cls=.type "list") (hdi:o.dict=none) (hd:o.data=.seq (List.toArray xs) n) :
  NewL am π s vs (.ref s.heap.objs.size) { s with heap:=s.heap.push o,toks:=tk }:=by
 have k:∀ b o',s.heap.get? b=some o'→(s.heap.push o).get? b=some o':=fun z z e=>Heap.get?_push_of_some _ e;exact⟨_,xs,_,tk,rfl,rfl,k,zat _,⟨o,n,Heap.get?_push_size _ (Obj.isFreed_of_seq hd),hc,hdi,hd⟩,(hv.held (zat _)).keeps k⟩
theorem NewL.lst {am:Amb}{sk:List Env}{π:List Addr}{s s':Shared}{Hc:H}{vs:List V}{x:Value}(hr:HR am sk π Hc s.heap) (hl:vs.length≤1000000) (n:NewL am π s vs x s') :
  OkP am sk (VR am) π s (.ok (.l vs) Hc) x s':=by
 refine hold fun z k_=>?_;obtain⟨l,xs,h',tk,rfl,rfl,k,h1,h2,h3⟩:=n;refine k_ ?_;refine OkP.keeps hr k ?_;exact⟨_,xs,rfl,⟨zaJ hr h1,zaG hr h1⟩,h2.is,hl,h3.reserve.2⟩
theorem OkP.tup {am:Amb}{sk:List Env}{π:List Addr}{s:Shared}{Hc:H}{vs:List V}{xs:List Value}{o:Obj}{n:Nat}{tk:Nat}(hr:HR am sk π Hc s.heap) (hv:VRs am π s.heap vs xs) (hl:vs.length≤1000000)
  (hc:o.cls=.type "tuple") (hd:o.data=.seq (List.toArray xs) n):OkP am sk (VR am) π s (.ok (.tup vs) Hc) (.ref s.heap.objs.size) { s with heap:=s.heap.push o,toks:=tk }:=by
 have k:∀ b o',s.heap.get? b=some o'→(s.heap.push o).get? b=some o':=fun z z e=>Heap.get?_push_of_some _ e;refine OkP.keeps hr k ?_;exact⟨_,xs,rfl,⟨zaJ hr (zat _),zaG hr (zat _)⟩,⟨o,Heap.get?_push_size _ (Obj.isFreed_of_seq hd),hc,n,hd⟩,hl,hv.keeps k⟩
theorem zao {am:Amb}{sk:List Env}{π:List Addr}{Hc:H}{h:Heap}(hr:HR am sk π Hc h){v:V}{x:Value}{vs:List V}(e:VR am π h v x) (hi:litems Hc v=some vs) :
  ∃ l xs,x=.ref l∧h.IsList l (List.toArray xs)∧vs.length≤1000000∧VRs am π h vs xs:=by
 cases v with
 |l ws =>
  cases Option.some.inj hi
  refine hold fun z k_=>?_;obtain⟨a,xs,h1,_,h3,h4,h5⟩:=e;refine k_ ?_;exact⟨a,xs,h1,h3,h4,h5⟩
 |ref i =>
  obtain⟨a,h1,h2⟩:=e
  cases hw:Hc[i]? with
  |none=>rw[show litems Hc (.ref i)=Option.none by show(match Hc[i]? with|some (.list vs)=>some vs|_=>Option.none)=_;rw[hw]] at hi;cases hi
  |some c =>
  cases c with
  |dict es=>rw[show litems Hc (.ref i)=Option.none by show(match Hc[i]? with|some (.list vs)=>some vs|_=>Option.none)=_;rw[hw]] at hi;cases hi
  |list ws =>
   rw[show litems Hc (.ref i)=some ws by show(match Hc[i]? with|some (.list vs)=>some vs|_=>Option.none)=_;rw[hw]] at hi
   cases hi
   refine hold fun z k_=>?_;obtain⟨xs,h3,h4,h5⟩:=(hr.cell i _ a hw h2).list;refine k_ ?_;exact⟨a,xs,h1,h3.is,h4,h5⟩
 |_=>exact no hi
theorem zbP:(1000000:Nat)≤sizeLine:=by decide
theorem zaN (h:n≤1000000):n≤sizeLine:=zX h zbP
theorem zcW {n:Nat}(h:n≤1000000):(n:Int) < 2 ^ 63:=Int.lt_of_le_of_lt (Int.ofNat_le.2 h) (by decide)
theorem zg4 {j n:Nat}(h:j < n) (hz:n≤1000000):(j:Int) < 2 ^ 63:=zcW (zX (Nat.le_of_lt h) hz)
theorem ze7 {k:Int}{n:Nat}(h:-(n:Int)≤k) (hz:n≤1000000):-2 ^ 63≤k:=Int.le_trans (Int.le_trans (by decide) (Int.neg_le_neg (Int.ofNat_le.2 hz))) h
section
variable {am:Amb}{sk:List Env}{A:Around}{π:List Addr}{s:Shared}{Hc:H}
theorem seer (ok:AmbOK am) (st:zeU sk) (hf:A.frames=some sk) (hr:HR am sk π Hc s.heap):SeerAt am.M A s.heap:=by
 refine hold fun z k_=>?_;obtain⟨e₀,outer,rfl,t⟩:=st;refine k_ ?_;exact SeerAt.of (ok.noseer.keeps hr.base) ok.tree hf t.gen t.co t.builtins t.globals
theorem zid (hr:HR am sk π Hc s.heap):JAt am sk A (binaryOp .Add (.int x t) (.int y u)) (.ok (V.int (x+y)) Hc) (VR am) π s :=
 .inr (add_int (OkP.tok hr ⟨_,rfl⟩))
theorem zh9 (hr:HR am sk π Hc s.heap):JAt am sk A (binaryOp .Sub (.int x t) (.int y u)) (.ok (V.int (x - y)) Hc) (VR am) π s :=
 .inr (sub_int' (OkP.tok hr ⟨_,rfl⟩))
set_option tactic.hygienic true in
theorem zdV (h:x.natAbs < 9223372036854775808):Builtin.Int.intBits x≤64:=by
 unfold Builtin.Int.intBits
 split
 ·exact Nat.zero_le _
 ·rename_i h0
  have h1:x.natAbs≠0:=by simpa using h0
  exact Nat.le_succ_of_le ((Nat.log2_lt h1 (k:=63)).mpr (by simpa using h))
theorem zia (hr:HR am sk π Hc s.heap) (h:x.natAbs < 9223372036854775808∨y.natAbs < 9223372036854775808) :
  JAt am sk A (binaryOp .Mult (.int x t) (.int y u)) (.ok (V.int (x * y)) Hc) (VR am) π s :=
 .inr (PyProof.Rows.mul_int (OkP.tok hr ⟨_,rfl⟩) (h.elim (fun h=>.of_left (zdV h)) fun h=>.of_right (zdV h)))
theorem zib (hr:HR am sk π Hc s.heap) (h:y≠0) :
  JAt am sk A (binaryOp .Mod (.int x t) (.int y u)) (.ok (V.int (x.fmod y)) Hc) (VR am) π s :=
 .inr (mod_int' h (OkP.tok hr ⟨_,rfl⟩))
theorem zgj (ok:AmbOK am) (st:zeU sk) (as:AS n sk A) (hr:HR am sk π Hc s.heap) (h:y≠0) :
  JAt am sk A (binaryOp .FloorDiv (.int x t) (.int y u)) (.ok (V.int (x.fdiv y)) Hc) (VR am) π s :=
 .inr (floordiv_int h (OkP.tok hr ⟨_,rfl⟩) (.inr (PylongRoom.of (ok.nolimit.keeps hr.base) (as.dk (by decide)) (seer ok st as.frames hr))))
theorem zcR {Q:Value→Shared→Prop}{E:Value→Shared→Prop}(hr:HR am sk π Hc s.heap) (ha:VR am π s.heap a x) (hb:VR am π s.heap b y) (la:litems Hc a=some vs) (lb:litems Hc b=some ws) (hle:(vs++ws).length≤1000000)
  (h:∀ y s',NewL am π s (vs++ws) y s'→Q y s'):wpAny am.M A (binaryOp .Add x y) Q E s:=by
 refine hold fun z k_=>?_;obtain⟨l,xs,rfl,hl,h1,h2⟩:=zao hr ha la;refine k_ ?_;refine hold fun z k_=>?_;obtain⟨l',ys,rfl,hl',h3,h4⟩:=zao hr hb lb;refine k_ ?_;refine hold fun z k_=>?_;obtain⟨⟨cls,dd,data,sl⟩,ho,hc,n,hd⟩:=hl;refine k_ ?_;refine hold fun z k_=>?_;obtain⟨⟨cls2,dd2,data2,sl2⟩,ho2,hc2,n2,hd2⟩:=hl';refine k_ ?_;simp only at hc hd hc2 hd2;subst hc hd hc2 hd2;have hsz:(List.toArray xs).size+(List.toArray ys).size≤sizeLine:=by
  rw[zQ] at hle;rw[size_toArray,size_toArray,h2.len,h4.len];exact zaN hle
 refine concat_meets ⟨_,ho,rfl⟩ ⟨_,ho2,rfl⟩ noFill_list_add seq_list_add PySem.F.slot_list_add PySem.F.entry_list_add (PySem.F.args_list_add_2 _ _) (list_addW l l' _ _ n n2 dd dd2 sl sl2 hsz) ⟨ho,ho2,?_⟩;exact h _ _ (NewL.push (xs:=xs++ys) (n:=0) (h2.append h4) rfl rfl (by simp))
set_option tactic.hygienic true in
theorem zgk (hr:HR am sk π Hc s.heap) (ha:VR am π s.heap a x) (hb:VR am π s.heap b y) (la:litems Hc a=some vs) (lb:litems Hc b=some ws) :
  JAt am sk A (binaryOp .Add x y) (R.opt (mkL (vs++ws)) Hc) (VR am) π s:=by
 unfold mkL
 split
 ·rename_i hle
  exact .inr (zcR hr ha hb la lb hle fun y s' n=>n.lst hr hle)
 ·exact .inl rfl
theorem zkl (xs:List Value) (n:Nat) (acc:Array Value):(List.foldl (fun x1 x2=>x1++x2) acc (List.replicate n (List.toArray xs)))=acc++List.toArray (List.replicate n xs).flatten:=by
 induction n generalizing acc with
 |zero=>exact(Array.append_empty ..).symm
 |succ n ih =>
  rw[List.replicate_succ,List.foldl_cons,ih,List.replicate_succ,List.flatten_cons,Array.append_assoc]
  congr 1
  exact List.append_toArray ..
theorem znZ {α:Type}(vs:List α) (n:Int):(rep vs n).length=n.toNat * vs.length:=by simp[rep]
theorem zcQ {Q:Value→Shared→Prop}{E:Value→Shared→Prop}(hr:HR am sk π Hc s.heap) (ha:VR am π s.heap a x) (la:litems Hc a=some vs) (hk:k < 1000000∧-1000000 < k) (hle:(rep vs k).length≤1000000)
  (h:∀ y s',NewL am π s (rep vs k) y s'→Q y s'):wpAny am.M A (binaryOp .Mult x (.int k u)) Q E s:=by
 refine hold fun z k_=>?_;obtain⟨l,xs,rfl,hl,h1,h2⟩:=zao hr ha la;refine k_ ?_;refine hold fun z k_=>?_;obtain⟨⟨cls,dd,data,sl⟩,ho,hc,n,hd⟩:=hl;refine k_ ?_;simp only at hc hd;subst hc hd;have e1:=h2.len;rw[znZ] at hle;have hsz:(List.toArray xs).size * k.toNat≤1000000:=by rw[size_toArray,e1,Nat.mul_comm];exact hle
 refine wpAny_binaryOp_repeat_ref (T:="list") (U:="int") (by decide) ⟨_,ho,rfl⟩ (fun s'=>typeIs_int s' k u) noFill_list_mul PySem.F.fills_int_mul PySem.F.slot_int_rmul repeat_list PySem.F.slot_int_index.lookup
  (call_meets PySem.F.slot_int_rmul (typeIs_int s k u) PySem.F.entry_int_rmul (PySem.F.args_int_rmul_2 _ _) (lm_int_rmul_list_any k u l _ n dd sl)
   ⟨ho,rfl,⟨_,ho,rfl⟩,call_meets PySem.F.slot_list_mul ⟨_,ho,rfl⟩ PySem.F.entry_list_mul (PySem.F.args_list_mul_2 _ _)
    (lm_list_mul_any l _ n dd sl k u (by simp[Builtin.List.listFitsIndex];omega) (by omega) (by simp[Builtin.List.listTooLong,sizeLine];simp only[size_toArray] at hsz;omega)) ⟨ho,?_⟩⟩)
 rw[zkl];refine h _ _ (NewL.push (xs:=(List.replicate k.toNat xs).flatten) (n:=0) (VRs.flatten h2 _) rfl rfl ?_);simp only[Array.empty_append,List.isEmpty_toArray]
 by_cases hx:xs=[]
 ·subst hx;simp
 ·rw[zR (by simpa using hx)]
set_option tactic.hygienic true in
theorem zgi (hr:HR am sk π Hc s.heap) (ha:VR am π s.heap a x) (la:litems Hc a=some vs) (hk:k < 1000000∧-1000000 < k) :
  JAt am sk A (binaryOp .Mult x (.int k u)) (R.opt (mkL (rep vs k)) Hc) (VR am) π s:=by
 unfold mkL
 split
 ·rename_i hle
  exact .inr (zcQ hr ha la hk hle fun y s' n=>n.lst hr hle)
 ·exact .inl rfl
end
end Mine.Internal
namespace Mine.Internal
open PySem PySem.W PyProof.Rows PySem.SeqAt
mutual
noncomputable def toD:V→PyData
 |.uu=>.none
 |.none=>.none
 |.bool b=>.bool b
 |.int i=>.int i
 |.str s=>.str (Str.ofString s)
 |.tup vs=>.tuple (toDs vs)
 |.l vs=>.list (toDs vs)
 |.ref _=>.none
 |.exc _=>.none
noncomputable def toDs:List V→List PyData
 |[]=>[]
 |v::vs=>toD v::toDs vs
end
theorem zfl (h:Str.ofString a=Str.ofString b):a=b:=by
 unfold Str.ofString at h
 injection h with h
 have h:=congrArg Array.toList h;simp only at h;rw[cpsOfBytes_string,cpsOfBytes_string] at h;have h2:a.toList=b.toList:=List.map_inj_right (fun x y e=>by
  have:=Char.ext (UInt32.toNat_inj.mp e);exact this) |>.mp h
 exact String.toList_inj.mp h2
theorem zfm (a b:String):(Str.ofString a == Str.ofString b)=(a == b):=by
 by_cases h:a=b
 ·subst h;simp
 ·rw[beq_eq_false_iff_ne.mpr h]
  exact beq_eq_false_iff_ne.mpr fun e=>h (zfl e)
theorem zk6 (s:String):PyData.strOk (Str.ofString s)=true:=by
 unfold PyData.strOk Str.ofString;rw[←Array.all_toList];simp only[cpsOfBytes_string,all_map,all_eq_true];intro c _;have h:=c.valid;simp only[UInt32.isValidChar,Nat.isValidChar] at h;exact zW (h.elim (fun h=>Nat.lt_trans h (by decide)) And.right)
theorem zhr (ih:∀ a b,V.ok n a=true→V.ok n b=true→PyData.eqv (toD a) (toD b)=peq a b) (a b:List V) (h:a.all (V.ok n)=true) (h':b.all (V.ok n)=true):PyData.eqvAll (toDs a) (toDs b)=peqs a b:=by
 induction a generalizing b with
 |nil=>cases b<;>rfl
 |cons x a ih2=>cases b with
  |nil=>rfl
  |cons y b =>
   have h:=yK.1 h;have h':=yK.1 h';show(PyData.eqv (toD x) (toD y)&&PyData.eqvAll (toDs a) (toDs b))=_;rw[ih x y h.1 h'.1,ih2 b h.2 h'.2];rfl
theorem zgJ (n:Nat) (a b:V) (h:V.ok n a=true) (h':V.ok n b=true):PyData.eqv (toD a) (toD b)=peq a b:=by
 induction n generalizing a b with
 |zero=>exact noB h
 |succ n ih =>
  cases a with
  |tup vs=>cases b<;>first|rfl|exact noB h'|exact zhr ih vs _ h h'
  |l vs=>cases b<;>first|rfl|exact noB h'|exact zhr ih vs _ h h'
  |str x=>cases b<;>first|rfl|exact noB h'|exact zfm _ _
  |none=>cases b<;>first|rfl|exact noB h'
  |bool _=>cases b<;>first|rfl|exact noB h'
  |int _=>cases b<;>first|rfl|exact noB h'
  |_=>exact noB h
theorem zbV (ih:∀ a:V,V.ok n a=true→(toD a).canLay0=true∧(toD a).depth≤n) (a:List V) (h:a.all (V.ok n)=true):PyData.canLayAll0 (toDs a)=true∧PyData.depthAll (toDs a)≤n:=by
 induction a with
 |nil=>exact⟨rfl,Nat.zero_le _⟩
 |cons x a ih2 =>
  have h:=yK.1 h;have h1:=ih x h.1;have h2:=ih2 h.2;exact⟨yK.2 ⟨h1.1,h2.1⟩,Nat.max_le.2 ⟨h1.2,h2.2⟩⟩
theorem zcp (n:Nat) (a:V) (h:V.ok n a=true):(toD a).canLay0=true∧(toD a).depth≤n:=by
 induction n generalizing a with
 |zero=>exact noB h
 |succ n ih =>
  cases a with
  |tup vs=>exact(zbV ih vs h).imp id Nat.succ_le_succ
  |l vs=>exact(zbV ih vs h).imp id Nat.succ_le_succ
  |str x=>exact⟨zk6 x,Nat.zero_le _⟩
  |none=>exact⟨rfl,Nat.zero_le _⟩
  |bool _=>exact⟨rfl,Nat.zero_le _⟩
  |int _=>exact⟨rfl,Nat.zero_le _⟩
  |_=>exact noB h
theorem zbz (h:V.ok 8 a=true):shaped (toD a)=true:=by
 have:=zcp 8 a h;unfold shaped;rw[this.1];simp only[Bool.true_and,decide_eq_true_eq];exact zX this.2 (by decide)
noncomputable def Tells (am:Amb) (π:List Addr) (h:Heap) (g:Nat→Option V):Prop :=
 ∀ (i:Nat) (a:Addr) (v':V),π[i]?=some a→g i=some v'→∀ n,V.ok n v'=true→∃ as,Reads h (.ref a) (toD v') as
theorem zbf {g:Nat→Option V}(ih:∀ (v:V) (x:Value) (v':V),VR am π h v x→V.mapRef g v=some v'→V.ok n v'=true→∃ as,Reads h x (toD v') as) (h1:VRs am π h vs xs) (h2:V.mapRefs g vs=some vs') (h3:vs'.all (V.ok n)=true):∃ as,ReadsAll h xs (toDs vs') as:=by
 induction vs generalizing xs vs' with
 |nil=>cases h2;cases h1;exact⟨[],.nil⟩
 |cons v vs ih2 =>
  obtain⟨v',j2,h4⟩:=Option.bind_eq_some_iff.1 h2;obtain⟨ws,j4,rfl⟩:=Option.map_eq_some_iff.1 h4;obtain⟨x,xs',rfl,h5,h6⟩:=h1;have h3:=yK.1 h3;obtain⟨as,h7⟩:=ih v x v' h5 j2 h3.1;obtain⟨bs,h8⟩:=ih2 h6 j4 h3.2;exact⟨as++bs,.cons h7 h8⟩
theorem zcw {g:Nat→Option V}(T:Tells am π h g) (v:V) (x:Value) (v':V) (n:Nat) (h1:VR am π h v x) (h2:V.mapRef g v=some v') (h3:V.ok n v'=true):∃ as,Reads h x (toD v') as:=by
 induction n generalizing v x v' with
 |zero=>exact noB h3
 |succ n ih =>
  cases v with
  |uu=>exact h1.elim
  |exc _=>exact h1.elim
  |none=>cases h2;cases h1;exact⟨[],.none⟩
  |bool b=>cases h2;cases h1;exact⟨[],.bool _⟩
  |int _=>cases h2;obtain⟨t,rfl⟩:=h1;exact⟨[],.int _ t⟩
  |str _=>cases h2;obtain⟨t,rfl⟩:=h1;exact⟨[],.str _ t⟩
  |ref i =>
   obtain⟨a,rfl,ha⟩:=h1;exact T i a v' ha h2 _ h3
  |tup vs =>
   obtain⟨vs',j2,rfl⟩:=Option.map_eq_some_iff.1 h2;obtain⟨a,xs,rfl,_,⟨o,ho,hc,m,hd⟩,_,h5⟩:=h1;obtain⟨as,h6⟩:=zbf ih h5 j2 h3;exact⟨as,.tuple ho hc hd h6⟩
  |l vs =>
   obtain⟨vs',j2,rfl⟩:=Option.map_eq_some_iff.1 h2;obtain⟨a,xs,rfl,_,⟨o,ho,hc,m,hd⟩,_,h5⟩:=h1;obtain⟨as,h6⟩:=zbf ih h5 j2 h3;exact⟨a::as,.list ho hc hd h6⟩
theorem zf3 {am:Amb}{sk:List Env}{π:List Addr}{Hc:H}{h:Heap}(hr:HR am sk π Hc h) (k:Nat):Tells am π h (frzAt k 0 Hc):=by
 induction k with
 |zero=>exact fun i a v' z hg=>no hg
 |succ k ih =>
  intro i a v' hi hg n hn;rw[zeE,zR (Nat.not_lt_zero _)] at hg
  cases hc:Hc[i]? with
  |none=>rw[hc] at hg;cases hg
  |some c =>
  cases c with
  |dict es=>rw[hc] at hg;cases hg
  |list vs =>
   rw[hc] at hg;obtain⟨vs',h1,rfl⟩:=Option.map_eq_some_iff.1 hg;refine hold fun z k_=>?_;obtain⟨xs,⟨o,m,ho,hcl,_,hd⟩,_,h3⟩:=(hr.cell i _ a hc hi).list;refine k_ ?_
   cases n with
   |zero=>exact noB hn
   |succ n =>
    obtain⟨as,h6⟩:=zbf (fun v x v' a b c=>zcw ih v x v' n a b c) h3 h1 hn;exact⟨a::as,.list ho hcl hd h6⟩
section
variable {am:Amb}{sk:List Env}{A:Around}{π:List Addr}{s:Shared}{Hc:H}
theorem za1 (hr:HR am sk π Hc s.heap) (h1:VR am π s.heap v x) (h2:frz 0 Hc v=some v') (h3:V.ok 8 v'=true):∃ as,Reads s.heap x (toD v') as :=
 zcw (zf3 hr 4) v x v' 8 h1 h2 h3
set_option tactic.hygienic true in
theorem zrJ (as:AS n sk A) (hr:HR am sk π Hc s.heap) (ha:VR am π s.heap a x) (hb:VR am π s.heap b y) :
  JAt am sk A (compareOp .Eq x y) (R.opt ((pyEq Hc a b).map V.bool) Hc) (VR am) π s:=by
 unfold pyEq
 cases h1:frz 0 Hc a with
 |none=>exact .inl rfl
 |some a' =>
  cases h2:frz 0 Hc b with
  |none=>exact .inl rfl
  |some b' =>
   simp only
   split
   ·rename_i h
    simp only[Bool.and_eq_true] at h;obtain⟨_,r1⟩:=za1 hr ha h1 h.1;obtain⟨_,r2⟩:=za1 hr hb h2 h.2;refine .inr (compareEq_shaped r1 r2 (zbz h.1) (zbz h.2) (as.uk (by decide)) ?_)
    rw[zgJ 8 a' b' h.1 h.2];exact OkP.here hr rfl
   ·exact .inl rfl
set_option tactic.hygienic true in
theorem zrE (as:AS n sk A) (hr:HR am sk π Hc s.heap) (ha:VR am π s.heap a x) (hb:VR am π s.heap b y) :
  JAt am sk A (compareOp .NotEq x y) (R.opt (((pyEq Hc a b).map (!·)).map V.bool) Hc) (VR am) π s:=by
 unfold pyEq
 cases h1:frz 0 Hc a with
 |none=>exact .inl rfl
 |some a' =>
  cases h2:frz 0 Hc b with
  |none=>exact .inl rfl
  |some b' =>
   simp only
   split
   ·rename_i h
    simp only[Bool.and_eq_true] at h;obtain⟨_,r1⟩:=za1 hr ha h1 h.1;obtain⟨_,r2⟩:=za1 hr hb h2 h.2;refine .inr (compareNe_shaped r1 r2 (zbz h.1) (zbz h.2) (as.uk (by decide)) ?_)
    rw[zgJ 8 a' b' h.1 h.2];exact OkP.here hr rfl
   ·exact .inl rfl
theorem zpj (h:vs.all (V.ok n)=true) (ha:V.ok n a=true):((toDs vs).any fun y=>PyData.eqv y (toD a))=vs.any fun y=>peq y a:=by
 induction vs with
 |nil=>rfl
 |cons v vs ih =>
  simp only[List.all_cons,Bool.and_eq_true] at h;show(PyData.eqv (toD v) (toD a)||(toDs vs).any fun y=>PyData.eqv y (toD a))=(peq v a||vs.any fun y=>peq y a);rw[zgJ n v a h.1 ha,ih h.2]
theorem zgl:∀ (n:Nat) (v:V),V.ok n v=true→V.ok (n+1) v=true
 |0,v,h=>Bool.noConfusion h
 |n+1,v,h=>by
  cases v with
  |tup vs=>exact List.all_eq_true.2 fun x hx=>zgl n x (List.all_eq_true.1 h x hx)
  |l vs=>exact List.all_eq_true.2 fun x hx=>zgl n x (List.all_eq_true.1 h x hx)
  |_=>exact h
set_option tactic.hygienic true in
theorem zjH (as:AS n sk A) (hr:HR am sk π Hc s.heap) (ha:VR am π s.heap a x) (hb:VR am π s.heap b y) :
  JAt am sk A (compareOp .In x y) (R.opt ((isIn Hc a b).map V.bool) Hc) (VR am) π s∧JAt am sk A (compareOp .NotIn x y) (R.opt (((isIn Hc a b).map (!·)).map V.bool) Hc) (VR am) π s:=by
 unfold isIn
 cases h1:frz 0 Hc a with
 |none=>exact⟨.inl rfl,.inl rfl⟩
 |some a' =>
  cases h2:frz 0 Hc b with
  |none=>exact⟨.inl rfl,.inl rfl⟩
  |some b' =>
   simp only
   split
   ·rename_i h
    simp only[Bool.and_eq_true] at h;obtain⟨_,r1⟩:=za1 hr ha h1 h.1;obtain⟨_,r2⟩:=za1 hr hb h2 h.2;have hu:A.units+100 < cLine:=as.uk (by decide)
    have ca:=zcp 8 a' h.1;have key:∀ vs:List V,vs.all (V.ok 7)=true→PyData.canLayAll0 (toDs vs)=true∧A.units+1+min (PyData.depthAll (toDs vs)) (toD a').depth < cLine∧((toDs vs).any fun y=>PyData.eqv y (toD a'))=vs.any fun y=>peq y a':=fun vs hv=>by
     have:=zbV (zcp 7) vs hv;refine⟨this.1,Nat.lt_of_le_of_lt (Nat.add_le_add_left (zX (Nat.min_le_left ..) this.2) _) (as.uk (k:=8) (by decide)),zpj (n:=8) (by simp only[all_eq_true] at hv ⊢;exact fun x hx=>zgl 7 x (hv x hx)) h.1⟩
    cases b' with
    |l vs =>
     have hv:vs.all (V.ok 7)=true:=h.2;obtain⟨k1,k2,k3⟩:=key vs hv;refine⟨.inr (in_list_reads (c:=y) (xs:=toDs vs) r2 r1 k1 ca.1 k2 ?_),.inr (notIn_list_reads (c:=y) (xs:=toDs vs) r2 r1 k1 ca.1 k2 ?_)⟩
     ·rw[k3];exact OkP.here hr rfl
     ·rw[k3];exact OkP.here hr rfl
    |tup vs =>
     have hv:vs.all (V.ok 7)=true:=h.2;obtain⟨k1,k2,k3⟩:=key vs hv;refine⟨.inr (in_tuple_reads (c:=y) (xs:=toDs vs) r2 r1 k1 ca.1 k2 ?_),.inr (notIn_tuple_reads (c:=y) (xs:=toDs vs) r2 r1 k1 ca.1 k2 ?_)⟩
     ·rw[k3];exact OkP.here hr rfl
     ·rw[k3];exact OkP.here hr rfl
    |_=>exact⟨.inl rfl,.inl rfl⟩
   ·exact⟨.inl rfl,.inl rfl⟩
theorem zom (h:VR am π s.heap v x) (hv:v≠.none):(x == Value.none)=false:=by
 cases v<;>first|exact False.elim h|exact absurd rfl hv|skip
 ·cases h;rfl
 ·obtain⟨t,rfl⟩:=h;rfl
 ·obtain⟨t,rfl⟩:=h;rfl
 ·obtain⟨a,xs,rfl,_⟩:=h;rfl
 ·obtain⟨a,xs,rfl,_⟩:=h;rfl
 ·obtain⟨a,rfl,_⟩:=h;rfl
theorem zp4 (hr:HR am sk π Hc s.heap) (ha:VR am π s.heap a x) (hb:VR am π s.heap b y) :
  JAt am sk A (compareOp .Is x y) (R.opt ((pyIs a b).map V.bool) Hc) (VR am) π s∧JAt am sk A (compareOp .IsNot x y) (R.opt (((pyIs a b).map (!·)).map V.bool) Hc) (VR am) π s:=by
 unfold pyIs
 cases b with
 |none =>
  cases hb
  by_cases hv:a=.none
  ·subst hv
   cases ha
   exact⟨.inr (is_none (OkP.here hr rfl)),.inr (isNot_none (OkP.here hr rfl))⟩
  ·have e:=zom ha hv
   have key:JAt am sk A (compareOp .Is x Value.none) (R.ok (V.bool false) Hc) (VR am) π s∧JAt am sk A (compareOp .IsNot x Value.none) (R.ok (V.bool true) Hc) (VR am) π s:=by
    refine⟨.inr (is_none ?_),.inr (isNot_none ?_)⟩
    ·rw[e];exact OkP.here hr rfl
    ·rw[e];exact OkP.here hr rfl
   cases a<;>first|exact key|exact absurd rfl hv|exact⟨.inl rfl,.inl rfl⟩
 |_=>exact⟨.inl rfl,.inl rfl⟩
theorem zfu (a b:Int):decide (a≤b)=!decide (b < a):=by
 rw[←decide_not];exact decide_eq_decide.mpr Int.not_lt.symm
inductive LtC:V→V→Prop
 |none {a b:V}(e:pyLt a b=Option.none):LtC a b
 |both (x y:Int):LtC (.int x) (.int y)
theorem zbA (a b:V):LtC a b:=by
 cases a with
 |int x=>cases b with
  |int y=>exact .both x y
  |_=>exact .none rfl
 |_=>exact .none rfl
theorem zrF (hr:HR am sk π Hc s.heap) (ha:VR am π s.heap a x) (hb:VR am π s.heap b y) :
  JAt am sk A (compareOp .Lt x y) (R.opt ((pyLt a b).map V.bool) Hc) (VR am) π s:=by
 cases zbA a b with
 |none e=>rw[e];exact .inl rfl
 |both =>
  obtain⟨_,rfl⟩:=ha;obtain⟨_,rfl⟩:=hb;exact .inr (lt_int (OkP.here hr rfl))
theorem zrH (hr:HR am sk π Hc s.heap) (ha:VR am π s.heap a x) (hb:VR am π s.heap b y) :
  JAt am sk A (compareOp .Gt x y) (R.opt ((pyLt b a).map V.bool) Hc) (VR am) π s:=by
 cases zbA b a with
 |none e=>rw[e];exact .inl rfl
 |both =>
  obtain⟨_,rfl⟩:=ha;obtain⟨_,rfl⟩:=hb;exact .inr (gt_int (OkP.here hr rfl))
theorem zrG (hr:HR am sk π Hc s.heap) (ha:VR am π s.heap a x) (hb:VR am π s.heap b y) :
  JAt am sk A (compareOp .LtE x y) (R.opt (((pyLt b a).map (!·)).map V.bool) Hc) (VR am) π s:=by
 cases zbA b a with
 |none e=>rw[e];exact .inl rfl
 |both =>
  obtain⟨_,rfl⟩:=ha;obtain⟨_,rfl⟩:=hb;exact .inr (PyProof.Rows.le_int (OkP.here hr (congrArg Value.bool (zfu _ _))))
theorem zrI (hr:HR am sk π Hc s.heap) (ha:VR am π s.heap a x) (hb:VR am π s.heap b y) :
  JAt am sk A (compareOp .GtE x y) (R.opt (((pyLt a b).map (!·)).map V.bool) Hc) (VR am) π s:=by
 cases zbA a b with
 |none e=>rw[e];exact .inl rfl
 |both =>
  obtain⟨_,rfl⟩:=ha;obtain⟨_,rfl⟩:=hb;exact .inr (PyProof.Rows.ge_int (OkP.here hr (congrArg Value.bool (zfu _ _))))
end
end Mine.Internal
namespace Mine.Internal
open PySem PySem.W PyProof.Rows
noncomputable abbrev kI (am:Amb):KeyKind am.prog am.w Int:=intKind am.prog am.w
theorem zb5 (es:List (V × V)):(es.flatMap fun e=>[e.1,e.2]).length=2 * es.length:=by
 induction es with
 |nil=>rfl
 |cons e es ih=>exact congrArg (fun n=>n+1+1) ih
theorem zfO (h:dfind k es=some v):∃ j:Nat,es[j]?=some (k,v):=by
 induction es with
 |nil=>cases h
 |cons e es ih =>
  rw[zdh] at h
  by_cases q:k=e.1
  ·rw[zT q] at h;cases h;exact⟨0,by rw[q];rfl⟩
  ·rw[zR q] at h
   obtain⟨j,hj⟩:=ih h;exact⟨j+1,hj⟩
theorem zhw {k v:V}{es:List (V × V)}{j:Nat}(hn:(es.map (·.1)).Nodup) (h:es[j]?=some (k,v)):dfind k es=some v:=by
 induction es generalizing j with
 |nil=>cases h
 |cons e es ih =>
  cases j with
  |zero=>cases h;exact(zdh ..).trans (zT rfl)
  |succ j =>
   rw[yY,nodup_cons] at hn;exact(zdh ..).trans ((zR fun q:k=e.1=>hn.1 (q ▸ yQ.2 ⟨_,mem_of_getElem? h,rfl⟩)).trans (ih hn.2 h))
section
variable {am:Amb}{π:List Addr}{h:Heap}
theorem zmp {es:List (V × V)}{xs:List Value}(r:VRs am π h (es.flatMap fun e=>[e.1,e.2]) xs){j:Nat}{k v:V}(e:es[j]?=some (k,v)):∃ x y,(ents es xs)[j]?=some ⟨hashV k,x,y⟩∧VR am π h k x∧VR am π h v y:=by
 induction es generalizing xs j with
 |nil=>cases e
 |cons p es ih =>
  obtain⟨x,_,rfl,hx,y,xs',rfl,hy,r⟩:=r
  cases j with
  |zero=>cases e;exact⟨x,y,rfl,hx,hy⟩
  |succ j=>exact ih r e
theorem zmo (r:VRs am π h (es.flatMap fun e=>[e.1,e.2]) xs):(ents es xs).length=es.length:=by
 induction es generalizing xs with
 |nil=>cases xs<;>rfl
 |cons p es ih =>
  obtain⟨x,_,rfl,hx,y,xs',rfl,hy,r⟩:=r;exact congrArg Nat.succ (ih r)
structure DC (am:Amb) (π:List Addr) (h:Heap) (es:List (V × V)) (d:Addr) (o:Obj) (arr:Array DictEntry) (ep:Nat) (xs:List Value):Prop where
 ne:(d == sysModules)=false
 ho:h.get? d=some o
 cls:o.cls=.type "dict"
 dict:o.dict=none
 data:o.data=.dict arr ep
 arr:arr.toList=ents es xs
 vr:VRs am π h (es.flatMap fun e=>[e.1,e.2]) xs
 good:dgood es
 age:ep=es.length
 len:(es.flatMap fun e=>[e.1,e.2]).length≤1000000
theorem CellAt.dict (x:CellAt am π h (.dict es) d):∃ o arr ep xs,DC am π h es d o arr ep xs:=by
 obtain⟨o,xs,ho,⟨hs,arr,ep,hc,hdi,hd,he,hg,ha⟩,hl,hv⟩:=x;exact⟨o,arr,ep,xs,beq_false_of_ne hs,ho,hc,hdi,hd,he,hv,hg,ha,hl⟩
end
section
variable {am:Amb}{sk:List Env}{A:Around}{π:List Addr}{s:Shared}{Hc:H}{E:Value→Shared→Prop}{es:List (V × V)}{d:Addr}{o:Obj}{arr:Array DictEntry}{ep:Nat}{xs:List Value}{k:V}{x:Value}
theorem DC.typeIs (D:DC am π s.heap es d o arr ep xs):s.TypeIs (.ref d) "dict":=⟨o,D.ho,D.cls⟩
theorem DC.at (D:DC am π s.heap es d o arr ep xs){j:Nat}{k v:V}(e:es[j]?=some (k,v)):∃ x y,arr[j]?=some ⟨hashV k,x,y⟩∧VR am π s.heap k x∧VR am π s.heap v y:=by
 obtain⟨x,y,e1,r⟩:=zmp D.vr e;rw[←D.arr,Array.getElem?_toList] at e1;exact⟨x,y,e1,r⟩
theorem DC.size (D:DC am π s.heap es d o arr ep xs):arr.size=es.length:=by rw[←Array.length_toList,D.arr,zmo D.vr]
theorem zoz (hk:isI k=true):∃ i,k=.int i:=by
 cases k with
 |int i=>exact⟨i,rfl⟩
 |_=>cases hk
theorem zlV (r:VR am π s.heap (.int i) x):∃ n,∀ {Q:Int→Shared→Prop}{E:Value→Shared→Prop},Q (hashV (.int i)) { s with toks:=s.toks+n }→wpAny am.M A (pyHash x) Q E s:=by
 obtain⟨t,rfl⟩:=r;exact⟨1,fun h=>(kI am).pyHash (k:=i) (by simp[kI,intKind,Value.isInt]) h⟩
theorem zlW (D:DC am π s.heap es d o arr ep xs) (hall:∀ e∈es,isI e.1=true) (r:VR am π s.heap (.int i) x){Q:Option Nat→Shared→Prop}(h0:dfind (.int i) es=none→Q none s) (h1:∀ j v,es[j]?=some (.int i,v)→Q (some j) s):wpAny am.M A (dictFind d x (hashV (.int i))) Q E s:=by
 obtain⟨t,rfl⟩:=r;have is_of:∀ {j:Nat}(hj:j < arr.size),∃ i' t' v,es[j]?=some (.int i',v)∧arr[j].key=.int i' t'∧arr[j].hash=hashInt i':=fun {j} hj=>by
  have hj':j < es.length:=by rw[←D.size];exact hj
  obtain⟨k',v⟩:∃ k' v,es[j]?=some (k',v):=⟨es[j].1,es[j].2,zM hj'⟩;obtain⟨v,e⟩:=v;have hg:=hall _ (mem_of_getElem? e);obtain⟨i',rfl⟩:=zoz (k:=k') hg;obtain⟨x,y,e1,hx,_⟩:=D.at e;obtain⟨t',rfl⟩:=hx;rw[Array.getElem?_eq_getElem hj] at e1
  cases e1':arr[j]
  rw[e1'] at e1
  cases e1
  exact⟨i',t',v,e,rfl,rfl⟩
 refine wpAny_dictFind_of (knd:=kI am) (k:=i) (by simp[kI,intKind,Value.isInt]) D.ho D.data (fun e he=>?_) ?_
 ·obtain⟨j,hj,rfl⟩:=Array.mem_iff_getElem.mp he
  obtain⟨i',t',v,_,e1,e2⟩:=is_of hj;exact⟨i',by rw[e1];simp[kI,intKind,Value.isInt],e2⟩
 ·cases hf:arr.findIdx? fun e=>(kI am).is i e.key with
  |some j =>
   obtain⟨hj,hi,_⟩:=Array.findIdx?_eq_some_iff_getElem.mp hf;obtain⟨i',t',v,e,e1,_⟩:=is_of hj;rw[e1] at hi;have:i'=i:=by simpa [kI,intKind,Value.isInt] using hi
   exact h1 j v (by rw[←this];exact e)
  |none =>
   refine h0 ?_
   cases hd:dfind (.int i) es with
   |none=>rfl
   |some v =>
    obtain⟨j,e⟩:=zfO hd;have hj:j < arr.size:=by rw[D.size];exact(List.getElem?_eq_some_iff.1 e).1
    obtain⟨i',t',v',e',e1,_⟩:=is_of hj;rw[e] at e';cases e'
    have:=Array.findIdx?_eq_none_iff.mp hf arr[j] (Array.getElem_mem hj);rw[e1] at this;simp[kI,intKind,Value.isInt] at this
noncomputable abbrev kT (am:Amb):HeapKind am.prog am.w (List Int):=tupleKind (kI am)
theorem ziK (h1:asInts vs=some is) (h2:asInts ws=some is):vs=ws:=by
 have key:∀ {vs:List V}{is:List Int},asInts vs=some is→vs=is.map V.int:=fun {vs}=>by
  induction vs with
  |nil=>intro is h;cases h;rfl
  |cons v vs ih =>
   intro is h
   cases v with
   |int i =>
    obtain⟨a,ha,rfl⟩:=Option.map_eq_some_iff.1 h;exact congrArg (V.int i::·) (ih ha)
   |_=>exact no h
 rw[key h1,key h2]
theorem zd6 (h:tupT k=some is):∃ vs,k=.tup vs∧asInts vs=some is:=by
 cases k with
 |tup vs=>exact⟨vs,rfl,h⟩
 |_=>exact no h
theorem zg1 (h:tupT k=some is) (h':tupT k'=some is):k=k':=by
 obtain⟨vs,rfl,e⟩:=zd6 h;obtain⟨ws,rfl,e'⟩:=zd6 h';rw[ziK e e']
theorem zj3 (e:asInts vs=some is) (r:VRs am π h vs xs):ItemsAre (kI am) is xs:=by
 induction vs generalizing xs is with
 |nil=>cases e;cases r;exact .nil
 |cons v vs ih =>
  cases v with
  |int i =>
   obtain⟨a,ha,rfl⟩:=Option.map_eq_some_iff.1 e;obtain⟨x,xs',rfl,⟨t,rfl⟩,r⟩:=r;exact .cons (by simp[kI,intKind,Value.isInt]) (ih ha r)
  |_=>exact no e
theorem zjZ (hk:(tupT k).isSome=true) (r:VR am π h k x):∃ is a,x=.ref a∧tupT k=some is∧IsTupleKey (kI am) h is a∧hashV k=(kT am).hash is:=by
 obtain⟨is,e⟩:=Option.isSome_iff_exists.1 (show(tupT k).isSome=true from hk);refine⟨is,?_⟩;obtain⟨vs,rfl,e'⟩:=zd6 e;have hh:hashV (.tup vs)=(kT am).hash is:=by
  show(match tupT (.tup vs) with|some is=>reduceHash (Builtin.Tuple.tupleHashOf (is.map hashInt))|none=>0)=_
  rw[e];rfl
 obtain⟨a,xs,rfl,_,⟨o,ho,hc,n,hd⟩,_,rs⟩:=r;exact⟨a,rfl,e,⟨o,_,n,ho,hc,hd,zj3 e' rs⟩,hh⟩
theorem zlT (hk:(tupT k).isSome=true) (r:VR am π s.heap k x) (hu:A.units < cLine):∃ n,∀ {Q:Int→Shared→Prop}{E:Value→Shared→Prop},Q (hashV k) { s with toks:=s.toks+n }→wpAny am.M A (pyHash x) Q E s:=by
 obtain⟨is,a,rfl,_,hb,hh⟩:=zjZ hk r;refine⟨(kT am).draws is,fun h=>?_⟩;rw[hh] at h;exact(kT am).pyHash hu hb h
theorem zr7 (r:VRs am π h (es.flatMap fun e=>[e.1,e.2]) xs) (g:∀ e∈es,(tupT e.1).isSome=true) :
  ∃ ks:List (List Int × Addr × Value),ents es xs=ks.map (entryOfKey (kT am))∧(∀ x∈ks,IsTupleKey (kI am) h x.1 x.2.1)∧es.map (fun e=>tupT e.1)=ks.map fun x=>some x.1:=by
 induction es generalizing xs with
 |nil=>exact⟨[],by cases xs<;>rfl,fun u h=>(not_mem_nil h).elim,rfl⟩
 |cons p es ih =>
  obtain⟨x,_,rfl,hx,y,xs',rfl,hy,r⟩:=r;obtain⟨is,a,rfl,hk,ht,hh⟩:=zjZ (g _ (zZ ..)) hx;obtain⟨ks,he,hi,hm⟩:=ih r fun e he=>g e (zY _ he);refine⟨(is,a,y)::ks,?_,fun z hz=>?_,by rw[yY,yY,hm,hk]⟩
  ·rw[yY,← he]
   show(⟨hashV p.1,.ref a,y⟩:DictEntry)::_=⟨(kT am).hash is,.ref a,y⟩::_;rw[hh]
  ·rcases zN.1 hz with rfl|hz
   ·exact ht
   ·exact hi z hz
theorem zlU (D:DC am π s.heap es d o arr ep xs) (hall:∀ e∈es,(tupT e.1).isSome=true) (hk:(tupT k).isSome=true) (r:VR am π s.heap k x) (hu:A.units < cLine){Q:Option Nat→Shared→Prop}(h0:dfind k es=none→Q none s) (h1:∀ j v,es[j]?=some (k,v)→Q (some j) s):wpAny am.M A (dictFind d x (hashV k)) Q E s:=by
 obtain⟨is,a,rfl,e,hb,hh⟩:=zjZ hk r;obtain⟨ks,he,hi,hm⟩:=zr7 D.vr hall;have at':∀ j:Nat,(es[j]?).map (fun e=>tupT e.1)=(ks[j]?).map fun x=>some x.1:=fun j=>by rw[←List.getElem?_map,hm,List.getElem?_map]
 have hn:(ks.map (·.1)).Nodup:=by
  have inj:(es.map fun e=>tupT e.1).Nodup:=by
   refine List.pairwise_map.2 (List.Pairwise.imp_of_mem (fun {x y} hx hy ne q=>?_) (List.pairwise_map.1 D.good.1));obtain⟨i,ex⟩:=Option.isSome_iff_exists.1 (hall x hx);exact ne (zg1 ex (q ▸ ex))
  rw[hm] at inj;exact List.pairwise_map.2 (List.Pairwise.imp (fun {x y} ne q=>ne (congrArg some q)) (List.pairwise_map.1 inj))
 rw[hh];refine wpAny_dictFind_heap (knd:=kT am) hu hb D.ho D.data (D.arr.trans he) hi hn (fun hno=>h0 ?_) fun j p hj=>?_
 ·cases hd:dfind k es with
  |none=>rfl
  |some v =>
   obtain⟨j,ej⟩:=zfO hd;have:=at' j;rw[ej,Option.map_some,e] at this
   cases hq:ks[j]? with
   |none=>rw[hq] at this;cases this
   |some z =>
    rw[hq] at this
    cases this
    exact absurd hq (hno j z.2)
 ·have:=at' j
  rw[hj] at this
  cases hq:es[j]? with
  |none=>rw[hq] at this;cases this
  |some z =>
   rw[hq,Option.map_some,Option.map_some] at this;obtain⟨k',v⟩:=z;exact h1 j v (by rw[hq,zg1 (k:=k') (Option.some.inj this) e])
theorem zqL (h:keyFit k es=true):keyOk k=true:=by
 cases k with
 |int i=>rfl
 |tup vs=>exact(yK.1 (show((tupT (.tup vs)).isSome&&es.all fun e=>(tupT e.1).isSome)=true from h)).1
 |_=>exact Bool.noConfusion (show false=true from h)
theorem zgz (hk:keyFit k es=true) (r:VR am π s.heap k x) (hu:A.units < cLine):∃ n,∀ {Q:Int→Shared→Prop}{E:Value→Shared→Prop},Q (hashV k) { s with toks:=s.toks+n }→wpAny am.M A (pyHash x) Q E s:=by
 cases k with
 |int i=>exact zlV r
 |tup vs=>exact zlT (yK.1 (show((tupT (.tup vs)).isSome&&es.all fun e=>(tupT e.1).isSome)=true from hk)).1 r hu
 |_=>exact Bool.noConfusion (show false=true from hk)
theorem zgA (D:DC am π s.heap es d o arr ep xs) (hk:keyFit k es=true) (r:VR am π s.heap k x) (hu:A.units < cLine){Q:Option Nat→Shared→Prop}(h0:dfind k es=none→Q none s) (h1:∀ j v,es[j]?=some (k,v)→Q (some j) s):wpAny am.M A (dictFind d x (hashV k)) Q E s:=by
 cases k with
 |int i=>exact zlW D (List.all_eq_true.1 hk) r h0 h1
 |tup vs =>
  have hk:=yK.1 (show((tupT (.tup vs)).isSome&&es.all fun e=>(tupT e.1).isSome)=true from hk);exact zlU D (List.all_eq_true.1 hk.2) hk.1 r hu h0 h1
 |_=>exact Bool.noConfusion (show false=true from hk)
theorem DC.get (D:DC am π s.heap es d o arr ep xs) (hk:keyFit k es=true) (r:VR am π s.heap k x) (hu:A.units < cLine){Q:Option Value→Shared→Prop}
  (h0:∀ n,dfind k es=none→Q none { s with toks:=s.toks+n }) (h1:∀ n v y,dfind k es=some v→VR am π s.heap v y→Q (some y) { s with toks:=s.toks+n }):wpAny am.M A (dictGet d x) Q E s:=by
 obtain⟨n,hh⟩:=zgz hk r hu;unfold dictGet
 try with_reducible refine yU ?_
 refine yX (hh (yX (zgA (s:={ s with toks:=s.toks+n }) D hk r hu (fun e=>yW (h0 n e)) fun j v e=>?_)))
 obtain⟨x',y,e1,_,hy⟩:=D.at e;refine yX (wpAny_dictEntries (s:={ s with toks:=s.toks+n }) D.ho D.data ?_)
 rw[e1];exact yW (h1 n v y (zhw D.good.1 e) hy)
theorem DC.contains (D:DC am π s.heap es d o arr ep xs) (hk:keyFit k es=true) (r:VR am π s.heap k x) (hu:A.in1.units < cLine){Q:Bool→Shared→Prop}(h:∀ n,Q (dfind k es).isSome { s with toks:=s.toks+n }):wpAny am.M A (PySem.contains (.ref d) x) Q E s:=by
 unfold PySem.contains
 try with_reducible refine yU ?_
 refine yX (wpAny_specialOf D.typeIs slot_dict_contains.lookup ?_);show wpAny _ _ (if(some (Value.builtin "dict.__contains__") == some Value.none)=true then _ else _) _ E s;rw[zR (by rw[beq_builtin_none];exact Bool.false_ne_true)]
 refine yX (wpAny_callSpecialUnlessNone?_slot (name:=Str.ofString "__contains__") D.typeIs slot_dict_contains
  (wpAny_call_entry slot_dict_contains D.typeIs entry_dict_contains ?_ (args_dict_contains _ _)))
 show wpAny _ _ (dictGet d x >>= _) _ _ s;refine yX (D.get hk r hu (fun n e=>?_) fun n v y e z=>?_)
 ·have h:=h n
  rw[e] at h;show wpAny _ _ (Builtin.Dict.pendingKey? d x >>= _) _ _ _;exact yX (wpAny_pendingKey_other D.ne (yW ⟨_,rfl,wpAny_truthy_bool h⟩))
 ·have h:=h n
  rw[e] at h;show wpAny _ _ (ret (.bool true)) _ _ _;exact yW ⟨_,rfl,wpAny_truthy_bool h⟩
theorem zjI {n:Nat}{i:Nat}{a:V}(as:AS n sk A) (hr:HR am sk π Hc s.heap) (hc:Hc[i]?=some (.dict es)) (hp:π[i]?=some d) (ha:VR am π s.heap a x) :
  JAt am sk A (compareOp .In x (.ref d)) (R.opt ((if keyFit a es then some (dfind a es).isSome else Option.none).map V.bool) Hc) (VR am) π s∧JAt am sk A (compareOp .NotIn x (.ref d)) (R.opt (((if keyFit a es then some (dfind a es).isSome else Option.none).map (!·)).map V.bool) Hc) (VR am) π s:=by
 cases hk:keyFit a es with
 |false=>exact⟨.inl rfl,.inl rfl⟩
 |true =>
  obtain⟨o,arr,ep,xs,D⟩:=(hr.cell i _ d hc hp).dict;have hu:A.in1.units < cLine:=as.uk (k:=1) (by decide)
  refine⟨.inr ?_,.inr ?_⟩
  ·show wpAny _ _ (do return Value.bool (← PySem.contains (.ref d) x)) _ _ s
   exact yX (D.contains hk ha hu fun n=>yW (OkP.tok hr rfl))
  ·show wpAny _ _ (do return Value.bool (!(← PySem.contains (.ref d) x))) _ _ s
   exact yX (D.contains hk ha hu fun n=>yW (OkP.tok hr rfl))
theorem dput_new (h:dfind k es=none):dput k v es=es++[(k,v)]:=by
 induction es with
 |nil=>rfl
 |cons e es ih =>
  rw[zdh] at h
  by_cases q:k=e.1
  ·rw[zT q] at h;cases h
  ·rw[zR q] at h
   exact(zfN ..).trans ((zR q).trans (congrArg (e::·) (ih h)))
theorem zmv (hn:(es.map (·.1)).Nodup) (h:es[j]?=some (k,v0)):dput k v es=es.set j (k,v):=by
 induction es generalizing j with
 |nil=>cases h
 |cons e es ih =>
  cases j with
  |zero=>cases h;exact(zfN ..).trans (zT rfl)
  |succ j =>
   rw[yY,nodup_cons] at hn;exact(zfN ..).trans ((zR fun q:k=e.1=>hn.1 (q ▸ yQ.2 ⟨_,mem_of_getElem? h,rfl⟩)).trans (congrArg (e::·) (ih hn.2 h)))
theorem zmn (hy:VR am π h v y) (r:VRs am π h (es.flatMap fun e=>[e.1,e.2]) xs) (e:es[j]?=some (k,v0)) :
  ∃ xs',VRs am π h ((es.set j (k,v)).flatMap fun e=>[e.1,e.2]) xs'∧ents (es.set j (k,v)) xs'=(ents es xs).modify j fun e=>{ e with val:=y }:=by
 induction es generalizing xs j with
 |nil=>cases e
 |cons p es ih =>
  obtain⟨x,_,rfl,hx,y',xs',rfl,hy',r⟩:=r
  cases j with
  |zero=>cases e;exact⟨x::y::xs',⟨_,_,rfl,hx,_,_,rfl,hy,r⟩,rfl⟩
  |succ j =>
   obtain⟨xs2,r2,e2⟩:=ih r e;exact⟨x::y'::xs2,⟨_,_,rfl,hx,_,_,rfl,hy',r2⟩,congrArg (_::·) e2⟩
theorem zkt (es:List (V × V)) (xs:List Value) (k v:V) (x y:Value) (h:xs.length=2 * es.length):ents (es++[(k,v)]) (xs++[x,y])=ents es xs++[⟨hashV k,x,y⟩]:=by
 induction es generalizing xs with
 |nil=>rw[eq_nil_of_length_eq_zero h];rfl
 |cons p es ih =>
  cases xs with
  |nil=>cases h
  |cons a xs=>cases xs with
   |nil=>cases Nat.succ.inj h
   |cons b xs=>exact congrArg (_::·) (ih xs (Nat.succ.inj (Nat.succ.inj h)))
theorem zix (h:dfind k es=Option.none):k ∉ es.map (·.1):=by
 induction es with
 |nil=>exact not_mem_nil
 |cons e es ih =>
  rw[zdh] at h
  by_cases q:k=e.1
  ·rw[zT q] at h;cases h
  ·rw[zR q] at h
   rw[yY,zN];exact fun z=>z.elim q (ih h)
theorem ziw (g:dgood es) (hk:keyOk k=true) (hn:dfind k es=none):dgood (es++[(k,v)]):=by
 refine⟨?_,fun e he=>?_⟩
 ·rw[map_append,nodup_append]
  refine⟨g.1,by simp,fun x hx y hy=>?_⟩
  rw[yY,map_nil,zK] at hy;subst hy;exact fun q=>zix hn (q ▸ hx)
 ·rcases zP.1 he with he|he
  ·exact g.2 e he
  ·rw[zK.1 he];exact hk
end
section
variable {am:Amb}{sk:List Env}{A:Around}{π:List Addr}{s:Shared}{Hc:H}
set_option tactic.hygienic true in
theorem zp7 (ok:AmbOK am) (st:zeU sk) (as:AS n sk A) (hr:HR am sk π Hc s.heap) (ha:VR am π s.heap a x) (hb:VR am π s.heap b y) :
  JAt am sk A (binaryOp (bopM op) x y) (R.opt (pyBin op Hc a b) Hc) (VR am) π s:=by
 cases op with
 |add =>
  show JAt _ _ _ _ (R.opt (pyAdd Hc a b) Hc) _ _ _
  rcases zc2 Hc a b with h|⟨i,j⟩|⟨us,ws⟩|⟨us,ws,h1,h2,h⟩
  ·rw[h];exact .inl rfl
  ·obtain⟨_,rfl⟩:=ha;obtain⟨_,rfl⟩:=hb;exact zid hr
  ·exact .inl rfl
  ·rw[h];exact zgk hr ha hb h1 h2
 |sub =>
  rcases zcj (fun x y=>some (V.int (x - y))) a b with h|⟨i,j⟩
  ·show JAt _ _ _ _ (R.opt (int2 (fun x y=>some (V.int (x - y))) a b) Hc) _ _ _
   rw[h];exact .inl rfl
  ·obtain⟨_,rfl⟩:=ha;obtain⟨_,rfl⟩:=hb;exact zh9 hr
 |mul =>
  show JAt _ _ _ _ (R.opt (pyMul Hc a b) Hc) _ _ _
  rcases zc1 Hc a b with h|⟨i,j⟩|⟨k,h⟩
  ·rw[h];exact .inl rfl
  ·obtain⟨_,rfl⟩:=ha;obtain⟨_,rfl⟩:=hb
   show JAt _ _ _ _ (R.opt (if i.natAbs < 9223372036854775808∨j.natAbs < 9223372036854775808 then some (V.int (i * j)) else Option.none) Hc) _ _ _
   split
   ·rename_i h;exact zia hr h
   ·exact .inl rfl
  ·rw[h]
   split
   ·rename_i hk
    obtain⟨u,rfl⟩:=hb
    cases h1:litems Hc a with
    |none=>exact .inl rfl
    |some vs=>exact zgi hr ha h1 ⟨hk.2,hk.1⟩
   ·exact .inl rfl
 |fdiv =>
  show JAt _ _ _ _ (R.opt (int2 (fun x y=>if y=0 then Option.none else some (V.int (x.fdiv y))) a b) Hc) _ _ _
  rcases zcj (fun x y=>if y=0 then Option.none else some (V.int (x.fdiv y))) a b with h|⟨i,j⟩
  ·rw[h];exact .inl rfl
  ·obtain⟨_,rfl⟩:=ha;obtain⟨_,rfl⟩:=hb
   show JAt _ _ _ _ (R.opt (if j=0 then Option.none else some (V.int (i.fdiv j))) Hc) _ _ _
   split
   ·exact .inl rfl
   ·rename_i h;exact zgj ok st as hr h
 |mod =>
  show JAt _ _ _ _ (R.opt (int2 (fun x y=>if y=0 then Option.none else some (V.int (x.fmod y))) a b) Hc) _ _ _
  rcases zcj (fun x y=>if y=0 then Option.none else some (V.int (x.fmod y))) a b with h|⟨i,j⟩
  ·rw[h];exact .inl rfl
  ·obtain⟨_,rfl⟩:=ha;obtain⟨_,rfl⟩:=hb
   show JAt _ _ _ _ (R.opt (if j=0 then Option.none else some (V.int (i.fmod j))) Hc) _ _ _
   split
   ·exact .inl rfl
   ·rename_i h;exact zib hr h
set_option tactic.hygienic true in
theorem zjG {n:Nat}{a b:V}{x y:Value}(as:AS n sk A) (hr:HR am sk π Hc s.heap) (ha:VR am π s.heap a x) (hb:VR am π s.heap b y) :
  JAt am sk A (compareOp .In x y) (R.opt ((pyIn Hc a b).map V.bool) Hc) (VR am) π s∧JAt am sk A (compareOp .NotIn x y) (R.opt (((pyIn Hc a b).map (!·)).map V.bool) Hc) (VR am) π s:=by
 unfold pyIn
 cases b with
 |ref i =>
  simp only
  split
  ·rename_i es hc
   obtain⟨ad,rfl,hp⟩:=hb;exact zjI as hr hc hp ha
  ·exact zjH as hr ha hb
 |_=>exact zjH as hr ha hb
theorem zdJ (as:AS n sk A) (hr:HR am sk π Hc s.heap) (ha:VR am π s.heap a x) (hb:VR am π s.heap b y) :
  JAt am sk A (compareOp (copM op) x y) (R.opt ((pyCmp op Hc a b).map V.bool) Hc) (VR am) π s:=by
 cases op with
 |eq=>exact zrJ as hr ha hb
 |ne=>exact zrE as hr ha hb
 |lt=>exact zrF hr ha hb
 |le=>exact zrG hr ha hb
 |gt=>exact zrH hr ha hb
 |ge=>exact zrI hr ha hb
 |is=>exact(zp4 hr ha hb).1
 |isNot=>exact(zp4 hr ha hb).2
 |isin=>exact(zjG as hr ha hb).1
 |notIn=>exact(zjG as hr ha hb).2
theorem zp1 (hr:HR am sk π Hc s.heap) (ha:VR am π s.heap a x) :
  JAt am sk A (unaryOp .Not x) ((match truthy a with|some b=>R.ok (V.bool (!b)) Hc|Option.none=>R.bad)) (VR am) π s:=by
 cases a with
 |bool b=>cases ha;exact .inr (not_value (wpAny_truthy_bool (OkP.here hr rfl)))
 |_=>exact .inl rfl
theorem znF (slice:Expr) (o i:Value):subscripted slice false o i=operate [i,o] (getItem o i)∨subscripted slice false o i=operate [o,i] (getItem o i):=by
 cases slice with
 |Slice a b c p =>
  cases c with
  |none=>exact .inl rfl
  |some _=>exact .inr rfl
 |_=>exact .inr rfl
theorem zbX {E:Value→Shared→Prop}{value slice:Expr}{o i:Value}{T id:String}{Q:Value→Shared→Prop}(hT:s.TypeIs o T)
  (hl:typeLookup (.type T) "__getitem__"=pure (some (.builtin id))) (h:wpAny am.M A (getItem o i) Q E s):wpAny am.M A (subscriptTail value slice o i) Q E s:=by
 unfold subscriptTail;refine yX ?_;rw[getitemInPython_of_ne hT.not_modules];refine yX (wpAny_specialOf hT hl ?_);have hs:wpAny am.M A (subscripted slice false o i) Q E s:=by
  rcases znF slice o i with e|e
  ·rw[e];exact zcg h
  ·rw[e];exact zcg h
 have fin:wpAny am.M A (subscripted slice false o i) (fun r s₃=>wpAny am.M A (letTemporaryGo value o r >>= fun z=>pure r) Q E s₃) E s :=
  yV hs (fun r s₃ h₃=>yX (wpAny_letTemporaryGo (yW h₃))) fun z z x=>x
 first
  |exact yW (yX fin)
  |exact yX (yW (yX fin))
  |exact yX fin
theorem zcE (h:place n i=some j):j < n∧(i=j∨(i < 0∧(i+n).toNat=j∧-(n:Int)≤i)):=by
 unfold place at h
 by_cases h0:0≤i
 ·rw[zT h0] at h
  by_cases h1:i < n
  ·rw[zT h1] at h
   cases h
   exact⟨(Int.toNat_lt h0).2 h1,.inl (Int.toNat_of_nonneg h0).symm⟩
  ·rw[zR h1] at h;cases h
 ·rw[zR h0] at h
  have h0:=Int.not_le.1 h0
  by_cases h1:0≤i+n
  ·rw[zT h1] at h
   cases h
   refine⟨(Int.toNat_lt h1).2 ?_,.inr ⟨h0,rfl,?_⟩⟩
   ·have:=Int.add_lt_add_right h0 (n:Int)
    rwa [Int.zero_add] at this
   ·have:=Int.sub_right_le_of_le_add (a:=0) (b:=i) (c:=n) h1
    rwa [Int.zero_sub] at this
  ·rw[zR h1] at h;cases h
theorem zbN {n j:Nat}{i:Int}(h:place n i=some j) (hz:n≤1000000):-2 ^ 63≤i∧i < 2 ^ 63:=by
 obtain⟨h1,rfl|⟨h2,_,h3⟩⟩:=zcE h
 ·exact⟨Int.le_trans (by decide) (Int.natCast_nonneg j),zg4 h1 hz⟩
 ·exact⟨ze7 h3 hz,Int.lt_trans h2 (by decide)⟩
theorem zj4 {l:Addr}{xs:List Value}{x:Value}{k:Int}{t:Tok}{j:Nat}{Q:Value→Shared→Prop}{E:Value→Shared→Prop}(hl:s.heap.IsList l (List.toArray xs)) (hz:xs.length≤1000000) (hj:place xs.length k=some j) (hx:xs[j]?=some x) (h:Q x s) :
  wpAny am.M A (getItem (.ref l) (.int k t)) Q E s:=by
 obtain⟨h1,h2⟩:=zcE hj
 rcases h2 with rfl|⟨h2,rfl,h3⟩
 ·exact wpAny_getItem_list hl (Int.natCast_nonneg _) (zg4 h1 hz) (by simpa using hx) h
 ·exact wpAny_getItem_list_neg hl h2 (by simpa using h3) (ze7 h3 hz) (by simpa using hx) h
theorem zic {value slice:Expr}{n r:Nat}{es:List (V × V)}{d:Addr}{i:V}{y:Value}(as:AS n sk A) (hr:HR am sk π Hc s.heap) (hc:Hc[r]?=some (.dict es)) (hp:π[r]?=some d) (hi:VR am π s.heap i y) :
  JAt am sk A (subscriptTail value slice (.ref d) y) (R.opt (if keyFit i es then dfind i es else Option.none) Hc) (VR am) π s:=by
 cases hk:keyFit i es with
 |false=>exact .inl rfl
 |true =>
  rw[zT rfl];obtain⟨o,arr,ep,xs,D⟩:=(hr.cell r _ d hc hp).dict;have hu:A.in1.units < cLine:=as.uk (k:=1) (by decide)
  cases hf:dfind i es with
  |none=>exact .inl rfl
  |some v =>
   refine .inr (zbX D.typeIs slot_dict_getitem.lookup ?_);unfold getItem
   try with_reducible refine yU ?_
   refine yX (wpAny_sequenceKey D.typeIs (by decide) ?_)
   refine yX (wpAny_callSpecial?_slot (name:=Str.ofString "__getitem__") D.typeIs slot_dict_getitem
    (wpAny_call_entry slot_dict_getitem D.typeIs entry_dict_getitem ?_ (args_dict_getitem _ _)))
   show wpAny _ _ (dictGet d y >>= _) _ _ s;refine yX (D.get hk hi hu (fun m e=>by rw[hf] at e;cases e) fun m v' u e hv=>?_)
   rw[hf] at e;cases e
   exact yW ⟨u,rfl,yW (OkP.tok hr hv)⟩
theorem zp6 {value slice:Expr}{n:Nat}{a i:V}{x y:Value}(as:AS n sk A) (hr:HR am sk π Hc s.heap) (ha:VR am π s.heap a x) (hi:VR am π s.heap i y) :
  JAt am sk A (subscriptTail value slice x y) (R.opt (pyIdx Hc a i) Hc) (VR am) π s:=by
 have lists:∀ (l:Addr) (xs:List Value) (vs:List V),x=.ref l→s.heap.IsList l (List.toArray xs)→vs.length≤1000000→VRs am π s.heap vs xs →
   JAt am sk A (subscriptTail value slice x y) (R.opt (match i with|.int k=>(place vs.length k).bind fun j=>vs[j]?|_=>Option.none) Hc) (VR am) π s:=by
  rintro l xs vs rfl hl hz hv
  cases i with
  |int k =>
   simp only;obtain⟨t,rfl⟩:=hi
   cases hj:place vs.length k with
   |none=>exact .inl rfl
   |some j =>
    cases hw:vs[j]? with
    |none=>exact .inl (by simp only[Option.bind_some,hw];rfl)
    |some v =>
     obtain⟨x',hx',hvx⟩:=hv.get j v hw;simp only[Option.bind_some,hw,R.opt_some];exact .inr (zbX hl.typeIs list_getitem_lookup (zj4 hl (by rw[hv.len];exact hz) (by rw[hv.len];exact hj) hx' (OkP.here hr hvx)))
  |_=>exact .inl rfl
 unfold pyIdx
 cases a with
 |ref r =>
  simp only;obtain⟨ad,rfl,hp⟩:=ha
  cases hc:Hc[r]? with
  |none=>exact .inl rfl
  |some c =>
   cases c with
   |list vs =>
    obtain⟨xs,h1,h2,h3⟩:=(hr.cell r _ ad hc hp).list;exact lists ad xs vs rfl h1.is h2 h3
   |dict es=>exact zic as hr hc hp hi
 |l vs =>
  obtain⟨ad,xs,rfl,_,h1,h2,h3⟩:=ha;exact lists ad xs vs rfl h1 h2 h3
 |tup vs =>
  obtain⟨ad,xs,rfl,_,h1,hz,hv⟩:=ha
  cases i with
  |int k =>
   simp only;obtain⟨t,rfl⟩:=hi
   cases hj:place vs.length k with
   |none=>exact .inl rfl
   |some j =>
    cases hw:vs[j]? with
    |none=>exact .inl (by simp only[Option.bind_some,hw];rfl)
    |some v =>
     obtain⟨x',hx',hvx⟩:=hv.get j v hw;simp only[Option.bind_some,hw,R.opt_some];obtain⟨h5,h6⟩:=zcE hj;have e:=hv.len;refine .inr (zbX h1.typeIs slot_tuple_getitem.lookup (getItem_tuple (j:=j) h1 (zbN hj hz).1 (zbN hj hz).2 ?_ (by simpa using hx') (OkP.here hr hvx)))
     rcases h6 with rfl|⟨h6,rfl,h7⟩
     ·have hn:¬ ((j:Int) < 0):=Int.not_lt.2 (Int.natCast_nonneg j)
      unfold seqIndex?
      simp only[hn,if_false,size_toArray,e];rw[zT (by simp only[Bool.and_eq_true,decide_eq_true_eq];exact⟨Int.natCast_nonneg j,Int.ofNat_lt.2 h5⟩)]
      simp
     ·have:=seqIndex_neg (n:=vs.length) h6 h7
      simpa [e] using this
  |_=>exact .inl rfl
 |_=>exact .inl rfl
end
theorem zd3 (k:h.UpToSlots h'):Via am am π π h h':=⟨fun a o ho hn h1 h2=>⟨k a o ho hn,h1,h2⟩,fun z z e=>e⟩
theorem VR.upto (k:h.UpToSlots h') (e:VR am π h v y):VR am π h' v y:=e.via (zd3 k)
theorem VRs.upto (k:h.UpToSlots h') (e:VRs am π h vs ys):VRs am π h' vs ys:=e.via (zd3 k)
theorem CellAt.upto (k:h.UpToSlots h') (e:CellAt am π h c a):CellAt am π h' c a:=by
 exact e.via (zd3 k) fun o ho hn=>k a o ho hn
theorem HR.upto {am:Amb}{sk:List Env}{π:List Addr}{Hc:H}{h h':Heap}(x:HR am sk π Hc h) (k:h.UpToSlots h') (kb:am.B.StaysIn h'):HR am sk π Hc h' :=
 ⟨kb,zde k x.frames,x.len,x.nodup,fun a ha=>let ⟨o,ho,hn⟩:=x.res a ha;let ⟨_,hs⟩:=k a o ho hn;⟨_,hs,hn⟩,x.off,fun i c a h1 h2=>(x.cell i c a h1 h2).upto k⟩
def NoExc (ρ:List V):Prop:=∀ v∈ρ,∀ c,v≠.exc c
theorem NoExc.set (x:NoExc ρ) (hv:∀ c,v≠.exc c):NoExc (ρ.set i v):=fun u hu c=>by
 rcases List.mem_or_eq_of_mem_set hu with h|h
 ·exact x u h c
 ·subst h;exact hv c
theorem VR.noexc (e:VR am π h v x):∀ c,v≠.exc c:=fun c q=>by subst q;exact e
theorem SR.vr (e:SR am π h v x) (n:∀ c,v≠.exc c):VR am π h v x:=by
 rcases e with e|⟨c,a,h1,_⟩
 ·exact e
 ·exact absurd h1 (n c)
theorem ER.upto (e:ER am cx ρ π h) (k:h.UpToSlots h') (ne:NoExc ρ):ER am cx ρ π h':=by
 have cell:∀ {c v},h.IsCell c v→h'.IsCell c v:=fun {c v} ⟨o,ho,hd⟩=>by
  obtain⟨sl,hs⟩:=k c o ho (fun us q=>by rw[hd] at q;cases q)
  exact⟨_,hs,hd⟩
 obtain⟨m,hm⟩:=e.ns;refine⟨⟨m,k.ns hm⟩,e.locOff,fun y c hc=>?_,e.apart,fun y i v h1 h2 h3 h4=>?_⟩
 ·refine hold fun z k_=>?_
  obtain⟨h1,h2,v,h3⟩:=e.cellOff y c hc;refine k_ ?_;exact⟨h1,h2,v,cell h3⟩
 ·obtain⟨v',h5,h6⟩:=e.var y i v h1 h2 h3 h4
  refine⟨v',?_,.inl ((h6.vr (ne v (mem_of_getElem? h2))).upto k)⟩
  rcases h5 with⟨q,m',h7,h8⟩|⟨q,c,h7,h8⟩
  ·exact .inl ⟨q,m',k.ns h7,h8⟩
  ·exact .inr ⟨q,c,h7,cell h8⟩
def Poke (I:Addr) (h h':Heap):Prop:=∀ b o,b≠I→h.get? b=some o→h'.get? b=some o
theorem Poke.slots (p:Poke I h h') (ho:h.get? I=some o) (hd:o.data=.fields us):h.UpToSlots h':=fun b o' hb hn =>
 ⟨o'.slots,p b o' (fun q=>by subst q;rw[ho] at hb;cases hb;exact hn us hd) hb⟩
theorem Step.poke {Fs π π':List Addr}{s s':Shared}{I:Addr}{h'':Heap}{tk:Nat}(x:Step Fs π s π' s') (hI:s.heap.get? I=none) (p:Poke I s'.heap h''):Step Fs π s π' { s' with heap:=h'',toks:=tk }:=by
 have ne:∀ {b o},s.heap.get? b=some o→b≠I:=fun {b o} e q=>by subst q;rw[hI] at e;cases e
 obtain⟨h',tk',rfl⟩:=x.same;refine⟨⟨h'',tk,rfl⟩,⟨fun a o e h1 h2=>p a o (ne e) (x.ext.keep a o e h1 h2),fun a o e h1=>?_,fun a o e=>?_⟩,x.grow⟩
 ·obtain⟨sl,h3⟩:=x.ext.slots a o e h1
  exact⟨sl,p a _ (ne e) h3⟩
 ·obtain⟨o',h3⟩:=x.ext.alive a o e
  exact⟨o',p a o' (ne e) h3⟩
theorem HR.poke {am:Amb}{sk:List Env}{π:List Addr}{Hc:H}{h h':Heap}{I:Addr}(x:HR am sk π Hc h) (p:Poke I h h'){o:Obj}{us:Array Value}(ho:h.get? I=some o) (hd:o.data=.fields us) (hB:am.B.get? I=none):HR am sk π Hc h' :=
 x.upto (p.slots ho hd) fun b o' e=>p b o' (fun q=>by subst q;rw[hB] at e;cases e) (x.base b o' e)
theorem zgZ (k:∀ b o,b ∉ am.res→h.get? b=some o→h'.get? b=some o):Via am am π π h h':=⟨fun a o ho z h1 h2=>⟨⟨o.slots,k a o h2 ho⟩,h1,h2⟩,fun z z e=>e⟩
theorem VR.free (k:∀ b o,b ∉ am.res→h.get? b=some o→h'.get? b=some o) (e:VR am π h v y):VR am π h' v y:=e.via (zgZ k)
theorem VRs.free (k:∀ b o,b ∉ am.res→h.get? b=some o→h'.get? b=some o) (e:VRs am π h vs ys):VRs am π h' vs ys:=e.via (zgZ k)
structure Mv (R Fs π:List Addr) (s:Shared) (π':List Addr) (s':Shared):Prop where
 same:∃ h' tk,s'={ s with heap:=h',toks:=tk }
 keep:∀ a o,s.heap.get? a=some o→a ∉ π→a ∉ Fs→a ∉ R→s'.heap.get? a=some o
 slots:∀ a o,s.heap.get? a=some o→a ∉ π→a ∉ R→∃ sl,s'.heap.get? a=some { o with slots:=sl }
 alive:∀ a o,s.heap.get? a=some o→∃ o',s'.heap.get? a=some o'
 grow:∃ δ,π'=π++δ∧∀ a∈δ,s.heap.get? a=none
theorem Mv.of {R Fs π π':List Addr}{s s':Shared}(x:Step Fs π s π' s'):Mv R Fs π s π' s' :=
 ⟨x.same,fun a o h1 h2 h3 z=>x.ext.keep a o h1 h2 h3,fun a o h1 h2 z=>x.ext.slots a o h1 h2,x.ext.alive,x.grow⟩
theorem Mv.notin {R Fs π π':List Addr}{s s':Shared}(x:Mv R Fs π s π' s'){a:Addr}{o:Obj}(ho:s.heap.get? a=some o) (ha:a ∉ π):a ∉ π':=by
 obtain⟨δ,rfl,hδ⟩:=x.grow;intro hm
 rcases zP.mp hm with h1|h1
 ·exact ha h1
 ·have:=hδ a h1;rw[ho] at this;cases this
theorem Mv.trans {R Fs π₀ π₁ π₂:List Addr}{s₀ s₁ s₂:Shared}(x:Mv R Fs π₀ s₀ π₁ s₁) (y:Mv R Fs π₁ s₁ π₂ s₂):Mv R Fs π₀ s₀ π₂ s₂:=by
 refine⟨?_,fun a o e h1 h2 h3=>?_,fun a o e h1 h3=>?_,fun a o e=>?_,?_⟩
 ·obtain⟨h',tk,rfl⟩:=x.same
  obtain⟨h'',tk',rfl⟩:=y.same;exact⟨_,_,rfl⟩
 ·exact y.keep a o (x.keep a o e h1 h2 h3) (x.notin e h1) h2 h3
 ·obtain⟨sl,h4⟩:=x.slots a o e h1 h3
  obtain⟨sl',h5⟩:=y.slots a _ h4 (x.notin e h1) h3;exact⟨sl',h5⟩
 ·obtain⟨o',h4⟩:=x.alive a o e
  exact y.alive a o' h4
 ·obtain⟨δ,rfl,hδ⟩:=x.grow
  obtain⟨δ',rfl,hδ'⟩:=y.grow;refine⟨δ++δ',by simp,fun a ha=>?_⟩
  rcases zP.mp ha with h1|h1
  ·exact hδ a h1
  ·cases hq:s₀.heap.get? a with
   |none=>rfl
   |some o =>
    obtain⟨o',h3⟩:=x.alive a o hq;have:=hδ' a h1;rw[h3] at this;cases this
theorem Mv.poke {R Fs π π':List Addr}{s s':Shared}{C:Addr}{h'':Heap}{tk:Nat}(x:Mv R Fs π s π' s') (hC:(C∈R∧∃ o,h''.get? C=some o)∨s.heap.get? C=none) (p:Poke C s'.heap h''):Mv R Fs π s π' { s' with heap:=h'',toks:=tk }:=by
 have ne:∀ {b o},s.heap.get? b=some o→b ∉ R→b≠C:=fun {b o} e hb q=>by
  subst q
  rcases hC with h|h
  ·exact hb h.1
  ·rw[h] at e;cases e
 obtain⟨h',tk',rfl⟩:=x.same;refine⟨⟨h'',tk,rfl⟩,fun a o e h1 h2 h3=>p a o (ne e h3) (x.keep a o e h1 h2 h3),fun a o e h1 h3=>?_,fun a o e=>?_,x.grow⟩
 ·obtain⟨sl,h4⟩:=x.slots a o e h1 h3
  exact⟨sl,p a _ (ne e h3) h4⟩
 ·obtain⟨o',h4⟩:=x.alive a o e
  by_cases hq:a=C
  ·subst hq
   rcases hC with h|h
   ·exact h.2
   ·rw[h] at e;cases e
  ·exact⟨o',p a o' hq h4⟩
theorem zk0 {am:Amb}{Fs π π':List Addr}{s s':Shared}(x:Mv am.res Fs π s π' s'):Via am am π π' s.heap s'.heap :=
 ⟨fun a o ho z h1 h2=>⟨x.slots a o ho h1 h2,x.notin ho h1,h2⟩,fun i a ha=>by
  obtain⟨δ,rfl,_⟩:=x.grow;rw[List.getElem?_append_left (List.getElem?_eq_some_iff.mp ha).1];exact ha⟩
theorem VRs.move {am:Amb}{Fs π π':List Addr}{s s':Shared}(x:Mv am.res Fs π s π' s'){vs:List V}{ys:List Value}(e:VRs am π s.heap vs ys):VRs am π' s'.heap vs ys:=e.via (zk0 x)
structure Iter (am:Amb) (sk:List Env) (A:Around) (I:Addr) (wt:Watch) (vs:List V) (Sx:Nat→List Addr→Heap→Prop):Prop where
 stable:∀ k π (s:Shared) π' (s':Shared),Sx k π s.heap→Step (Fs sk) π s π' s'→Sx k π' s'.heap
 move:∀ k π (s:Shared) π' (s':Shared),Sx k π s.heap→Mv am.res (Fs sk) π s π' s'→Sx k π' s'.heap
 free:∀ k π (h h':Heap),Sx k π h→(∀ b o,b ∉ am.res→h.get? b=some o→h'.get? b=some o)→Sx k π h'
 own:∀ k π h,Sx k π h→I ∉ π∧I ∉ Fs sk∧∃ o us,h.get? I=some o∧o.data=.fields us
 item:∀ k π (Hc:H) (s:Shared) v (Q:Option Value→Shared→Prop) (E:Value→Shared→Prop),Sx k π s.heap→HR am sk π Hc s.heap→wt.ok Hc=true→vs[k]?=some v →
  (∀ x h' tk,Poke I s.heap h'→VR am π h' v x→Sx (k+1) π h'→Q (some x) { s with heap:=h',toks:=tk })→wpAny am.M A (pyNext (.ref I)) Q E s
 done:∀ π (Hc:H) (s:Shared) (Q:Option Value→Shared→Prop) (E:Value→Shared→Prop),Sx vs.length π s.heap→HR am sk π Hc s.heap→wt.ok Hc=true →
  (∀ h' tk,Poke I s.heap h'→Q none { s with heap:=h',toks:=tk })→wpAny am.M A (pyNext (.ref I)) Q E s
 self:∀ k π (s:Shared) (Q:Value→Shared→Prop) (E:Value→Shared→Prop),Sx k π s.heap→Q (.ref I) s→wpAny am.M A (pyIter (.ref I)) Q E s
section
variable {am:Amb}{sk:List Env}{A:Around}
def IsSq (T:String) (h:Heap) (l:Addr) (xs:List Value):Prop:=∃ o,h.get? l=some o∧o.cls=.type T∧∃ n,o.data=.seq xs.toArray n
def IsSqI (T:String) (h:Heap) (I l:Addr) (k:Nat):Prop:=∃ o,h.get? I=some o∧o.cls=.type T∧o.data=.fields #[.ref l,.int k 0]
structure SqS (am:Amb) (sk:List Env) (I l:Addr) (vs:List V) (T T':String) (k:Nat) (π:List Addr) (h:Heap):Prop where
 op:I ∉ π
 os:I ∉ Fs sk
 it:IsSqI T' h I l k
 off:l ∉ π∧I ∉ am.res∧l ∉ am.res
 xs:∃ xs,IsSq T h l xs∧VRs am π h vs xs
theorem Iter.sq
  (hi:∀ {s:Shared}{k:Nat}{xs:List Value}{x:Value}{Q:Option Value→Shared→Prop}{E:Value→Shared→Prop},IsSqI T' s.heap I l k→IsSq T s.heap l xs→xs.toArray[k]?=some x→(∀ h',IsSqI T' h' I l (k+1)→Heap.SameBut I s.heap h'→Q (some x) { s with heap:=h' })→wpAny am.M A (pyNext (.ref I)) Q E s)
  (he:∀ {s:Shared}{k:Nat}{xs:List Value}{Q:Option Value→Shared→Prop}{E:Value→Shared→Prop},IsSqI T' s.heap I l k→IsSq T s.heap l xs→xs.toArray[k]?=none→(∀ h',Heap.ExtBut I s.heap h'→Q none { s with heap:=h' })→wpAny am.M A (pyNext (.ref I)) Q E s)
  (hs:∀ {s:Shared}{k:Nat}{Q:Value→Shared→Prop}{E:Value→Shared→Prop},IsSqI T' s.heap I l k→Q (.ref I) s→wpAny am.M A (pyIter (.ref I)) Q E s):Iter am sk A I none vs (SqS am sk I l vs T T') where
 stable:=fun k π s π' s' z x=>by
  refine hold fun y k_=>?_;obtain⟨h1,h2,⟨o,ho,hr⟩,h4,xs,⟨o',ho',r⟩,h6⟩:=z;obtain⟨sl,hs⟩:=x.ext.slots _ _ ho' h4.1;refine k_ ?_;exact⟨x.notin ho h1,h2,⟨o,x.ext.keep _ _ ho h1 h2,hr⟩,⟨x.notin ho' h4.1,h4.2⟩,xs,⟨_,hs,r⟩,h6.step x⟩
 move:=fun k π s π' s' z x=>by
  refine hold fun y k_=>?_;obtain⟨h1,h2,⟨o,ho,hr⟩,h4,xs,⟨o',ho',r⟩,h6⟩:=z;obtain⟨sl,hs⟩:=x.slots _ _ ho' h4.1 h4.2.2;refine k_ ?_;exact⟨x.notin ho h1,h2,⟨o,x.keep _ _ ho h1 h2 h4.2.1,hr⟩,⟨x.notin ho' h4.1,h4.2⟩,xs,⟨_,hs,r⟩,h6.move x⟩
 free:=fun k π h h' z kk=>by
  refine hold fun y k_=>?_;obtain⟨h1,h2,⟨o,ho,hr⟩,h4,xs,⟨o',ho',r⟩,h6⟩:=z;refine k_ ?_;exact⟨h1,h2,⟨o,kk _ _ h4.2.1 ho,hr⟩,h4,xs,⟨o',kk _ _ h4.2.2 ho',r⟩,h6.free kk⟩
 own:=fun k π h z=>⟨z.op,z.os,let ⟨o,ho,_,hd⟩:=z.it;⟨o,_,ho,hd⟩⟩
 item:=fun k π Hc s v Q E z y y hv hQ=>by
  refine hold fun y k_=>?_;obtain⟨xs,h5,h6⟩:=z.xs;obtain⟨x,hx,hvx⟩:=h6.get k v hv;refine k_ ?_;refine hi z.it h5 (by rw[List.getElem?_toArray];exact hx) fun h' hit' hs'=>?_
  have p:Poke I s.heap h':=fun b o hb e=>hs'.extBut b o hb e;refine hold fun y k_=>?_;obtain⟨o,ho,hc,hd⟩:=z.it;obtain⟨ol,hol,hcl,n,hdl⟩:=h5;have hne:l≠I:=fun q=>by subst q;rw[ho] at hol;cases hol;rw[hd] at hdl;cases hdl
  refine k_ ?_;exact hQ x h' s.toks p (hvx.upto (p.slots ho hd)) ⟨z.op,z.os,hit',z.off,xs,⟨ol,p _ _ hne hol,hcl,n,hdl⟩,h6.upto (p.slots ho hd)⟩
 done:=fun π Hc s Q E z y y hQ=>by
  obtain⟨xs,h5,h6⟩:=z.xs;exact he z.it h5 (by rw[List.getElem?_toArray,List.getElem?_eq_none_iff,h6.len];exact Nat.le_refl _) fun h' he'=>hQ h' s.toks fun b o hb e=>he' b o hb e
 self:=fun y y y y y z hQ=>hs z.it hQ
theorem Iter.lst (hh:A.handled=none){I l:Addr}{vs:List V}:Iter am sk A I none vs (SqS am sk I l vs "list" "list_iterator") :=
 Iter.sq (fun h1 h2 h3 h4=>wpAny_pyNext_list_item h1 h2 h3 h4) (fun h1 h2 h3 h4=>wpAny_pyNext_list_end hh h1 h2 h3 h4) (fun h1 h2=>wpAny_pyIter_listiter h1 h2)
theorem Iter.tup (hh:A.handled=none){I l:Addr}{vs:List V}:Iter am sk A I none vs (SqS am sk I l vs "tuple" "tuple_iterator") :=
 Iter.sq (fun h1 h2 h3 h4=>wpAny_pyNext_tuple_item h1 h2 h3 h4) (fun h1 h2 h3 h4=>wpAny_pyNext_tuple_end hh h1 h2 h3 h4) (fun h1 h2=>wpAny_pyIter_tupleiter h1 h2)
theorem Iter.cell (hh:A.handled=none){I:Addr}{i:Nat}{vs:List V}:Iter am sk A I (some (i,.list vs)) vs (fun k π h=>I ∉ π∧(I ∉ Fs sk∧I ∉ am.res)∧∃ l,π[i]?=some l∧h.IsListIter I l k) where
 stable:=by
  rintro k π s π' s' ⟨h1,h2,l,h4,h3⟩ x
  obtain⟨o,ho,hr⟩:=id h3;obtain⟨δ,e,_⟩:=x.grow;refine⟨x.notin ho h1,h2,l,?_,⟨o,x.ext.keep _ _ ho h1 h2.1,hr⟩⟩;rw[e,List.getElem?_append_left (List.getElem?_eq_some_iff.mp h4).1];exact h4
 move:=by
  rintro k π s π' s' ⟨h1,h2,l,h4,h3⟩ x
  obtain⟨o,ho,hr⟩:=id h3;obtain⟨δ,e,_⟩:=x.grow;refine⟨x.notin ho h1,h2,l,?_,⟨o,x.keep _ _ ho h1 h2.1 h2.2,hr⟩⟩;rw[e,List.getElem?_append_left (List.getElem?_eq_some_iff.mp h4).1];exact h4
 free:=by
  rintro k π h h' ⟨h1,h2,l,h4,⟨o,ho,hr⟩⟩ kk
  exact⟨h1,h2,l,h4,⟨o,kk _ _ h2.2 ho,hr⟩⟩
 own:=by
  rintro k π h ⟨h1,h2,l,_,⟨o,ho,hc,hd⟩⟩
  exact⟨h1,h2.1,o,_,ho,hd⟩
 item:=by
  rintro k π Hc s v Q E ⟨h1,h2,l,h4,h3⟩ hr hw hv hQ
  have hc:Hc[i]?=some (.list vs):=by simpa [Watch.ok] using hw
  refine hold fun z k_=>?_;obtain⟨xs,h5,_,h6⟩:=(hr.cell i _ l hc h4).list;refine k_ ?_;obtain⟨x,hx,hvx⟩:=h6.get k v hv;refine hold fun z k_=>?_;obtain⟨o,ho,_,hd⟩:=id h3;refine k_ ?_;refine wpAny_pyNext_list_item h3 h5.is (x:=x) (by simpa using hx) fun h' hit' hs'=>?_
  have p:Poke I s.heap h':=fun b o hb e=>hs'.extBut b o hb e;exact hQ x h' s.toks p (hvx.upto (p.slots ho hd)) ⟨h1,h2,l,h4,hit'⟩
 done:=by
  rintro π Hc s Q E ⟨h1,h2,l,h4,h3⟩ hr hw hQ
  have hc:Hc[i]?=some (.list vs):=by simpa [Watch.ok] using hw
  refine hold fun z k_=>?_;obtain⟨xs,h5,_,h6⟩:=(hr.cell i _ l hc h4).list;refine k_ ?_;exact wpAny_pyNext_list_end hh h3 h5.is (by simp[h6.len]) fun h' he'=>hQ h' s.toks fun b o hb e=>he' b o hb e
 self:=fun _ _ _ _ _ ⟨_,_,_,_,st⟩ hQ=>wpAny_pyIter_listiter st hQ
theorem Iter.range (hh:A.handled=none){I:Addr}(a c:Int) (n:Nat):Iter am sk A I none ((List.range n).map fun(i:Nat)=>V.int (a+(i:Int) * c)) (fun k π h=>I ∉ π∧(I ∉ Fs sk∧I ∉ am.res)∧IsRangeIter h I (a+(k:Nat) * c) ((n:Int) - (k:Nat)) c) where
 stable:=by
  rintro k π s π' s' ⟨h1,h2,h3⟩ x
  exact⟨x.notin h3 h1,h2,x.ext.keep _ _ h3 h1 h2.1⟩
 move:=by
  rintro k π s π' s' ⟨h1,h2,h3⟩ x
  exact⟨x.notin h3 h1,h2,x.keep _ _ h3 h1 h2.1 h2.2⟩
 free:=by
  rintro k π h h' ⟨h1,h2,h3⟩ kk
  exact⟨h1,h2,kk _ _ h2.2 h3⟩
 own:=by
  rintro k π h ⟨h1,h2,h3⟩
  exact⟨h1,h2.1,_,_,h3,rfl⟩
 item:=by
  rintro k π Hc s v Q E ⟨h1,h2,h3⟩ hr _ hv hQ
  have hk:k < n:=by have:=(List.getElem?_eq_some_iff.mp hv).1;simpa using this
  have hv':v=V.int (a+(k:Int) * c):=by
   rw[List.getElem?_map,List.getElem?_range hk] at hv
   simpa using hv.symm
  subst hv';refine wpAny_pyNext_range_item h3 (by omega) fun h' hit' hs'=>?_
  have p:Poke I s.heap h':=fun b o hb e=>hs'.extBut b o hb e;refine hQ _ h' _ p ⟨_,rfl⟩ ⟨h1,h2,?_⟩;have e1:a+((k+1:Nat):Int) * c=a+(k:Int) * c+c:=by push_cast;rw[Int.add_mul,Int.one_mul,Int.add_assoc]
  have e2:(n:Int) - ((k+1:Nat):Int)=(n:Int) - (k:Int) - 1:=by rw[Int.natCast_add,← Int.sub_sub];rfl
  rw[e1,e2];exact hit'
 done:=by
  rintro π Hc s Q E ⟨h1,h2,h3⟩ hr _ hQ
  exact wpAny_pyNext_range_end hh h3 (by simp) fun h' he'=>hQ h' s.toks fun b o hb e=>he' b o hb e
 self:=fun z z z z z st hQ=>wpAny_pyIter_rangeiter st.2.2 hQ
end
section
variable {am:Amb}{sk:List Env}{A:Around}{π:List Addr}{s:Shared}{Hc:H}
theorem zb3 (hr:HR am sk π Hc s.heap) (e:VR am π s.heap v x) (hi:items Hc v=some vs) :
  ∃ l xs,x=.ref l∧(s.heap.IsList l (List.toArray xs)∨s.heap.IsTuple l (List.toArray xs))∧vs.length≤1000000∧VRs am π s.heap vs xs:=by
 cases v with
 |tup ws =>
  cases Option.some.inj hi
  obtain⟨a,xs,h1,_,h3,h4,h5⟩:=e;exact⟨a,xs,h1,.inr h3,h4,h5⟩
 |l ws =>
  obtain⟨l,xs,h1,h2,h3⟩:=zao hr e (vs:=vs) hi;exact⟨l,xs,h1,.inl h2,h3⟩
 |ref i =>
  obtain⟨l,xs,h1,h2,h3⟩:=zao hr e (vs:=vs) hi;exact⟨l,xs,h1,.inl h2,h3⟩
 |_=>exact no hi
theorem zp2 {a:V}{x:Value}(hr:HR am sk π Hc s.heap) (ha:VR am π s.heap a x) :
  JAt am sk A (call (.builtin "len") [x]) (R.opt (bf .len Hc a) Hc) (VR am) π s:=by
 have key:∀ vs,items Hc a=some vs→JAt am sk A (call (.builtin "len") [x]) (R.ok (V.int vs.length) Hc) (VR am) π s:=by
  intro vs h;obtain⟨l,xs,rfl,hl,hz,hv⟩:=zb3 hr ha h;have e:=hv.len
  rcases hl with hl|hl
  ·exact .inr (PySem.Calls.call_len_list hl (by rw[size_toArray,e];exact zcW hz) (by simp only[size_toArray,e];exact OkP.tok hr ⟨_,rfl⟩))
  ·exact .inr (len_tuple hl (by rw[size_toArray,e];exact zcW hz) (by simp only[size_toArray,e];exact OkP.tok hr ⟨_,rfl⟩))
 unfold bf
 cases a with
 |ref i =>
  simp only
  cases hc:Hc[i]? with
  |none=>exact .inl rfl
  |some c =>
   cases c with
   |list vs=>exact key vs (by show(match Hc[i]? with|some (.list vs)=>some vs|_=>Option.none)=_;rw[hc])
   |dict es=>exact .inl rfl
 |tup vs=>exact key vs rfl
 |l vs=>exact key vs rfl
 |_=>exact .inl rfl
theorem ziU {Q:Value→Shared→Prop}{E:Value→Shared→Prop}(hr:HR am sk π Hc s.heap) (ha:VR am π s.heap a x) (hi:items Hc a=some vs) (h:∀ y s',NewL am π s vs y s'→Q y s') :
  wpAny am.M A (call (.type "list") [x]) Q E s:=by
 obtain⟨l,xs,rfl,hl,hz,hv⟩:=zb3 hr ha hi;have e:=hv.len;have fin:∀ (T:String) (o:Obj) (n:Nat),(T="list"∨T="tuple")→s.heap.get? l=some o→o.cls=.type T→o.data=.seq (List.toArray xs) n→wpAny am.M A (call (.type "list") [.ref l]) Q E s:=by
  intro T o n hT ho hc hd;refine call_list_seq l hT ho hc hd (fun h' c' k hn=>h _ _ ⟨_,xs,h',s.toks,rfl,rfl,k,zat _,⟨_,c',hn,rfl,rfl,rfl⟩,(hv.held (zat _)).keeps k⟩) ?_;rw[size_toArray,e];exact zaN hz
 rcases hl with⟨o,ho,hc,n,hd⟩|⟨o,ho,hc,n,hd⟩
 ·exact fin _ o n (.inl rfl) ho hc hd
 ·exact fin _ o n (.inr rfl) ho hc hd
theorem zoi (hr:HR am sk π Hc s.heap) (ha:VR am π s.heap a x) :
  JAt am sk A (call (.type "list") [x]) (R.opt (bf .list Hc a) Hc) (VR am) π s:=by
 unfold bf
 cases hi:items Hc a with
 |none=>exact .inl rfl
 |some vs =>
  obtain⟨_,_,_,_,hz,_⟩:=zb3 hr ha hi;exact .inr (ziU hr ha hi fun y s' n=>n.lst hr hz)
theorem zlv (hr:HR am sk π Hc s.heap) (ha:VR am π s.heap a x) :
  JAt am sk A (call (.type "tuple") [x]) (R.opt (bf .tuple Hc a) Hc) (VR am) π s:=by
 unfold bf
 cases hi:items Hc a with
 |none=>exact .inl rfl
 |some vs =>
  obtain⟨l,xs,rfl,hl,hz,hv⟩:=zb3 hr ha hi;have e:=hv.len
  rcases hl with hl|hl
  ·refine .inr (call_tuple_list hl (fun h' k=>?_) (by rw[size_toArray,e];exact zaN hz))
   have k':∀ b o,s.heap.get? b=some o→(h'.push { cls:=.type "tuple",data:=.seq (List.toArray xs) }).get? b=some o:=fun b o q=>Heap.get?_push_of_some _ (k b o q);have hn:s.heap.get? h'.objs.size=none:=by
    cases q:s.heap.get? h'.objs.size with
    |none=>rfl
    |some o=>have:=k _ o q;rw[zat] at this;cases this
   refine OkP.keeps (tk:=s.toks) hr k' ?_;exact⟨_,xs,rfl,⟨zaJ hr hn,zaG hr hn⟩,⟨_,Heap.get?_push_size _ rfl,rfl,0,rfl⟩,hz,hv.keeps k'⟩
  ·refine .inr (call_tuple_same hl (OkP.here hr ?_))
   cases a with
   |tup ws=>cases Option.some.inj hi;exact ha
   |l ws =>
    obtain⟨_,_,q,_,⟨o,ho,hc,_⟩,_⟩:=ha
    cases q
    obtain⟨o',ho',hc',_⟩:=hl;rw[ho] at ho';cases ho';rw[hc] at hc';exact absurd hc' (by decide)
   |ref i =>
    obtain⟨l',xs',q,⟨o,ho,hc,_⟩,_⟩:=zao hr ha (vs:=vs) hi
    cases q
    obtain⟨o',ho',hc',_⟩:=hl;rw[ho] at ho';cases ho';rw[hc] at hc';exact absurd hc' (by decide)
   |_=>exact no hi
theorem zp5 (hr:HR am sk π Hc s.heap) (ha:VR am π s.heap a x) :
  JAt am sk A (call (.type "int") [x]) (R.opt (bf .int Hc a) Hc) (VR am) π s:=by
 unfold bf
 cases a with
 |bool b=>cases ha;exact .inr (call_int_bool (OkP.tok hr ⟨_,rfl⟩))
 |_=>exact .inl rfl
theorem zgT (h:zby vs=some bs):vs=bs.map V.bool:=by
 induction vs generalizing bs with
 |nil=>cases h;rfl
 |cons v vs ih=>cases v with
  |bool b =>
   obtain⟨r,h1,rfl⟩:=Option.map_eq_some_iff.1 h;exact congrArg (V.bool b::·) (ih h1)
  |_=>exact no h
theorem zkS {bs:List Bool}{xs:List Value}(h:VRs am π s.heap (bs.map V.bool) xs):xs=bs.map Value.bool:=by
 induction bs generalizing xs with
 |nil=>exact h
 |cons b bs ih =>
  obtain⟨x,xs',rfl,h1,h2⟩:=h;rw[show x=Value.bool b from h1,ih h2];rfl
theorem zjs (bs:List Bool):(List.range bs.length).all (fun i=>bs.getD i false)=bs.all id:=by
 induction bs with
 |nil=>rfl
 |cons b bs ih=>simp only[length_cons,List.range_succ_eq_map,List.all_cons,all_map];rw[←ih];rfl
theorem zhN {l:Addr}{bs:List Bool}{P:Value→Shared→Prop}{E:Value→Shared→Prop}(hh:A.handled=none) (hl:s.heap.IsList l (List.toArray (bs.map Value.bool)))
  (hP:∀ I fp wr n Pr St tr,n=bs.length→tr=(fun i=>bs.getD i false)→Walks am.prog am.w A I fp wr n Pr St→(∀ s₂,s₂={ s with heap:=s.heap.push { cls:=.type "list_iterator",data:=.fields #[.ref l,.int 0 0] } }→St 0 s₂.heap)→TruthOf am.prog am.w A Pr tr→wr=[s.heap.objs.size]→I=s.heap.objs.size →
   P (.ref I) { s with heap:=s.heap.push { cls:=.type "list_iterator",data:=.fields #[.ref l,.int 0 0] } }) :
  wpAny am.M A (pyIter (.ref l)) P E s:=by
 refine wpAny_pyIter_list hl ?_;obtain⟨o,ho,_⟩:=id hl;have hne:l≠s.heap.objs.size:=Nat.ne_of_lt (Heap.lt_size ho);have W:=Walks.list (prog:=am.prog) (w:=am.w) hh s.heap.objs.size l hne (List.toArray (bs.map Value.bool));refine hP _ _ _ _ _ _ _ (by simp) rfl W ?_ ?_ rfl rfl
 ·rintro s₂ rfl
  exact⟨⟨_,Heap.get?_push_size _ rfl,rfl,rfl⟩,hl.push _⟩
 ·intro i v s' Q' E' hv hq
  simp only[List.getElem?_toArray,List.getElem?_map,Option.map_eq_some_iff] at hv;obtain⟨b,hb,rfl⟩:=hv;refine wpAny_truthy_bool ?_;have:bs.getD i false=b:=by rw[List.getD_eq_getElem?_getD,hb];rfl
  rw[←this];exact hq
theorem zp8 (hh:A.handled=none) (hr:HR am sk π Hc s.heap) (ha:VR am π s.heap a x) :
  JAt am sk A (call (.builtin "all") [x]) (R.opt (bf .all Hc a) Hc) (VR am) π s:=by
 unfold bf
 cases hi:litems Hc a with
 |none=>exact .inl rfl
 |some vs =>
  cases hb:zby vs with
  |none=>exact .inl (by simp only[Option.bind_some,hb];rfl)
  |some bs =>
   simp only[Option.bind_some,hb,Option.map_some,R.opt_some];obtain⟨l,xs,rfl,hl,hz,hv⟩:=zao hr ha hi;rw[zgT hb] at hv;rw[zkS hv] at hl;refine .inr (call_all_walk (zhN (A:=A.in1) hh hl fun I fp wr n Pr St tr e1 e2 W hst htr hwr hI=>⟨I,fp,wr,n,Pr,St,tr,rfl,W,hst _ rfl,htr,fun h' tk k=>?_⟩));subst e1 e2 hwr;rw[zjs];exact OkP.keeps (h':=h') (tk:=tk) hr (fun b o e=>k b o (by simp only[zK];exact Nat.ne_of_lt (Heap.lt_size e)) (Heap.get?_push_of_some _ e)) rfl
end
set_option maxRecDepth 100000
theorem zjL:typeLookup (.type "list_reverseiterator") "__len__"=pure none:=by rw[typeLookup_type,builtinLookup_eq_fast];kernel_rfl
theorem zl9:typeLookup (.type "list_reverseiterator") "__length_hint__"=pure (some (.builtin "list_reverseiterator.__length_hint__")):=by rw[typeLookup_type,builtinLookup_eq_fast];kernel_rfl
section
variable {prog:Program}{w:World}{A:Around}{E:Value→Shared→Prop}{s:Shared}
theorem zit {R:Result→Shared→Prop}{I l:Addr}{items:Array Value}(hh:A.handled=none) (hit:s.heap.IsRevIter I l ((items.size:Int) - 1)) (hl:s.heap.IsList l items) (hne:l≠I) (hlen:items.size≤sizeLine) (S:Addr) (res:Value) (c₀:Nat)
  (hS:s.heap.get? S=some { cls:=.type "list",data:=.seq #[] c₀ }) (hSI:S≠I) (hSl:S≠l)
  (hR:∀ h' tk acc' c',(∀ b o,b≠S→b≠I→s.heap.get? b=some o→h'.get? b=some o)→h'.get? S=some { cls:=.type "list",dict:=none,data:=.seq acc' c',slots:=#[] } →
   ItemsOf (fun i v=>items[items.size - 1 - i]?=some v) acc' items.size→R (.ok (.ret res)) { s with heap:=h',toks:=tk }) :
  wpAny (model prog w) A.in1 (Builtin.List.listExtendWith (.ref S) (.ref I) res)
   (fun fin s'=>match fin with|.done f=>R (.ok f) s'|.again c'=>c'.quiet=true∧codeAny (model prog w) A c' R s') (fun e s'=>R (.error e) s') s:=by
 have W:=(Walks.listRev (prog:=prog) (w:=w) (A:=A.in1) hh I l hne items).toS;have hSf:S ∉ [I,l]:=by simp[hSI,hSl]
 have hT:=Heap.IsRevIter.typeIs hit;unfold Builtin.List.listExtendWith;refine yX (wpAny_typeOf hT ?_);have h1:Builtin.List.listSameRef (.ref S) (.ref I)=false:=by simp[Builtin.List.listSameRef,hSI]
 have h2:(Value.type "list_reverseiterator" == Value.type "list")=false:=by decide
 have h3:(Value.type "list_reverseiterator" == Value.type "tuple")=false:=by decide
 simp only[h1,h2,h3,Bool.or_false,Bool.false_eq_true,if_false];refine yX (wpAny_pyIter_revIter hit ?_);refine yX (yU ?_);unfold Builtin.List.listLengthHint;refine yX (wpAny_specialOf hT zjL ?_);show wpAny _ A.in1 (specialOf (Value.ref I) (Str.ofString "__length_hint__") >>= _) _ _ _;refine yX (wpAny_specialOf hT zl9 ?_);generalize hid:("list_reverseiterator.__length_hint__":String)=id0
 wp_delta
 rw[show splitId id0=some ("list_reverseiterator","__length_hint__") from by subst hid;decide +kernel]
 subst hid;refine yX (wpAny_isInstance (b:=true) hT (by rw[isSubtype_type];kernel_rfl) ?_)
 refine yW ?_;rw[zR (by decide)]
 refine yW ⟨plainId_quiet F.plain_extend_loop _,codeAny_extend_loopS W hlen S hSf res items.size 0 _ #[] c₀ rfl (Nat.zero_le _) ⟨Nat.zero_le _,by simpa using hit,hl⟩ hS (ItemsOf.nil _) fun s' acc' c' hm hS' hacc=>?_⟩
 rw[Moved.eq_with hm];refine hR s'.heap s'.toks acc' c' (fun b o hb hb' e=>hm.heap b o (fun hmem=>?_) e) hS' hacc
 rcases zN.mp hmem with e'|hmem
 ·exact hb e'
 ·exact hb' (zK.mp hmem)
theorem zeN {Q:Value→Shared→Prop}{I l:Addr}{items:Array Value}(hh:A.handled=none) (hit:s.heap.IsRevIter I l ((items.size:Int) - 1)) (hl:s.heap.IsList l items) (hne:l≠I) (hlen:items.size≤sizeLine)
  (hQ:∀ h' tk acc' c',(∀ b o,b≠I→s.heap.get? b=some o→h'.get? b=some o) →
   h'.get? s.heap.objs.size=some { cls:=.type "list",dict:=none,data:=.seq acc' c',slots:=#[] }→ItemsOf (fun i v=>items[items.size - 1 - i]?=some v) acc' items.size→Q (.ref s.heap.objs.size) { s with heap:=h',toks:=tk }) :
  wpAny (model prog w) A (call (.type "list") [.ref I]) Q E s:=by
 obtain⟨oI,hoI,_⟩:=id hit;obtain⟨ol,hol,_⟩:=id hl;have n1:s.heap.objs.size≠I:=Nat.ne_of_gt (Heap.lt_size hoI);have n2:s.heap.objs.size≠l:=Nat.ne_of_gt (Heap.lt_size hol);refine callType_codes (Q₁:=fun obj s₁=>obj=.ref s.heap.objs.size∧s₁={ s with heap:=s.heap.push { cls:=.type "list",data:=.seq #[] } }) F.called_list (F.typeCall_list_1 _) F.entry_list_init
  (code_list_new _ ⟨rfl,rfl⟩) fun obj s₁ h₁=>?_
 obtain⟨rfl,rfl⟩:=h₁;have hS:(s.heap.push { cls:=.type "list",data:=.seq #[] }).get? s.heap.objs.size=some { cls:=.type "list",data:=.seq #[] }:=Heap.get?_push_size _ rfl;refine⟨⟨_,hS,rfl⟩,F.args_list_init_2 _ _,?_⟩;show wpAny _ _ (do let old ← Builtin.List.listItems (.ref s.heap.objs.size);Builtin.List.listUpdate (.ref s.heap.objs.size) (fun z=>#[]);letGo old.toList.reverse;Builtin.List.listExtendWith (.ref s.heap.objs.size) (.ref I) .none) _ _ _
 refine yX ?_;unfold Builtin.List.listItems;refine yX (wpAny_seqItems hS rfl (yW ?_));show wpAny _ _ (updateSeq s.heap.objs.size (fun z=>#[]) >>= fun z=>letGo (#[]:Array Value).toList.reverse >>= fun z=>Builtin.List.listExtendWith (.ref s.heap.objs.size) (.ref I) .none) _ _ _;refine yX (wpAny_updateSeq hS rfl ?_);have hS₂:=Heap.get?_update_self (Obj.mapSeq (fun z=>(#[]:Array Value))) hS rfl
 have oth:∀ b o,b≠s.heap.objs.size→s.heap.get? b=some o→((s.heap.push { cls:=.type "list",data:=.seq #[] }).update s.heap.objs.size (Obj.mapSeq (fun z=>(#[]:Array Value)))).get? b=some o :=
  fun b o hb e=>(Heap.get?_update_other _ _ (Ne.symm hb)).trans (Heap.get?_push_of_some _ e)
 refine yX (wpAny_letGo ?_);refine zit (A:=A.in1) (items:=items) hh (Heap.IsRevIter.at hit fun o e=>oth _ _ (Ne.symm n1) e) (hl.at fun o e=>oth _ _ (Ne.symm n2) e) hne hlen _ .none _ hS₂ n1 n2 fun h' tk acc' c' hk hS' hacc=>?_;exact⟨rfl,hQ h' tk acc' c' (fun b o hb e=>hk b o (Nat.ne_of_lt (Heap.lt_size e)) hb (oth b o (Nat.ne_of_lt (Heap.lt_size e)) e)) hS' hacc⟩
end
section
variable {am:Amb}{sk:List Env}{A:Around}{π:List Addr}{s:Shared}{Hc:H}
theorem zj2 (h:ItemsOf (fun i v=>(List.toArray xs)[(List.toArray xs).size - 1 - i]?=some v) acc (List.toArray xs).size):acc.toList=xs.reverse:=by
 obtain⟨h1,h2⟩:=h
 apply ext_getElem?
 intro i
 by_cases hi:i < xs.length
 ·have hia:i < acc.size:=by rw[h1];simpa using hi
  have:=h2 i acc[i] (Array.getElem?_eq_getElem hia);simp only[size_toArray,List.getElem?_toArray] at this;rw[List.getElem?_reverse hi,this];simp[hia]
 ·have hn:xs.length≤i:=by omega
  have h1':acc.size=xs.length:=by simpa using h1
  rw[List.getElem?_eq_none (by rw[Array.length_toList,h1'];exact hn),List.getElem?_eq_none (by rw[length_reverse];exact hn)]
theorem zhK {Q:Value→Shared→Prop}{E:Value→Shared→Prop}(hh:A.handled=none) (hr:HR am sk π Hc s.heap) (ha:VR am π s.heap a x) (hi:litems Hc a=some vs) (h:∀ y s',NewL am π s vs.reverse y s'→Q y s') :
  wpAny am.M A (call (.type "reversed") [x]) (fun y s'=>wpAny am.M A (call (.type "list") [y]) Q E s') E s:=by
 refine hold fun z k_=>?_;obtain⟨l,xs,rfl,hl,hz,hv⟩:=zao hr ha hi;refine k_ ?_;have e:=hv.len;obtain⟨ol,hol,_⟩:=id hl;have hne:l≠s.heap.objs.size:=Nat.ne_of_lt (Heap.lt_size hol);refine call_reversed_list hl ?_;have hit:(s.heap.push (revObj l (((List.toArray xs).size:Int) - 1))).IsRevIter s.heap.objs.size l (((List.toArray xs).size:Int) - 1):=⟨_,Heap.get?_push_size _ rfl,rfl,rfl⟩;refine zeN (s:={ s with heap:=s.heap.push (revObj l (((List.toArray xs).size:Int) - 1)) }) hh hit (hl.push _) hne (by simp only[size_toArray];have:=zbP;omega) fun h' tk acc' c' k hn hacc=>?_
 have hacc':=zj2 hacc;have e2:acc'=List.toArray xs.reverse:=by rw[←hacc']
 subst e2;have k':∀ b o,s.heap.get? b=some o→h'.get? b=some o:=fun b o q=>k b o (Nat.ne_of_lt (Heap.lt_size q)) (Heap.get?_push_of_some _ q);have hnew:s.heap.get? (s.heap.push (revObj l (((List.toArray xs).size:Int) - 1))).objs.size=none:=by
  cases q:s.heap.get? (s.heap.push (revObj l (((List.toArray xs).size:Int) - 1))).objs.size with
  |none=>rfl
  |some o =>
   have h5:=Heap.lt_size q;simp only[Heap.size_push] at h5;exact absurd h5 (Nat.not_lt.mpr (Nat.le_succ _))
 exact h _ _ ⟨_,xs.reverse,h',tk,rfl,rfl,k',hnew,⟨_,c',hn,rfl,rfl,rfl⟩,(hv.reverse.held hnew).keeps k'⟩
end
set_option maxRecDepth 100000
theorem zfx (K:Frag):kitOne K (.type "NoneType") (.type "int")=some false:=by kernel_rfl
theorem zer (K:Frag):kitOne K (.type "NoneType") (.type "bool")=some false:=by kernel_rfl
theorem zeq (K:Frag):kitOne K (.type "NoneType") (.type "list")=some false:=by kernel_rfl
theorem zdy (K:Frag):kitOne K (.type "NoneType") (.type "tuple")=some false:=by kernel_rfl
theorem zfD (K:Frag):kitOne K (.type "bool") (.type "int")=some true:=by kernel_rfl
theorem zey (K:Frag):kitOne K (.type "bool") (.type "bool")=some true:=by kernel_rfl
theorem zex (K:Frag):kitOne K (.type "bool") (.type "list")=some false:=by kernel_rfl
theorem zdB (K:Frag):kitOne K (.type "bool") (.type "tuple")=some false:=by kernel_rfl
theorem zgy (K:Frag):kitOne K (.type "int") (.type "int")=some true:=by kernel_rfl
theorem zfB (K:Frag):kitOne K (.type "int") (.type "bool")=some false:=by kernel_rfl
theorem zfA (K:Frag):kitOne K (.type "int") (.type "list")=some false:=by kernel_rfl
theorem zeu (K:Frag):kitOne K (.type "int") (.type "tuple")=some false:=by kernel_rfl
theorem zgx (K:Frag):kitOne K (.type "str") (.type "int")=some false:=by kernel_rfl
theorem zfw (K:Frag):kitOne K (.type "str") (.type "bool")=some false:=by kernel_rfl
theorem zfv (K:Frag):kitOne K (.type "str") (.type "list")=some false:=by kernel_rfl
theorem zep (K:Frag):kitOne K (.type "str") (.type "tuple")=some false:=by kernel_rfl
theorem zeo (K:Frag):kitOne K (.type "tuple") (.type "int")=some false:=by kernel_rfl
theorem zdx (K:Frag):kitOne K (.type "tuple") (.type "bool")=some false:=by kernel_rfl
theorem zdw (K:Frag):kitOne K (.type "tuple") (.type "list")=some false:=by kernel_rfl
theorem zdc (K:Frag):kitOne K (.type "tuple") (.type "tuple")=some true:=by kernel_rfl
theorem zfy (K:Frag):kitOne K (.type "list") (.type "int")=some false:=by kernel_rfl
theorem zet (K:Frag):kitOne K (.type "list") (.type "bool")=some false:=by kernel_rfl
theorem zes (K:Frag):kitOne K (.type "list") (.type "list")=some true:=by kernel_rfl
theorem zdz (K:Frag):kitOne K (.type "list") (.type "tuple")=some false:=by kernel_rfl
theorem zfC (K:Frag):kitOne K (.type "dict") (.type "int")=some false:=by kernel_rfl
theorem zew (K:Frag):kitOne K (.type "dict") (.type "bool")=some false:=by kernel_rfl
theorem zev (K:Frag):kitOne K (.type "dict") (.type "list")=some false:=by kernel_rfl
theorem zdA (K:Frag):kitOne K (.type "dict") (.type "tuple")=some false:=by kernel_rfl
noncomputable def tyVal:Ty→Value
 |.int=>.type "int"|.bool=>.type "bool"|.list=>.type "list"|.tuple=>.type "tuple"|.valueError=>.type "ValueError"
 |.own _=>.none
noncomputable def Ty.plain (t:Ty):Bool:=t.casesOn true true true true false fun z=>false
noncomputable def kindC:Option Cell→Option String
 |some (.list _)=>some "list"
 |some (.dict _)=>some "dict"
 |none=>Option.none
noncomputable def kindOf (Hc:H):V→Option String
 |.none=>some "NoneType"
 |.bool _=>some "bool"
 |.int _=>some "int"
 |.str _=>some "str"
 |.tup _=>some "tuple"
 |.l _=>some "list"
 |.ref i=>kindC Hc[i]?
 |_=>Option.none
theorem zeB (hc:Hc[i]?=o) (t:Ty):isTy Hc (.ref i) t=refTy o t:=congrArg (fun o=>refTy o t) hc
theorem zbh (hc:Hc[i]?=o):kindOf Hc (.ref i)=kindC o:=congrArg kindC hc
theorem zfz (K:Frag) (ht:t.plain=true):∃ b,some (t == .list)=some b∧kitOne K (.type "list") (tyVal t)=some b:=by
 cases t<;>first|exact⟨_,rfl,zfy K⟩|exact⟨_,rfl,zet K⟩|exact⟨_,rfl,zes K⟩|exact⟨_,rfl,zdz K⟩|cases ht
theorem zjY (K:Frag) (ht:t.plain=true):∃ b,some false=some b∧kitOne K (.type "dict") (tyVal t)=some b:=by
 cases t<;>first|exact⟨_,rfl,zfC K⟩|exact⟨_,rfl,zew K⟩|exact⟨_,rfl,zev K⟩|exact⟨_,rfl,zdA K⟩|cases ht
theorem zow (K:Frag) (hk:kindOf Hc a=some k) (ht:t.plain=true):∃ b,isTy Hc a t=some b∧kitOne K (.type k) (tyVal t)=some b:=by
 cases a with
 |uu=>cases hk
 |exc c=>cases hk
 |none=>cases hk;cases t<;>first|exact⟨_,rfl,zfx K⟩|exact⟨_,rfl,zer K⟩|exact⟨_,rfl,zeq K⟩|exact⟨_,rfl,zdy K⟩|cases ht
 |bool b=>cases hk;cases t<;>first|exact⟨_,rfl,zfD K⟩|exact⟨_,rfl,zey K⟩|exact⟨_,rfl,zex K⟩|exact⟨_,rfl,zdB K⟩|cases ht
 |int i=>cases hk;cases t<;>first|exact⟨_,rfl,zgy K⟩|exact⟨_,rfl,zfB K⟩|exact⟨_,rfl,zfA K⟩|exact⟨_,rfl,zeu K⟩|cases ht
 |str x=>cases hk;cases t<;>first|exact⟨_,rfl,zgx K⟩|exact⟨_,rfl,zfw K⟩|exact⟨_,rfl,zfv K⟩|exact⟨_,rfl,zep K⟩|cases ht
 |tup vs=>cases hk;cases t<;>first|exact⟨_,rfl,zeo K⟩|exact⟨_,rfl,zdx K⟩|exact⟨_,rfl,zdw K⟩|exact⟨_,rfl,zdc K⟩|cases ht
 |l vs=>cases hk;exact zfz K ht
 |ref i =>
  cases hc:Hc[i]? with
  |none=>rw[zbh hc] at hk;cases hk
  |some c =>
   cases c with
   |list vs=>rw[zbh hc] at hk;cases hk;rw[zeB hc];exact zfz K ht
   |dict es=>rw[zbh hc] at hk;cases hk;rw[zeB hc];exact zjY K ht
section
variable {am:Amb}{sk:List Env}{A:Around}{π:List Addr}{s:Shared}{Hc:H}
set_option tactic.hygienic true in
theorem zov (hr:HR am sk π Hc s.heap) (ha:VR am π s.heap a x) (hne:kindOf Hc a≠Option.none):∃ k P,kindOf Hc a=some k∧KitX am.K x (.type k) P∧P s.heap∧x≠.builtin "__main__.__loader__#opaque":=by
 cases a<;>first|exact False.elim ha|skip
 ·cases ha;exact⟨_,_,rfl,kitx_none,trivial,by simp⟩
 ·cases ha;exact⟨_,_,rfl,kitx_bool,trivial,by simp⟩
 ·obtain⟨t,rfl⟩:=ha;exact⟨_,_,rfl,kitx_int,trivial,by simp⟩
 ·obtain⟨t,rfl⟩:=ha;exact⟨_,_,rfl,kitx_str,trivial,by simp⟩
 ·obtain⟨l,xs,rfl,_,⟨o,ho,hc,_⟩,_⟩:=ha;exact⟨_,_,rfl,kitx_tuple,⟨o,ho,hc⟩,by simp⟩
 ·obtain⟨l,xs,rfl,_,⟨o,ho,hc,_⟩,_⟩:=ha;exact⟨_,_,rfl,kitx_list,⟨o,ho,hc⟩,by simp⟩
 ·rename_i i
  obtain⟨l,rfl,hl⟩:=ha
  cases hc:Hc[i]? with
  |none=>exact absurd (zbh hc) hne
  |some c =>
   cases c with
   |list vs =>
    refine hold fun z k_=>?_;obtain⟨xs,⟨o,n,ho,hcl,_⟩,_⟩:=(hr.cell i _ l hc hl).list;refine k_ ?_;exact⟨"list",_,zbh hc,kitx_list,⟨o,ho,hcl⟩,by simp⟩
   |dict es =>
    obtain⟨o,xs,ho,⟨_,arr,ep,hcl,_⟩,_⟩:=hr.cell i _ l hc hl;exact⟨"dict",_,zbh hc,kitx_dict,⟨o,ho,hcl⟩,by simp⟩
theorem zj8 (h:isTy Hc a t=some b):kindOf Hc a≠Option.none:=by
 cases a with
 |uu=>cases h
 |exc c=>cases h
 |ref i =>
  cases hc:Hc[i]? with
  |none=>rw[zeB hc] at h;cases h
  |some c=>rw[zbh hc];cases c<;>exact Option.some_ne_none _
 |_=>exact Option.some_ne_none _
theorem zp3 (hK:Frag.In am.K am.B) (hr:HR am sk π Hc s.heap) (ha:VR am π s.heap a x) (ht:t.plain=true) :
  JAt am sk A (call (.builtin "isinstance") [x,tyVal t]) (R.opt ((isTys Hc a [t]).map V.bool) Hc) (VR am) π s:=by
 cases hb:isTy Hc a t with
 |none=>exact .inl (by simp only[isTys,hb];rfl)
 |some b =>
  refine hold fun z k_=>?_;obtain⟨k,P,hk,Z,p,hx⟩:=zov hr ha (zj8 hb);refine k_ ?_;obtain⟨b',h1,h2⟩:=zow am.K hk ht;rw[hb] at h1;cases h1
  have e:isTys Hc a [t]=some b:=by simp only[isTys,hb];cases b<;>rfl
  rw[e];exact .inr (kia_one Z (hK.keeps hr.base) p h2 hx fun tk=>OkP.tok hr rfl)
theorem zhx (n:Nat) (i:Int):clipAt n i=cut n i:=by
 unfold clipAt cut
 by_cases hi:i < 0
 ·have le:i+n≤n:=by
   have:=Int.add_le_add_right (Int.le_of_lt hi) (n:Int)
   rwa [Int.zero_add] at this
  rw[zT hi,zT hi,Int.min_eq_left le]
  rcases Int.le_total 0 (i+n) with h|h
  ·rw[Int.max_eq_right h]
  ·rw[Int.max_eq_left h];exact(Int.toNat_of_nonpos h).symm
 ·rw[zR hi,zR hi]
  obtain⟨k,rfl⟩:=Int.eq_ofNat_of_zero_le (Int.not_lt.1 hi)
  rcases Nat.le_total k n with h|h
  ·rw[Int.min_eq_left (Int.ofNat_le.2 h),Int.max_eq_right (Int.natCast_nonneg k),Int.toNat_natCast,Nat.min_eq_left h]
  ·rw[Int.min_eq_right (Int.ofNat_le.2 h),Int.max_eq_right (Int.natCast_nonneg n),Int.toNat_natCast,Int.toNat_natCast,Nat.min_eq_right h]
theorem zhY (xs:List Value) (lo hi:Option Int):slicePick (List.toArray xs) lo hi none=List.toArray (slc xs lo hi):=by
 rw[slicePick_plain];unfold slc;simp only[size_toArray];have e1:(lo.elim 0 (clipAt xs.length))=(match lo with|some i=>cut xs.length i|none=>0):=by cases lo<;>simp[zhx]
 have e2:(hi.elim xs.length (clipAt xs.length))=(match hi with|some i=>cut xs.length i|none=>xs.length):=by cases hi<;>simp[zhx]
 rw[e1,e2]
 congr 1
 first|(rw[List.drop_take];done)|(rw[List.drop_take];rfl)
theorem VRs.slc (lo hi:Option Int) (e:VRs am π h vs xs):VRs am π h (Mine.Internal.slc vs lo hi) (Mine.Internal.slc xs lo hi):=by
 unfold Mine.Internal.slc;rw[e.len];exact(e.take _).drop _
theorem znP {α:Type}(xs:List α) (lo hi:Option Int):(slc xs lo hi).length≤xs.length:=by
 unfold slc;rw[length_drop,length_take];exact zX (Nat.sub_le ..) (Nat.min_le_right ..)
theorem zkY {value slice:Expr}{a:V}{x:Value}{vs:List V}{lo hi:Option Int}{vl vu:Value}{Q:Value→Shared→Prop}{E:Value→Shared→Prop}(hr:HR am sk π Hc s.heap) (ha:VR am π s.heap a x) (hi':litems Hc a=some vs) (pl:IsPart vl lo) (pu:IsPart vu hi)
  (h:∀ y s1 s',Step (Fs sk) π s π s1→HR am sk π Hc s1.heap→(slc vs lo hi).length≤1000000→NewL am π s1 (slc vs lo hi) y s'→Q y s') :
  wpAny am.M A (newFields "slice" [vl,vu,.none]) (fun i s₁=>wpAny am.M A (subscriptTail value slice x i) Q E s₁) E s:=by
 refine hold fun z k_=>?_;obtain⟨l,xs,rfl,hl,hz,hv⟩:=zao hr ha hi';refine k_ ?_;have e:=hv.len;unfold newFields;refine wpAny_newObj_type ?_;have k:∀ b o,s.heap.get? b=some o→(s.heap.push { cls:=.type "slice",data:=.fields #[vl,vu,.none] }).get? b=some o:=fun b o q=>Heap.get?_push_of_some _ q;refine zbX (s:={ s with heap:=s.heap.push { cls:=.type "slice",data:=.fields #[vl,vu,.none] } }) (hl.push _).typeIs list_getitem_lookup
  (wpAny_getItem_list_slice (hl.push _) (Heap.IsSliceOf.new ..) pl pu .none (by simp) ?_ (by rw[size_toArray,e];exact zaN hz))
 rw[zhY];have n:=NewL.push (am:=am) (π:=π) (s:={ s with heap:=s.heap.push { cls:=.type "slice",data:=.fields #[vl,vu,.none] } }) (o:={ cls:=.type "list",data:=.seq (List.toArray (slc xs lo hi)) }) (n:=0) (tk:=s.toks) ((hv.slc lo hi).keeps k) rfl rfl rfl
 exact h _ _ _ (Step.keeps (tk:=s.toks) k) (hr.keeps k) (zX (znP _ _ _) hz) n
end
theorem zmR:∀ l:List Int,(∀ i∈l,0≤i∧i≤1000000)→0≤l.sum∧l.sum≤1000000 * l.length
 |[],_=>by simp
 |a::l,h=>by
  have h1:=h a (zZ ..);have h2:=zmR l fun i hi=>h i (zY _ hi);rw[sum_cons,length_cons,Int.natCast_add]
  omega
section
variable {am:Amb}{sk:List Env}{A:Around}{π:List Addr}{s:Shared}{Hc:H}
theorem zdO:∀ {vs:List V}{is:List Int}{xs:List Value},asInts vs=some is→VRs am π h vs xs→∃ ps:List (Int × Tok),ps.map (·.1)=is∧xs=ps.map fun p=>Value.int p.1 p.2
 |[],is,xs,e,r=>by cases e;simp only[VRs] at r;subst r;exact⟨[],rfl,rfl⟩
 |v::vs,is,xs,e,r=>by
  cases v with
  |int i =>
   simp only[asInts,Option.map_eq_some_iff] at e;obtain⟨a,ha,rfl⟩:=e;simp only[VRs,VR] at r;obtain⟨x,xs',rfl,⟨t,rfl⟩,r⟩:=r;obtain⟨ps,h1,h2⟩:=zdO ha r;exact⟨(i,t)::ps,by rw[yY,h1],by rw[yY,h2]⟩
  |_=>exact nomatch e
set_option tactic.hygienic true in
theorem zp0 {a:V}{x:Value}(hh:A.handled=none) (hr:HR am sk π Hc s.heap) (ha:VR am π s.heap a x) :
  JAt am sk A (call (.builtin "sum") [x]) (R.opt (bf .sum Hc a) Hc) (VR am) π s:=by
 show JAt am sk A (call (.builtin "sum") [x]) (R.opt ((litems Hc a).bind fun vs=>(asInts vs).bind sumI) Hc) (VR am) π s
 cases hi:litems Hc a with
 |none=>exact .inl rfl
 |some vs =>
  cases hb:asInts vs with
  |none=>exact .inl (by show R.opt ((asInts vs).bind sumI) Hc=.bad;rw[hb];rfl)
  |some is =>
   simp only[Option.bind_some,hb];unfold sumI
   split
   ·rename_i hok
    obtain⟨l,xs,rfl,hl,hz,hv⟩:=zao hr ha hi;obtain⟨ps,rfl,rfl⟩:=zdO hb hv;have hl':s.heap.IsList l (intItems ps.toArray):=by
     have:intItems ps.toArray=List.toArray (ps.map fun p=>Value.int p.1 p.2):=by simp[intItems]
     rw[this];exact hl
    have bound:∀ j,InLong (preSum (numAt ps.toArray) j):=fun j=>by
     rw[preSum_eq];show InLong ((ps.map (·.1)).take j).sum;have:=zmR ((ps.map (·.1)).take j) fun i hi=>hok.2 i (mem_of_mem_take hi);have h2:((ps.map (·.1)).take j).length≤1000:=zX (by rw[length_take];exact Nat.min_le_right _ _) hok.1
     unfold InLong
     omega
    refine .inr (sum_intList hh hl' (fun j hj=>⟨?_,bound _⟩) fun h' tk t' k=>?_)
    ·have hj':j < ps.length:=by simpa using hj
     have e:numAt ps.toArray j=ps[j].1:=by simp[numAt,hj']
     rw[e];have:=hok.2 ps[j].1 (yQ.2 ⟨ps[j],getElem_mem hj',rfl⟩);unfold InLong
     omega
    ·rw[preSum_eq]
     refine OkP.keeps hr k ?_;simp only[VR];exact⟨t',by simp[take_of_length_le]⟩
   ·exact .inl rfl
end
structure Sc where
 M:Model
 A:Around
 E:Value→Shared→Prop
 s:Shared
 κ:SortKind
 it:Array Keyed
 N:Nat
 r:Nat→Nat
 cmp:∀ i j (C:Bool→Shared→Prop),i < N→j < N→C (decide (r i < r j)) s→wpAny M A (keyLt' κ (kas_item it i).1 (kas_item it j).1) C (fun z z=>False) s
abbrev SM (α:Type):=StateT SortSt Sem α
abbrev SQ (α:Type):=α→SortSt→Prop
def Sc.W (X:Sc){α:Type}(m:SM α) (Q:SQ α) (st:SortSt):Prop:=wpS X.M X.A X.E X.s m Q st
noncomputable def Sc.arr (X:Sc) (l:List Nat):Array Keyed:=(l.map (kas_item X.it)).toArray
noncomputable def Sc.st (X:Sc) (p:List Nat) (pd:List (Nat × Nat × Nat)) (g:Nat):SortSt:=SortSt.mk' X.κ (X.arr p) pd.toArray g none
section
variable {X:Sc}{α β:Type}{st:SortSt}
theorem W.pure {a:α}{Q:SQ α}(h:Q a st):X.W (Pure.pure a) Q st:=wpS_pure h
theorem W.bind {m:SM α}{f:α→SM β}{Q:SQ β}(h:X.W m (fun a st'=>X.W (f a) Q st') st):X.W (m >>= f) Q st:=wpS_bind h
theorem W.mono (h:X.W m Q st) (hq:∀ a st',Q a st'→Q' a st'):X.W m Q' st:=wpS_mono h hq
theorem W.get {Q:SQ SortSt}(h:Q st st):X.W MonadState.get Q st:=wpS_get h
theorem W.modify {f:SortSt→SortSt}(h:Q ⟨⟩ (f st)):X.W (_root_.modify f) Q st:=wpS_modify h
theorem W.rule (h:Q ⟨⟩ st):X.W (liftM (PySem.rule n)) Q st:=wpS_lift (wpAny_rule ⟨rfl,h⟩)
theorem W.elem (e:l[i]?=some x) (h:Q (kas_item X.it x) st):X.W (elem' (X.arr l) i) Q st:=by
 have:(X.arr l)[i]?=some (kas_item X.it x):=by unfold Sc.arr;rw[List.getElem?_toArray,List.getElem?_map,e];rfl
 rw[elem'_eq,this];exact W.pure h
theorem W.lt (hi:i < X.N) (hj:j < X.N) (h:Q (some (decide (X.r i < X.r j))) (X.st p pd g)):X.W (lt' (kas_item X.it i) (kas_item X.it j)) Q (X.st p pd g):=by
 rw[lt'_eq];exact W.bind (W.get (W.bind (wpS_lift (wpAny_attempt (yV (X.cmp i j (fun c s'=>s'=X.s∧c=decide (X.r i < X.r j)) hi hj ⟨rfl,rfl⟩) (fun c s' hc=>⟨hc.1,by rw[hc.2];exact W.pure h⟩) fun z z hF=>hF.elim)))))
theorem W.ite {c:Prop} [Decidable c] {x y:SM α}{Q:SQ α}(h1:c→X.W x Q st) (h2:¬c→X.W y Q st):X.W (if c then x else y) Q st:=by
 by_cases h:c
 ·rw[zT h];exact h1 h
 ·rw[zR h];exact h2 h
noncomputable def Nx (Q I:SQ β):SQ (ForInStep β)
 |.done c,st=>Q c st
 |.yield c,st=>I c st
theorem W.loop {f:Nat→β→SM (ForInStep β)}(I:Nat→β→SortSt→Prop)
  (hstep:∀ i c st,i < n→I i c st→X.W (f i c) (Nx Q (I (i+1))) st)
  (hend:∀ c st,I n c st→Q c st) (h:I 0 c st):X.W (forIn [0:n] c f) Q st :=
 wpS_forRange I (fun i c st z hi h=>W.mono (hstep i c st hi h) fun r st' h=>by cases r<;>exact h) (fun c st h=>hend c st (by rwa [Nat.max_eq_right (Nat.zero_le n)] at h)) h
end
noncomputable def zbv:Bool→Keyed→Array Keyed→Nat→Nat→Nat→SM (Option Nat):=sortPriv% PySem.Builtin.gallop
abbrev GSt:=Option (Option Nat) × Nat × Nat
noncomputable def gBin (beyond:Nat→SM (Option Bool)) (_:Nat) (s:GSt):SM (ForInStep GSt) :=
 if s.2.1 ≥ s.2.2 then pure (.done (none,s.2.1,s.2.2)) else do
  let x ← beyond (s.2.1+(s.2.2 - s.2.1) / 2)
  match x with
  |some more=>if more=true then pure (.yield (none,s.2.1+(s.2.2 - s.2.1) / 2+1,s.2.2)) else pure (.yield (none,s.2.1,s.2.1+(s.2.2 - s.2.1) / 2))
  |_=>pure (.done (some none,s.2.1,s.2.2))
noncomputable def gEnd (beyond:Nat→SM (Option Bool)) (n lo hi:Nat):SM (Option Nat):=do
 let s ← forIn [0:n] ((none,lo,hi):GSt) (gBin beyond)
 match s.1 with
 |some r=>pure r
 |none=>pure (some s.2.2)
noncomputable def gUp (beyond:Nat→SM (Option Bool)) (hint m:Nat) (_:Nat) (s:GSt):SM (ForInStep GSt) :=
 if s.2.2 ≥ m then pure (.done (none,s.2.1,s.2.2)) else do
  let x ← beyond (hint+s.2.2)
  match x with
  |some more=>if(!more)=true then pure (.done (none,s.2.1,s.2.2)) else pure (.yield (none,s.2.2,2 * s.2.2+1))
  |_=>pure (.done (some none,s.2.1,s.2.2))
noncomputable def gDn (beyond:Nat→SM (Option Bool)) (hint m:Nat) (_:Nat) (s:GSt):SM (ForInStep GSt) :=
 if s.2.2 ≥ m then pure (.done (none,s.2.1,s.2.2)) else do
  let x ← beyond (hint - s.2.2)
  match x with
  |some found=>if found=true then pure (.done (none,s.2.1,s.2.2)) else pure (.yield (none,s.2.2,2 * s.2.2+1))
  |_=>pure (.done (some none,s.2.1,s.2.2))
noncomputable def gUps (beyond:Nat→SM (Option Bool)) (n hint:Nat):SM (Option Nat):=do
 let s ← forIn [0:n] ((none,0,1):GSt) (gUp beyond hint (n - hint))
 match s.1 with
 |some r=>pure r
 |none=>gEnd beyond n (hint+s.2.1+1) (hint+min s.2.2 (n - hint))
noncomputable def gDns (beyond:Nat→SM (Option Bool)) (n hint:Nat):SM (Option Nat):=do
 let s ← forIn [0:n] ((none,0,1):GSt) (gDn beyond hint (hint+1))
 match s.1 with
 |some r=>pure r
 |none=>gEnd beyond n (hint+1 - min s.2.2 (hint+1)) (hint - s.2.1)
noncomputable def gAll (beyond:Nat→SM (Option Bool)) (n hint:Nat):SM (Option Nat):=do
 let x ← beyond hint
 match x with
 |some right=>if right=true then gUps beyond n hint else gDns beyond n hint
 |_=>pure none
noncomputable def gBey (left:Bool) (key:Keyed) (arr:Array Keyed) (base i:Nat):SM (Option Bool):=do
 let x ← elem' arr (base+i)
 if left=true then lt' x key else do
  let y ← lt' key x
  pure (y.map (!·))
theorem zir (left:Bool) (key:Keyed) (arr:Array Keyed) (base n hint:Nat):zbv left key arr base n hint=gAll (gBey left key arr base) n hint:=by kernel_rfl
section
variable {X:Sc}{st:SortSt}{bey:Nat→SM (Option Bool)}{B:Nat→Bool}{n hint:Nat}
structure GOk (B:Nat→Bool) (n h:Nat):Prop where
 le:h≤n
 lo:∀ i,i < h→B i=true
 hi:∀ i,h≤i→i < n→B i=false
structure GIn (B:Nat→Bool) (n lo hi:Nat):Prop where
 lh:lo≤hi
 hn:hi≤n
 lo:∀ i,i < lo→B i=true
 hi:∀ i,hi≤i→i < n→B i=false
structure GB (X:Sc) (bey:Nat→SM (Option Bool)) (B:Nat→Bool) (n:Nat) (st:SortSt):Prop where
 ask:∀ i Q,i < n→Q (some (B i)) st→X.W (bey i) Q st
 mono:∀ i j,i≤j→j < n→B j=true→B i=true
theorem GB.no (b:GB X bey B n st) (hij:i≤j) (hj:j < n) (h:B i=false):B j=false:=by
 cases e:B j with
 |false=>rfl
 |true=>rw[b.mono i j hij hj e] at h;exact h
theorem zlD (h:a≤n - x) (hb:b < a):b≤n - (x+1):=Nat.le_pred_of_lt (Nat.lt_of_lt_of_le hb h)
theorem zrO {lo hi:Nat}(h:¬ lo ≥ hi):lo+(hi - lo) / 2 < hi:=Nat.add_lt_of_lt_sub' (Nat.div_lt_self (Nat.sub_pos_of_lt (Nat.lt_of_not_le h)) (by decide))
theorem zqh {lo hi n:Nat}(h:hi - lo≤n - n):hi≤lo:=Nat.le_of_sub_eq_zero (Nat.le_zero.1 (by rwa [Nat.sub_self] at h))
theorem zlE (o:Nat):o < 2 * o+1:=Nat.lt_succ_of_le (Nat.le_mul_of_pos_left o (by decide))
inductive GP (B:Nat→Bool) (n:Nat) (st:SortSt):Option Nat→SortSt→Prop
 |mk {h:Nat}(g:GOk B n h):GP B n st (some h) st
inductive GE (B:Nat→Bool) (n:Nat) (st:SortSt) (x:Nat):GSt→SortSt→Prop
 |mk {lo hi:Nat}(g:GIn B n lo hi) (hm:hi - lo≤n - x):GE B n st x (none,lo,hi) st
inductive GU (B:Nat→Bool) (n hint:Nat) (st:SortSt) (x:Nat):GSt→SortSt→Prop
 |mk {l o:Nat}(h1:B (hint+l)=true) (h2:l < o) (h3:hint+l < n) (h4:x < o):GU B n hint st x (none,l,o) st
inductive GD (B:Nat→Bool) (hint:Nat) (st:SortSt) (x:Nat):GSt→SortSt→Prop
 |mk {l o:Nat}(h1:B (hint - l)=false) (h2:l < o) (h3:l≤hint) (h4:x < o):GD B hint st x (none,l,o) st
theorem zoP (b:GB X bey B n st){lo hi:Nat}(g:GIn B n lo hi){Q:SQ GSt}(hq:∀ h,GOk B n h→Q (none,h,h) st):X.W (forIn [0:n] ((none,lo,hi):GSt) (gBin bey)) Q st:=by
 have fin:∀ {lo hi:Nat},GIn B n lo hi→hi≤lo→Q (none,lo,hi) st:=fun {lo hi} g h=>by
  cases Nat.le_antisymm g.lh h
  exact hq _ ⟨g.hn,g.lo,g.hi⟩
 refine W.loop (GE B n st) (fun x c st' hx h=>?_) (fun c st' h=>?_) ⟨g,zX (Nat.sub_le _ _) g.hn⟩
 ·obtain⟨g,hm⟩:=h
  refine W.ite (fun hge=>W.pure (fin g hge)) fun hge=>?_;have h2:=zrO hge;have mn:=Nat.lt_of_lt_of_le h2 g.hn;refine W.bind (b.ask _ _ mn ?_);refine W.ite (fun e=>W.pure ⟨⟨h2,g.hn,fun i hi=>b.mono i _ (Nat.le_of_lt_succ hi) mn e,g.hi⟩,zlD hm (Nat.sub_lt_sub_left (Nat.lt_of_not_le hge) (Nat.lt_succ_of_le (Nat.le_add_right ..)))⟩) fun e=>?_;exact W.pure ⟨⟨Nat.le_add_right ..,Nat.le_of_lt mn,g.lo,fun i hi hn=>b.no hi hn (eq_false_of_ne_true e)⟩,zlD hm (Nat.sub_lt_sub_right (Nat.le_add_right ..) h2)⟩
 ·obtain⟨g,hm⟩:=h
  exact fin g (zqh hm)
theorem zkg (b:GB X bey B n st){lo hi:Nat}(g:GIn B n lo hi):X.W (gEnd bey n lo hi) (GP B n st) st :=
 W.bind (zoP b g fun z h=>W.pure ⟨h⟩)
theorem zqE (b:GB X bey B n st) (hh:hint < n) (h0:B hint=true) (fin:∀ l o,B (hint+l)=true→l < o→hint+l < n→(o < n - hint→B (hint+o)=false)→Q (none,l,o) st):X.W (forIn [0:n] ((none,0,1):GSt) (gUp bey hint (n - hint))) Q st:=by
 refine W.loop (GU B n hint st) (fun x c st' hx h=>?_) (fun c st' h=>?_) ⟨h0,Nat.one_pos,hh,Nat.one_pos⟩
 ·obtain⟨h1,h2,h3,h4⟩:=h
  refine W.ite (fun hge=>W.pure (fin _ _ h1 h2 h3 fun h=>absurd hge (Nat.not_le_of_lt h))) fun hge=>?_;have lt:=Nat.add_lt_of_lt_sub' (Nat.lt_of_not_le hge);refine W.bind (b.ask _ _ lt ?_);refine W.ite (fun e=>W.pure (fin _ _ h1 h2 h3 fun y=>(Bool.not_eq_true' _).mp e)) fun e=>?_;exact W.pure ⟨eq_true_of_ne_false fun z=>e (by rw[z];rfl),zlE _,lt,Nat.lt_of_le_of_lt (Nat.succ_le_of_lt h4) (zlE _)⟩
 ·obtain⟨h1,h2,h3,h4⟩:=h
  exact fin _ _ h1 h2 h3 fun h=>absurd (Nat.lt_trans h4 h) (Nat.not_lt_of_le (Nat.sub_le ..))
theorem zoN (b:GB X bey B n st) (hh:hint < n) (h0:B hint=true):X.W (gUps bey n hint) (GP B n st) st :=
 W.bind (zqE b hh h0 fun l o h1 h2 h3 h4 =>
  zkg b ⟨Nat.add_le_add_left (Nat.le_min.2 ⟨h2,Nat.lt_sub_of_add_lt (by rw[Nat.add_comm];exact h3)⟩) hint,zX (Nat.add_le_add_left (Nat.min_le_right ..) hint) (Nat.le_of_eq (Nat.add_sub_cancel' (Nat.le_of_lt hh))),fun i hi=>b.mono i _ (Nat.le_of_lt_succ hi) h3 h1,fun i hi hn=>by
   by_cases ho:o < n - hint
   ·rw[Nat.min_eq_left (Nat.le_of_lt ho)] at hi
    exact b.no hi hn (h4 ho)
   ·rw[Nat.min_eq_right (Nat.le_of_not_lt ho),Nat.add_sub_cancel' (Nat.le_of_lt hh)] at hi
    exact absurd hn (Nat.not_lt_of_le hi)⟩)
theorem zss (h2:l < o) (h3:l≤hint):hint+1 - min o (hint+1)≤hint - l:=by
 rcases Nat.le_total o (hint+1) with q|q
 ·rw[Nat.min_eq_left q,← Nat.add_sub_add_right hint 1 l];exact Nat.sub_le_sub_left h2 (hint+1)
 ·rw[Nat.min_eq_right q,Nat.sub_self];exact Nat.zero_le _
theorem zqF (b:GB X bey B n st) (hh:hint < n) (h0:B hint=false) (fin:∀ l o,B (hint - l)=false→l < o→l≤hint→(o < hint+1→B (hint - o)=true)→Q (none,l,o) st):X.W (forIn [0:n] ((none,0,1):GSt) (gDn bey hint (hint+1))) Q st:=by
 refine W.loop (GD B hint st) (fun x c st' hx h=>?_) (fun c st' h=>?_) ⟨h0,Nat.one_pos,Nat.zero_le _,Nat.one_pos⟩
 ·obtain⟨h1,h2,h3,h4⟩:=h
  refine W.ite (fun hge=>W.pure (fin _ _ h1 h2 h3 fun h=>absurd hge (Nat.not_le_of_lt h))) fun hge=>?_;refine W.bind (b.ask _ _ (Nat.lt_of_le_of_lt (Nat.sub_le _ _) hh) ?_);refine W.ite (fun e=>W.pure (fin _ _ h1 h2 h3 fun z=>e)) fun e=>?_;exact W.pure ⟨eq_false_of_ne_true e,zlE _,Nat.le_of_lt_succ (Nat.lt_of_not_le hge),Nat.lt_of_le_of_lt (Nat.succ_le_of_lt h4) (zlE _)⟩
 ·obtain⟨h1,h2,h3,h4⟩:=h
  exact fin _ _ h1 h2 h3 fun h=>absurd (Nat.lt_of_lt_of_le (Nat.lt_trans h4 h) hh) (Nat.lt_irrefl _)
theorem zoO (b:GB X bey B n st) (hh:hint < n) (h0:B hint=false):X.W (gDns bey n hint) (GP B n st) st :=
 W.bind (zqF b hh h0 fun l o h1 h2 h3 h4 =>
  zkg b ⟨zss h2 h3,zX (Nat.sub_le ..) (Nat.le_of_lt hh),fun i hi=>by
   by_cases ho:o < hint+1
   ·rw[Nat.min_eq_left (Nat.le_of_lt ho),Nat.succ_sub (Nat.le_of_lt_succ ho)] at hi
    exact b.mono i _ (Nat.le_of_lt_succ hi) (Nat.lt_of_le_of_lt (Nat.sub_le ..) hh) (h4 ho)
   ·rw[Nat.min_eq_right (Nat.le_of_not_lt ho),Nat.sub_self] at hi
    exact absurd hi (Nat.not_lt_zero _),fun i hi hn=>b.no hi hn h1⟩)
theorem zoQ (b:GB X bey B n st) (hh:hint < n):X.W (gAll bey n hint) (GP B n st) st :=
 W.bind (b.ask hint _ hh (W.ite (fun e=>zoN b hh e) fun e=>zoO b hh (eq_false_of_ne_true e)))
abbrev Sc.Up (X:Sc) (l:List Nat):Prop:=l.Pairwise fun x y=>X.r x≤X.r y
abbrev Sc.In (X:Sc) (l:List Nat):Prop:=∀ x∈l,x < X.N
end
theorem za0 {α:Type}{l:List α}{i:Nat}(h:i < l.length):∃ y,l[i]?=some y∧l.drop i=y::l.drop (i+1):=⟨l[i],zM h,drop_eq_getElem_cons h⟩
section
variable {X:Sc}
theorem zaw (l:List Nat):(X.arr l).size=l.length:=by unfold Sc.arr;rw[size_toArray,zJ]
theorem zb7 (o:List Nat) (y:Nat):(X.arr o).push (kas_item X.it y)=X.arr (o++[y]):=by unfold Sc.arr;rw[List.push_toArray,map_append];rfl
theorem zaC (o l:List Nat):X.arr o++X.arr l=X.arr (o++l):=by unfold Sc.arr;rw[List.append_toArray,map_append]
theorem zdl (l:List Nat) (i j:Nat):(X.arr l).extract i j=X.arr ((l.drop i).take (j - i)):=by unfold Sc.arr;rw[List.extract_toArray,List.extract_eq_take_drop,List.map_take,List.map_drop]
theorem zcq (l:List Nat) (i:Nat):(X.arr l).extract i (X.arr l).size=X.arr (l.drop i):=by rw[zdl,zaw,take_of_length_le (by rw[length_drop];exact Nat.le_refl _)]
theorem zcc (h:X.Up (x::l)) (hy:X.r y≤X.r x):∀ z∈x::l,X.r y≤X.r z:=fun z hz=>by
 rcases zN.1 hz with rfl|hz
 ·exact hy
 ·exact zX hy ((List.pairwise_cons.1 h).1 z hz)
structure ML (X:Sc) (a b o:List Nat) (ia ib:Nat):Prop where
 pm:(o++a.drop ia++b.drop ib).Perm (a++b)
 ua:X.Up (o++a.drop ia)
 ub:X.Up (o++b.drop ib)
variable {a b o:List Nat}{ia ib:Nat}
theorem ML.swap (h:ML X a b o ia ib):ML X b a o ib ia:=by
 have e:=h.pm.trans perm_append_comm;rw[yJ] at e;exact⟨by rw[yJ];exact(List.perm_append_comm.append_left o).trans e,h.ub,h.ua⟩
theorem ML.move (h:ML X a b o ia ib) (e:a.drop ia=L1++L2) (hl:∀ x∈L1,∀ y∈b.drop ib,X.r x≤X.r y):ML X a b (o++L1) (ia+L1.length) ib:=by
 have e2:a.drop (ia+L1.length)=L2:=by rw[←List.drop_drop,e,drop_left]
 obtain⟨p,u,v⟩:=h;rw[e] at p u;refine⟨by rw[e2,yJ o L1 L2];exact p,by rw[e2,yJ];exact u,?_⟩
 rw[yJ];obtain⟨u1,u2,u3⟩:=List.pairwise_append.1 u;obtain⟨v1,v2,v3⟩:=List.pairwise_append.1 v;refine List.pairwise_append.2 ⟨u1,List.pairwise_append.2 ⟨(List.pairwise_append.1 u2).1,v2,hl⟩,fun x hx y hy=>?_⟩
 rcases zP.1 hy with hy|hy
 ·exact u3 x hx y (mem_append_left _ hy)
 ·exact v3 x hx y hy
structure MP (X:Sc) (a b:List Nat):Prop where
 ina:X.In a
 inb:X.In b
 last:∀ y∈b,∀ i x,i+1=a.length→a[i]?=some x→X.r y≤X.r x
def MR (X:Sc) (a b:List Nat) (c:Array Keyed):Prop:=∃ o,c=X.arr o∧X.Up o∧o.Perm (a++b)
theorem ML.doneB (h:ML X a b o ia ib) (e:ib=b.length):MR X a b (X.arr o++(X.arr a).extract ia (X.arr a).size++(X.arr b).extract ib (X.arr b).size):=by
 rw[zcq,zcq,zaC,zaC];obtain⟨p,u,v⟩:=h;have:b.drop ib=[]:=drop_of_length_le (Nat.le_of_eq e.symm);rw[this] at p ⊢
 rw[append_nil] at p ⊢
 exact⟨_,rfl,u,p⟩
theorem ML.doneA (h:ML X a b o ia ib) (e:ia=a.length):MR X a b (X.arr o++(X.arr a).extract ia (X.arr a).size++(X.arr b).extract ib (X.arr b).size):=by
 rw[zcq,zcq,zaC,zaC];obtain⟨p,u,v⟩:=h;have:a.drop ia=[]:=drop_of_length_le (Nat.le_of_eq e.symm);rw[this] at p ⊢
 rw[append_nil] at p ⊢
 exact⟨_,rfl,v,p⟩
theorem ML.last (h:ML X a b o ia ib) (m:MP X a b) (e:ia+1=a.length):MR X a b (X.arr o++(X.arr b).extract ib (X.arr b).size++(X.arr a).extract ia (X.arr a).size):=by
 rw[zcq,zcq,zaC,zaC];obtain⟨x,ex,ed⟩:=za0 (l:=a) (i:=ia) (by rw[←e];exact Nat.lt_succ_self _)
 have en:a.drop (ia+1)=[]:=drop_of_length_le (Nat.le_of_eq e.symm);rw[en] at ed;refine⟨_,rfl,?_,h.swap.pm.trans perm_append_comm⟩;refine List.pairwise_append.2 ⟨h.ub,by rw[ed];exact pairwise_singleton ..,fun y hy z hz=>?_⟩
 rcases zP.1 hy with hy|hy
 ·exact(List.pairwise_append.1 h.ua).2.2 y hy z hz
 ·rw[ed] at hz
  cases zK.1 hz
  exact m.last y (mem_of_mem_drop hy) ia x e ex
structure LI (X:Sc) (a b:List Nat) (m:Nat) (o:List Nat) (ia ib:Nat):Prop where
 ml:ML X a b o ia ib
 ha:ia+1 < a.length
 hb:ib < b.length
 hm:m≤o.length
theorem zop {o a b i j m:Nat}(e:o+(a - i)+(b - j)=a+b) (h:i+1 < a) (hm:m≤o):m < a+b :=
 Nat.lt_of_le_of_lt hm (by rw[←e];exact Nat.lt_of_lt_of_le (Nat.lt_add_of_pos_right (Nat.sub_pos_of_lt (Nat.lt_of_succ_lt h))) (Nat.le_add_right ..))
theorem LI.bound {m:Nat}(h:LI X a b m o ia ib):m < a.length+b.length:=by
 have:=h.ml.pm.length_eq;simp only[zQ,length_drop] at this;exact zop this h.ha h.hm
end
theorem zbu {l:List Nat}{i:Nat}(h:i < l.length):l.getD i 0=l[i]:=by rw[List.getD_eq_getElem?_getD,zM h];rfl
section
variable {X:Sc}{p:List Nat}{pd:List (Nat × Nat × Nat)}{g:Nat}{l seg:List Nat}{k base n hint:Nat}
structure Cut (T:Nat→Bool) (seg:List Nat) (h:Nat) (L1 L2:List Nat):Prop where
 eq:seg=L1++L2
 len:L1.length=h
 yes:∀ x∈L1,T x=true
 no:∀ x∈L2,T x=false
theorem GOk.cut {T:Nat→Bool}{h:Nat}(g:GOk (fun i=>T (seg.getD i 0)) seg.length h):Cut T seg h (seg.take h) (seg.drop h):=by
 refine⟨(take_append_drop h seg).symm,by rw[length_take];exact Nat.min_eq_left g.le,fun x hx=>?_,fun x hx=>?_⟩
 ·obtain⟨i,hi,e⟩:=List.mem_take_iff_getElem.1 hx
  have:=g.lo i (Nat.lt_of_lt_of_le hi (Nat.min_le_left ..));rw[zbu (Nat.lt_of_lt_of_le hi (Nat.min_le_right ..)),e] at this;exact this
 ·obtain⟨i,hi,e⟩:=List.mem_drop_iff_getElem.1 hx
  have:=g.hi (i+h) (Nat.le_add_left ..) hi;rw[zbu hi,show seg[i+h]=x by rw[←e];congr 1;exact Nat.add_comm i h] at this
  exact this
noncomputable def gT (X:Sc) (left:Bool) (k x:Nat):Bool:=if left=true then decide (X.r x < X.r k) else !decide (X.r k < X.r x)
inductive CutP (X:Sc) (left:Bool) (k:Nat) (seg:List Nat) (st:SortSt):Option Nat→SortSt→Prop
 |mk {L1 L2:List Nat}(e:seg=L1++L2) (yes:∀ x∈L1,gT X left k x=true) (no:∀ x∈L2,gT X left k x=false):CutP X left k seg st (some L1.length) st
theorem zdP {left:Bool}(hk:k < X.N) (hl:∀ i,i < seg.length→l[base+i]?=seg[i]?) (up:X.Up seg) (hin:X.In seg) (hh:hint < seg.length) :
  X.W (zbv left (kas_item X.it k) (X.arr l) base seg.length hint) (CutP X left k seg (X.st p pd g)) (X.st p pd g):=by
 rw[zir];refine W.mono (zoQ (B:=fun i=>gT X left k (seg.getD i 0)) ⟨fun i Q hi hq=>?_,fun i j hij hj h=>?_⟩ hh) fun c st' h=>?_
 ·have e:seg[i]?=some (seg.getD i 0):=by rw[zbu hi,zM hi]
  have hx:seg.getD i 0 < X.N:=hin _ (mem_of_getElem? e);refine W.bind (W.elem ((hl i hi).trans e) ?_)
  cases left with
  |true=>exact W.lt hx hk hq
  |false=>exact W.bind (W.lt hk hx (W.pure hq))
 ·have le:X.r (seg.getD i 0)≤X.r (seg.getD j 0):=by
   rw[zbu (Nat.lt_of_le_of_lt hij hj),zbu hj]
   rcases Nat.lt_or_eq_of_le hij with hi|rfl
   ·exact List.pairwise_iff_getElem.1 up i j _ hj hi
   ·exact Nat.le_refl _
  unfold gT at h ⊢
  cases left with
  |true=>exact zW (Nat.lt_of_le_of_lt le (zV h))
  |false =>
   have h:=of_decide_eq_false (Eq.mp (Bool.not_eq_true' _) h);show(!decide _)=true;rw[zU fun h'=>h (Nat.lt_of_lt_of_le h' le)];rfl
 ·obtain⟨h3⟩:=h
  have c:=h3.cut;have:=CutP.mk (st:=X.st p pd g) c.eq c.yes c.no
  rwa [c.len] at this
theorem zaZ:(gT X false k x=true→X.r x≤X.r k)∧(gT X false k x=false→X.r k < X.r x):=by
 unfold gT;simp
theorem zck:(gT X true k x=true→X.r x < X.r k)∧(gT X true k x=false→X.r k≤X.r x):=by
 unfold gT;simp
end
noncomputable def zek:Array Keyed→Array Keyed→SM (Array Keyed):=sortPriv% PySem.Builtin.mergeLo
noncomputable def setG':Nat→SM Unit:=sortPriv% PySem.Builtin.setMinGallop
abbrev AK:=Array Keyed
noncomputable def loDone (a b out:AK) (ia ib:Nat):AK:=out++a.extract ia a.size++b.extract ib b.size
noncomputable def loLast (a b out:AK) (ia ib:Nat):AK:=out++b.extract ib b.size++a.extract ia a.size
abbrev L1:=Option AK × AK × Nat × Nat × Nat × Nat
abbrev L2:=Option AK × AK × Nat × Nat × Nat × Nat × Nat
abbrev L0:=Option AK × AK × Nat × Nat × Nat
noncomputable def lo1 (a b:AK) (mg:Nat) (out:AK) (ia ib ac bc:Nat):SM (ForInStep L1):=do
 let y ← elem' b ib
 let x ← elem' a ia
 let c ← lt' y x
 match c with
 |some w =>
  if w=true then do
   let y ← elem' b ib
   if(ib+1 == b.size)=true then pure (.done (some (loDone a b (out.push y) ia (ib+1)),out.push y,ia,ib+1,0,bc+1))
   else if bc+1 ≥ mg then pure (.done (none,out.push y,ia,ib+1,0,bc+1))
   else pure (.yield (none,out.push y,ia,ib+1,0,bc+1))
  else do
   let x ← elem' a ia
   if(ia+1+1 == a.size)=true then pure (.done (some (loLast a b (out.push x) (ia+1) ib),out.push x,ia+1,ib,ac+1,0))
   else if ac+1 ≥ mg then pure (.done (none,out.push x,ia+1,ib,ac+1,0))
   else pure (.yield (none,out.push x,ia+1,ib,ac+1,0))
 |_=>pure (.done (some (loDone a b out ia ib),out,ia,ib,ac,bc))
noncomputable def lo2d (a b:AK) (mg:Nat) (out:AK) (ia ib ac bc:Nat):SM (ForInStep L2):=do
 let x ← elem' a ia
 if(ia+1+1 == a.size)=true then pure (.done (some (loLast a b (out.push x) (ia+1) ib),out.push x,ia+1,ib,mg,ac,bc))
 else if(decide (ac < 7)&&decide (bc < 7))=true then pure (.done (none,out.push x,ia+1,ib,mg,ac,bc))
 else pure (.yield (none,out.push x,ia+1,ib,mg,ac,bc))
noncomputable def lo2c (a b:AK) (mg:Nat) (out:AK) (ia ib ac bc:Nat):SM (ForInStep L2):=do
 let y ← elem' b ib
 if(ib+1 == b.size)=true then pure (.done (some (loDone a b (out.push y) ia (ib+1)),out.push y,ia,ib+1,mg,ac,bc))
 else do
  let x ← elem' a ia
  let c ← zbv true x b (ib+1) (b.size - (ib+1)) 0
  match c with
  |some k =>
   if k > 0 then
    if(ib+1+k == b.size)=true then pure (.done (some (loDone a b (out.push y++b.extract (ib+1) (ib+1+k)) ia (ib+1+k)),out.push y++b.extract (ib+1) (ib+1+k),ia,ib+1+k,mg,ac,k))
    else lo2d a b mg (out.push y++b.extract (ib+1) (ib+1+k)) ia (ib+1+k) ac k
   else lo2d a b mg (out.push y) ia (ib+1) ac k
  |_=>pure (.done (some (loDone a b (out.push y) ia (ib+1)),out.push y,ia,ib+1,mg,ac,bc))
noncomputable def lo2b (a b:AK) (out:AK) (ia ib ac bc mg:Nat):SM (ForInStep L2):=do
 setG' mg
 let y ← elem' b ib
 let c ← zbv false y a ia (a.size - ia) 0
 match c with
 |some k =>
  if k > 0 then
   if(ia+k+1 == a.size)=true then pure (.done (some (loLast a b (out++a.extract ia (ia+k)) (ia+k) ib),out++a.extract ia (ia+k),ia+k,ib,mg,k,bc))
   else if(ia+k == a.size)=true then pure (.done (some (loDone a b (out++a.extract ia (ia+k)) (ia+k) ib),out++a.extract ia (ia+k),ia+k,ib,mg,k,bc))
   else lo2c a b mg (out++a.extract ia (ia+k)) (ia+k) ib k bc
  else lo2c a b mg out ia ib k bc
 |_=>pure (.done (some (loDone a b out ia ib),out,ia,ib,mg,ac,bc))
noncomputable def lo2 (a b:AK) (out:AK) (ia ib mg ac bc:Nat):SM (ForInStep L2):=if mg > 1 then lo2b a b out ia ib ac bc (mg - 1) else lo2b a b out ia ib ac bc mg
noncomputable def lo0b (a b:AK) (out:AK) (ia ib mg ac bc:Nat):SM (ForInStep L0):=do
 liftM (rule "list.sort.gallop")
 let s ← forIn [0:a.size+b.size] ((none,out,ia,ib,mg+1,ac,bc):L2) fun z s=>lo2 a b s.2.1 s.2.2.1 s.2.2.2.1 s.2.2.2.2.1 s.2.2.2.2.2.1 s.2.2.2.2.2.2
 match s.1 with
 |some r=>pure (.done (some r,s.2.1,s.2.2.1,s.2.2.2.1,s.2.2.2.2.1))
 |none=>do
  setG' (s.2.2.2.2.1+1)
  pure (.yield (none,s.2.1,s.2.2.1,s.2.2.2.1,s.2.2.2.2.1+1))
noncomputable def lo0 (a b:AK) (out:AK) (ia ib mg:Nat):SM (ForInStep L0):=do
 let s ← forIn [0:a.size+b.size] ((none,out,ia,ib,0,0):L1) fun z s=>lo1 a b mg s.2.1 s.2.2.1 s.2.2.2.1 s.2.2.2.2.1 s.2.2.2.2.2
 match s.1 with
 |some r=>pure (.done (some r,s.2.1,s.2.2.1,s.2.2.2.1,mg))
 |none=>lo0b a b s.2.1 s.2.2.1 s.2.2.2.1 mg s.2.2.2.2.1 s.2.2.2.2.2
noncomputable def loAll (a b:AK):SM AK:=do
 liftM (rule "list.sort.merge-lo")
 let y ← elem' b 0
 if(1 == b.size)=true then pure (loDone a b #[y] 0 1)
 else if(0+1 == a.size)=true then pure (loLast a b #[y] 0 1)
 else do
  let t ← get
  let s ← forIn [0:a.size+b.size] ((none,#[y],0,1,gallopOf t):L0) fun z s=>lo0 a b s.2.1 s.2.2.1 s.2.2.2.1 s.2.2.2.2
  match s.1 with
  |some r=>pure r
  |none=>liftM (unsupported (α:=AK) "internal:list.sort.merge-bound")
theorem zgq (a b:AK):zek a b=loAll a b:=by kernel_rfl
section
variable {X:Sc}{p:List Nat}{pd:List (Nat × Nat × Nat)}{g:Nat}{a b o:List Nat}{ia ib m:Nat}{st:SortSt}
theorem zbd {l:List Nat}{i:Nat}(h:(i == (X.arr l).size)=true):i=l.length:=by rw[zaw] at h;exact eq_of_beq h
theorem zaP (h:¬(i == (X.arr l).size)=true) (hi:i≤l.length):i < l.length:=by
 rw[zaw] at h;exact Nat.lt_of_le_of_ne hi fun e=>h (by rw[e];exact beq_self_eq_true _)
theorem zee (h:Q () (X.st p pd n)):X.W (setG' n) Q (X.st p pd g):=W.modify h
theorem zqm (mp:MP X a b) (li:LI X a b m o ia ib){mg ac bc:Nat}{Q:SQ (ForInStep L1)}
  (hd:∀ o ia ib ac bc,LI X a b (m+1) o ia ib→Q (.done (none,X.arr o,ia,ib,ac,bc)) (X.st p pd g)) (hy:∀ o ia ib ac bc,LI X a b (m+1) o ia ib→Q (.yield (none,X.arr o,ia,ib,ac,bc)) (X.st p pd g))
  (hr:∀ r o,MR X a b r→Q (.done (some r,o)) (X.st p pd g)):X.W (lo1 (X.arr a) (X.arr b) mg (X.arr o) ia ib ac bc) Q (X.st p pd g):=by
 obtain⟨ml,h1,h2,h3⟩:=li;obtain⟨y,ey,dy⟩:=za0 h2;obtain⟨x,ex,dx⟩:=za0 (Nat.lt_of_succ_lt h1);have ua:=(List.pairwise_append.1 ml.ua).2.1;have ub:=(List.pairwise_append.1 ml.ub).2.1;rw[dx] at ua;rw[dy] at ub;have len:∀ z,m+1≤(o++[z]).length:=fun z=>by rw[zQ];exact Nat.succ_le_succ h3
 unfold lo1;refine W.bind (W.elem ey (W.bind (W.elem ex (W.bind (W.lt (mp.inb y (mem_of_getElem? ey)) (mp.ina x (mem_of_getElem? ex)) ?_)))));dsimp only;refine W.ite (fun c=>?_) (fun c=>?_)
 ·have lt:=zV c
  have ml':ML X a b (o++[y]) ia (ib+1):=(ml.swap.move (L1:=[y]) dy (fun z hz=>by cases zK.1 hz;rw[dx];exact zcc ua (Nat.le_of_lt lt))).swap
  refine W.bind (W.elem ey ?_);rw[zb7];refine W.ite (fun c=>W.pure (hr _ _ (ml'.doneB (zbd c)))) (fun c=>?_);have li:LI X a b (m+1) (o++[y]) ia (ib+1):=⟨ml',h1,zaP c h2,len y⟩;exact W.ite (fun u=>W.pure (hd _ _ _ _ _ li)) (fun u=>W.pure (hy _ _ _ _ _ li))
 ·have le:=Nat.le_of_not_lt fun h=>c (zW h)
  have ml':ML X a b (o++[x]) (ia+1) ib:=ml.move (L1:=[x]) dx (fun z hz=>by cases zK.1 hz;rw[dy];exact zcc ub le)
  refine W.bind (W.elem ex ?_);rw[zb7];refine W.ite (fun c=>W.pure (hr _ _ (ml'.last mp (zbd c)))) (fun c=>?_);have li:LI X a b (m+1) (o++[x]) (ia+1) ib:=⟨ml',zaP c h1,h2,len x⟩;exact W.ite (fun u=>W.pure (hd _ _ _ _ _ li)) (fun u=>W.pure (hy _ _ _ _ _ li))
theorem LI.less (h:LI X a b m o ia ib) (hm:m'≤m):LI X a b m' o ia ib:=⟨h.ml,h.ha,h.hb,zX hm h.hm⟩
inductive L1I (X:Sc) (a b:List Nat) (m:Nat) (p:List Nat) (pd:List (Nat × Nat × Nat)) (g x:Nat):L1→SortSt→Prop
 |mk {o:List Nat}{ia ib ac bc:Nat}(li:LI X a b (m+x) o ia ib):L1I X a b m p pd g x (none,X.arr o,ia,ib,ac,bc) (X.st p pd g)
theorem zlO (mp:MP X a b) (li:LI X a b m o ia ib)
  (hd:∀ o ia ib ac bc,LI X a b (m+1) o ia ib→Q (none,X.arr o,ia,ib,ac,bc) (X.st p pd g)) (hr:∀ r o,MR X a b r→Q (some r,o) (X.st p pd g)) :
  X.W (forIn [0:(X.arr a).size+(X.arr b).size] ((none,X.arr o,ia,ib,0,0):L1) fun z s=>lo1 (X.arr a) (X.arr b) mg s.2.1 s.2.2.1 s.2.2.2.1 s.2.2.2.2.1 s.2.2.2.2.2) Q (X.st p pd g):=by
 refine W.loop (L1I X a b m p pd g) (fun x c st' hx h=>?_) (fun c st' h=>?_) ⟨li⟩
 ·obtain⟨li⟩:=h
  exact zqm mp li (fun o ia ib ac bc h=>hd o ia ib ac bc (h.less (Nat.succ_le_succ (Nat.le_add_right ..)))) (fun o ia ib ac bc h=>⟨h⟩) hr
 ·obtain⟨li⟩:=h
  have:=li.bound;rw[zaw,zaw] at this;exact absurd this (Nat.not_lt_of_le (Nat.le_add_left ..))
end
section
variable {X:Sc}{p:List Nat}{pd:List (Nat × Nat × Nat)}{g:Nat}{a b o:List Nat}{ia ib m:Nat}{st:SortSt}
structure K2 (X:Sc) (a b p:List Nat) (pd:List (Nat × Nat × Nat)) (m:Nat) (Q:SQ (ForInStep L2)):Prop where
 dn:∀ o ia ib mg ac bc g,LI X a b m o ia ib→Q (.done (none,X.arr o,ia,ib,mg,ac,bc)) (X.st p pd g)
 yi:∀ o ia ib mg ac bc g,LI X a b m o ia ib→Q (.yield (none,X.arr o,ia,ib,mg,ac,bc)) (X.st p pd g)
 rt:∀ r o g,MR X a b r→Q (.done (some r,o)) (X.st p pd g)
theorem zjP (mp:MP X a b) (li:LI X a b m o ia ib) (le:∀ x,a[ia]?=some x→∀ y∈b.drop ib,X.r x≤X.r y){mg ac bc:Nat}{Q:SQ (ForInStep L2)}(k:K2 X a b p pd m Q):X.W (lo2d (X.arr a) (X.arr b) mg (X.arr o) ia ib ac bc) Q (X.st p pd g):=by
 obtain⟨ml,h1,h2,h3⟩:=li;obtain⟨x,ex,dx⟩:=za0 (Nat.lt_of_succ_lt h1);have ml':ML X a b (o++[x]) (ia+1) ib:=ml.move (L1:=[x]) dx (fun z hz=>by cases zK.1 hz;exact le x ex)
 unfold lo2d;refine W.bind (W.elem ex ?_);rw[zb7];refine W.ite (fun c=>W.pure (k.rt _ _ _ (ml'.last mp (zbd c)))) (fun c=>?_);have li:LI X a b m (o++[x]) (ia+1) ib:=⟨ml',zaP c h1,h2,by rw[zQ];exact zX h3 (Nat.le_add_right ..)⟩
 exact W.ite (fun u=>W.pure (k.dn _ _ _ _ _ _ _ li)) (fun u=>W.pure (k.yi _ _ _ _ _ _ _ li))
theorem zkO {l L1 L2:List Nat}{i:Nat}(e:l.drop i=L1++L2):(X.arr l).extract i (i+L1.length)=X.arr L1:=by
 rw[zdl,e,Nat.add_sub_cancel_left,take_left]
theorem zky {l:List Nat}(i:Nat):∀ j,j < (l.drop i).length→l[i+j]?=(l.drop i)[j]?:=fun j z=>List.getElem?_drop.symm
theorem znl {l L1 L2:List Nat}{i:Nat}(e:l.drop i=L1++L2) (h:i≤l.length):i+L1.length≤l.length:=by
 have:=congrArg List.length e;rw[length_drop,zQ] at this;exact zX (Nat.add_le_add_left (Nat.le_add_right L1.length L2.length) i) (by rw[←this,Nat.add_sub_cancel' h];exact Nat.le_refl _)
theorem zjQ (mp:MP X a b) (li:LI X a b m o ia ib) (le:∀ y,b[ib]?=some y→∀ x∈a.drop ia,X.r y≤X.r x){mg ac bc:Nat}{Q:SQ (ForInStep L2)}(k:K2 X a b p pd m Q):X.W (lo2c (X.arr a) (X.arr b) mg (X.arr o) ia ib ac bc) Q (X.st p pd g):=by
 obtain⟨ml,h1,h2,h3⟩:=li;obtain⟨y,ey,dy⟩:=za0 h2;obtain⟨x,ex,dx⟩:=za0 (Nat.lt_of_succ_lt h1);have ml':ML X a b (o++[y]) ia (ib+1):=(ml.swap.move (L1:=[y]) dy (fun z hz=>by cases zK.1 hz;exact le y ey)).swap
 have ua:=(List.pairwise_append.1 ml.ua).2.1;rw[dx] at ua;unfold lo2c;refine W.bind (W.elem ey ?_);rw[zb7];refine W.ite (fun c=>W.pure (k.rt _ _ _ (ml'.doneB (zbd c)))) (fun c=>?_);have h2':=zaP c h2;have h3':m≤(o++[y]).length:=by rw[zQ];exact zX h3 (Nat.le_add_right ..)
 refine W.bind (W.elem ex ?_);have eb:(X.arr b).size - (ib+1)=(b.drop (ib+1)).length:=by rw[zaw,length_drop]
 rw[eb];refine W.bind (W.mono (zdP (mp.ina x (mem_of_getElem? ex)) (zky (ib+1)) (List.pairwise_append.1 ml'.ub).2.1 (fun z hz=>mp.inb z (mem_of_mem_drop hz)) (by rw[length_drop];exact Nat.sub_pos_of_lt h2')) ?_)
 rintro c st' (@⟨L1,L2,e,c1,c2⟩)
 dsimp only;have x1:∀ x',a[ia]?=some x'→∀ y∈L2,X.r x'≤X.r y:=fun x' e' y hy=>by rw[ex] at e';cases e';exact zck.2 (c2 y hy)
 refine W.ite (fun u=>?_) (fun c=>?_)
 ·rw[zkO e,zaC]
  have ml2:ML X a b (o++[y]++L1) ia (ib+1+L1.length):=(ml'.swap.move e (fun z hz w hw=>by rw[dx] at hw;exact zcc ua (Nat.le_of_lt (zck.1 (c1 z hz))) w hw)).swap
  refine W.ite (fun c=>W.pure (k.rt _ _ _ (ml2.doneB (zbd c)))) (fun c=>?_);refine zjP mp ⟨ml2,h1,zaP c (znl e h2),by rw[zQ];exact zX h3' (Nat.le_add_right ..)⟩ (fun x' e' y hy=>x1 x' e' y ?_) k
  rw[←List.drop_drop,e,drop_left] at hy;exact hy
 ·have:L1=[]:=List.length_eq_zero_iff.1 (Nat.eq_zero_of_not_pos c)
  subst this;exact zjP mp ⟨ml',h1,h2',h3'⟩ (fun x' e' y hy=>x1 x' e' y (by rw[e] at hy;exact hy)) k
theorem zjR (mp:MP X a b) (li:LI X a b m o ia ib){mg ac bc:Nat}{Q:SQ (ForInStep L2)}(k:K2 X a b p pd m Q):X.W (lo2b (X.arr a) (X.arr b) (X.arr o) ia ib ac bc mg) Q (X.st p pd g):=by
 have li':=li;obtain⟨ml,h1,h2,h3⟩:=li';obtain⟨y,ey,dy⟩:=za0 h2;have ub:=(List.pairwise_append.1 ml.ub).2.1;rw[dy] at ub;unfold lo2b;refine W.bind (zee (W.bind (W.elem ey ?_)));have ea:(X.arr a).size - ia=(a.drop ia).length:=by rw[zaw,length_drop]
 rw[ea];have hia:=Nat.lt_of_succ_lt h1;refine W.bind (W.mono (zdP (mp.inb y (mem_of_getElem? ey)) (zky ia) (List.pairwise_append.1 ml.ua).2.1 (fun z hz=>mp.ina z (mem_of_mem_drop hz)) (by rw[length_drop];exact Nat.sub_pos_of_lt hia)) ?_)
 rintro c st' (@⟨L1,L2,e,c1,c2⟩)
 dsimp only;have x1:∀ y',b[ib]?=some y'→∀ x∈L2,X.r y'≤X.r x:=fun y' e' x hx=>by rw[ey] at e';cases e';exact Nat.le_of_lt (zaZ.2 (c2 x hx))
 refine W.ite (fun u=>?_) (fun c=>?_)
 ·rw[zkO e,zaC]
  have ml2:ML X a b (o++L1) (ia+L1.length) ib:=ml.move e (fun z hz w hw=>by rw[dy] at hw;exact zcc ub (zaZ.1 (c1 z hz)) w hw)
  refine W.ite (fun c=>W.pure (k.rt _ _ _ (ml2.last mp (zbd c)))) (fun c1=>?_);refine W.ite (fun c=>W.pure (k.rt _ _ _ (ml2.doneA (zbd c)))) (fun c2=>?_);refine zjQ mp ⟨ml2,zaP c1 (zaP c2 (znl e (Nat.le_of_lt hia))),h2,by rw[zQ];exact zX h3 (Nat.le_add_right ..)⟩ (fun x' e' y hy=>x1 x' e' y ?_) k
  rw[←List.drop_drop,e,drop_left] at hy;exact hy
 ·have:L1=[]:=List.length_eq_zero_iff.1 (Nat.eq_zero_of_not_pos c)
  subst this;exact zjQ mp li (fun x' e' y hy=>x1 x' e' y (by rw[e] at hy;exact hy)) k
inductive L2I (X:Sc) (a b:List Nat) (m:Nat) (p:List Nat) (pd:List (Nat × Nat × Nat)):L2→SortSt→Prop
 |mk {o:List Nat}{ia ib mg ac bc g:Nat}(li:LI X a b m o ia ib):L2I X a b m p pd (none,X.arr o,ia,ib,mg,ac,bc) (X.st p pd g)
inductive L0I (X:Sc) (a b p:List Nat) (pd:List (Nat × Nat × Nat)) (x:Nat):L0→SortSt→Prop
 |mk {o:List Nat}{ia ib mg g:Nat}(li:LI X a b (1+x) o ia ib):L0I X a b p pd x (none,X.arr o,ia,ib,mg) (X.st p pd g)
inductive MQ (X:Sc) (a b p:List Nat) (pd:List (Nat × Nat × Nat)):AK→SortSt→Prop
 |mk {r:AK}{g:Nat}(h:MR X a b r):MQ X a b p pd r (X.st p pd g)
theorem zlN (mp:MP X a b) (li:LI X a b m o ia ib){mg ac bc:Nat}{Q:SQ L2}
  (hd:∀ o ia ib mg ac bc g,LI X a b m o ia ib→Q (none,X.arr o,ia,ib,mg,ac,bc) (X.st p pd g)) (hr:∀ r o g,MR X a b r→Q (some r,o) (X.st p pd g)) :
  X.W (forIn [0:(X.arr a).size+(X.arr b).size] ((none,X.arr o,ia,ib,mg,ac,bc):L2) fun z s=>lo2 (X.arr a) (X.arr b) s.2.1 s.2.2.1 s.2.2.2.1 s.2.2.2.2.1 s.2.2.2.2.2.1 s.2.2.2.2.2.2) Q (X.st p pd g):=by
 refine W.loop (fun z=>L2I X a b m p pd) (fun x c st' hx h=>?_) (fun c st' h=>?_) ⟨li⟩
 ·obtain⟨li⟩:=h
  have k:K2 X a b p pd m (Nx Q (L2I X a b m p pd)):=⟨hd,fun o ia ib mg ac bc g h=>⟨h⟩,hr⟩;exact W.ite (fun z=>zjR mp li k) (fun z=>zjR mp li k)
 ·obtain⟨li⟩:=h
  exact hd _ _ _ _ _ _ _ li
theorem zlM (mp:MP X a b) (ua:X.Up a) (ub:X.Up b) (h1:0 < a.length) (h2:0 < b.length) (hle:∀ y,b[0]?=some y→∀ x∈a,X.r y≤X.r x) :
  X.W (zek (X.arr a) (X.arr b)) (MQ X a b p pd) (X.st p pd g):=by
 rw[zgq];unfold loAll;obtain⟨y,ey,dy⟩:=za0 h2;have ml:ML X a b [y] 0 1:=(ML.move (X:=X) (a:=b) (b:=a) (o:=[]) (ia:=0) (ib:=0) ⟨by rw[drop_zero,drop_zero];exact List.Perm.refl _,ub,ua⟩ (L1:=[y]) dy (fun z hz=>by cases zK.1 hz;exact hle y ey)).swap
 refine W.bind (W.rule (W.bind (W.elem ey ?_)));have e1:#[kas_item X.it y]=X.arr [y]:=rfl;rw[e1];refine W.ite (fun c=>W.pure ⟨ml.doneB (zbd c)⟩) (fun c1=>?_);refine W.ite (fun c=>W.pure ⟨ml.last mp (zbd c)⟩) (fun c2=>?_);refine W.bind (W.get (W.bind (W.loop (L0I X a b p pd) (fun x c st' hx h=>?_) (fun c st' h=>?_) ⟨ml,zaP c2 h1,zaP c1 h2,Nat.le_refl _⟩)))
 ·obtain⟨li⟩:=h
  refine W.bind (zlO mp li (fun o ia ib ac bc li=>?_) (fun r o hr=>W.pure (W.pure ⟨hr⟩)));refine W.bind (W.rule (W.bind (zlN mp li (fun o ia ib mg ac bc g li=>?_) (fun r o g hr=>W.pure (W.pure ⟨hr⟩)))));exact W.bind (zee (W.pure ⟨li⟩))
 ·obtain⟨li⟩:=h
  have:=li.bound;rw[zaw,zaw] at this;exact absurd this (Nat.not_lt_of_le (Nat.le_add_left ..))
end
noncomputable def zel:AK→AK→SM AK:=sortPriv% PySem.Builtin.mergeHi
noncomputable def hiDone (a b out:AK) (na nb:Nat):AK:=a.extract 0 na++b.extract 0 nb++out.reverse
noncomputable def hiFst (a b out:AK) (na nb:Nat):AK:=b.extract 0 nb++a.extract 0 na++out.reverse
abbrev H1:=Option AK × Nat × Nat × AK × Nat × Nat
abbrev H2:=Option AK × Nat × Nat × AK × Nat × Nat × Nat
abbrev H0:=Option AK × Nat × Nat × AK × Nat
noncomputable def hi1 (a b:AK) (mg:Nat) (na nb:Nat) (out:AK) (ac bc:Nat):SM (ForInStep H1):=do
 let y ← elem' b (nb - 1)
 let x ← elem' a (na - 1)
 let c ← lt' y x
 match c with
 |some w =>
  if w=true then do
   let x ← elem' a (na - 1)
   if(na - 1 == 0)=true then pure (.done (some (hiDone a b (out.push x) (na - 1) nb),na - 1,nb,out.push x,ac+1,0))
   else if ac+1 ≥ mg then pure (.done (none,na - 1,nb,out.push x,ac+1,0))
   else pure (.yield (none,na - 1,nb,out.push x,ac+1,0))
  else do
   let y ← elem' b (nb - 1)
   if(nb - 1 == 1)=true then pure (.done (some (hiFst a b (out.push y) na (nb - 1)),na,nb - 1,out.push y,0,bc+1))
   else if bc+1 ≥ mg then pure (.done (none,na,nb - 1,out.push y,0,bc+1))
   else pure (.yield (none,na,nb - 1,out.push y,0,bc+1))
 |_=>pure (.done (some (hiDone a b out na nb),na,nb,out,ac,bc))
noncomputable def hi2d (a b:AK) (mg:Nat) (na nb:Nat) (out:AK) (ac bc:Nat):SM (ForInStep H2):=do
 let x ← elem' a (na - 1)
 if(na - 1 == 0)=true then pure (.done (some (hiDone a b (out.push x) (na - 1) nb),na - 1,nb,out.push x,mg,ac,bc))
 else if(decide (ac < 7)&&decide (bc < 7))=true then pure (.done (none,na - 1,nb,out.push x,mg,ac,bc))
 else pure (.yield (none,na - 1,nb,out.push x,mg,ac,bc))
noncomputable def hi2c (a b:AK) (mg:Nat) (na nb:Nat) (out:AK) (ac bc:Nat):SM (ForInStep H2):=do
 let y ← elem' b (nb - 1)
 if(nb - 1 == 1)=true then pure (.done (some (hiFst a b (out.push y) na (nb - 1)),na,nb - 1,out.push y,mg,ac,bc))
 else do
  let x ← elem' a (na - 1)
  let c ← zbv true x b 0 (nb - 1) (nb - 1 - 1)
  match c with
  |some t =>
   if nb - 1 - t > 0 then
    if(t == 1)=true then pure (.done (some (hiFst a b (out.push y++(b.extract t (nb - 1)).reverse) na t),na,t,out.push y++(b.extract t (nb - 1)).reverse,mg,ac,nb - 1 - t))
    else if(t == 0)=true then pure (.done (some (hiDone a b (out.push y++(b.extract t (nb - 1)).reverse) na t),na,t,out.push y++(b.extract t (nb - 1)).reverse,mg,ac,nb - 1 - t))
    else hi2d a b mg na t (out.push y++(b.extract t (nb - 1)).reverse) ac (nb - 1 - t)
   else hi2d a b mg na (nb - 1) (out.push y) ac (nb - 1 - t)
  |_=>pure (.done (some (hiDone a b (out.push y) na (nb - 1)),na,nb - 1,out.push y,mg,ac,bc))
noncomputable def hi2b (a b:AK) (na nb:Nat) (out:AK) (ac bc mg:Nat):SM (ForInStep H2):=do
 setG' mg
 let y ← elem' b (nb - 1)
 let c ← zbv false y a 0 na (na - 1)
 match c with
 |some t =>
  if na - t > 0 then
   if(t == 0)=true then pure (.done (some (hiDone a b (out++(a.extract t na).reverse) t nb),t,nb,out++(a.extract t na).reverse,mg,na - t,bc))
   else hi2c a b mg t nb (out++(a.extract t na).reverse) (na - t) bc
  else hi2c a b mg na nb out (na - t) bc
 |_=>pure (.done (some (hiDone a b out na nb),na,nb,out,mg,ac,bc))
noncomputable def hi2 (a b:AK) (na nb:Nat) (out:AK) (mg ac bc:Nat):SM (ForInStep H2):=if mg > 1 then hi2b a b na nb out ac bc (mg - 1) else hi2b a b na nb out ac bc mg
noncomputable def hi0b (a b:AK) (na nb:Nat) (out:AK) (mg ac bc:Nat):SM (ForInStep H0):=do
 liftM (rule "list.sort.gallop")
 let s ← forIn [0:a.size+b.size] ((none,na,nb,out,mg+1,ac,bc):H2) fun z s=>hi2 a b s.2.1 s.2.2.1 s.2.2.2.1 s.2.2.2.2.1 s.2.2.2.2.2.1 s.2.2.2.2.2.2
 match s.1 with
 |some r=>pure (.done (some r,s.2.1,s.2.2.1,s.2.2.2.1,s.2.2.2.2.1))
 |none=>do
  setG' (s.2.2.2.2.1+1)
  pure (.yield (none,s.2.1,s.2.2.1,s.2.2.2.1,s.2.2.2.2.1+1))
noncomputable def hi0 (a b:AK) (na nb:Nat) (out:AK) (mg:Nat):SM (ForInStep H0):=do
 let s ← forIn [0:a.size+b.size] ((none,na,nb,out,0,0):H1) fun z s=>hi1 a b mg s.2.1 s.2.2.1 s.2.2.2.1 s.2.2.2.2.1 s.2.2.2.2.2
 match s.1 with
 |some r=>pure (.done (some r,s.2.1,s.2.2.1,s.2.2.2.1,mg))
 |none=>hi0b a b s.2.1 s.2.2.1 s.2.2.2.1 mg s.2.2.2.2.1 s.2.2.2.2.2
noncomputable def hiAll (a b:AK):SM AK:=do
 liftM (rule "list.sort.merge-hi")
 let x ← elem' a (a.size - 1)
 if(a.size - 1 == 0)=true then pure (hiDone a b #[x] (a.size - 1) b.size)
 else if(b.size == 1)=true then pure (hiFst a b #[x] (a.size - 1) b.size)
 else do
  let t ← get
  let s ← forIn [0:a.size+b.size] ((none,a.size - 1,b.size,#[x],gallopOf t):H0) fun z s=>hi0 a b s.2.1 s.2.2.1 s.2.2.2.1 s.2.2.2.2
  match s.1 with
  |some r=>pure r
  |none=>liftM (unsupported (α:=AK) "internal:list.sort.merge-bound")
theorem zgr (a b:AK):zel a b=hiAll a b:=by kernel_rfl
section
variable {X:Sc}{p:List Nat}{pd:List (Nat × Nat × Nat)}{g:Nat}{a b w:List Nat}{na nb m:Nat}{st:SortSt}
theorem zbx {α:Type}{l:List α}{i:Nat}(h:0 < i) (hi:i≤l.length):∃ y,l[i - 1]?=some y∧l.take i=l.take (i - 1)++[y]:=by
 obtain⟨j,rfl⟩:∃ j,i=j+1:=⟨i - 1,(Nat.sub_add_cancel h).symm⟩;exact⟨l[j],zM hi,(List.take_append_getElem hi).symm⟩
theorem zeS (l:List Nat):(X.arr l).reverse=X.arr l.reverse:=by unfold Sc.arr;rw[List.reverse_toArray,List.map_reverse]
theorem zcr (l:List Nat) (i:Nat):(X.arr l).extract 0 i=X.arr (l.take i):=by rw[zdl,drop_zero,Nat.sub_zero]
theorem zcb (h:X.Up (l++[x])) (hy:X.r x≤X.r y):∀ z∈l++[x],X.r z≤X.r y:=fun z hz=>by
 rcases zP.1 hz with hz|hz
 ·exact zX ((List.pairwise_append.1 h).2.2 z hz x (zK.2 rfl)) hy
 ·cases zK.1 hz;exact hy
structure MH (X:Sc) (a b w:List Nat) (na nb:Nat):Prop where
 pm:(a.take na++b.take nb++w).Perm (a++b)
 ua:X.Up (a.take na++w)
 ub:X.Up (b.take nb++w)
theorem MH.swap (h:MH X a b w na nb):MH X b a w nb na :=
 ⟨(List.perm_append_comm.append_right w).trans (h.pm.trans perm_append_comm),h.ub,h.ua⟩
theorem MH.move (h:MH X a b w na nb){L1 L2:List Nat}(e:a.take na=L1++L2) (hl:∀ x∈L2,∀ y∈b.take nb,X.r y≤X.r x):MH X a b (L2++w) L1.length nb:=by
 have e2:a.take L1.length=L1:=by
  have:(a.take na).take L1.length=L1:=by rw[e,take_left]
  rw[take_take] at this;have hle:L1.length≤na:=by
   have:=congrArg List.length e;rw[length_take,zQ] at this;exact zX (zX (Nat.le_add_right ..) (Nat.le_of_eq this.symm)) (Nat.min_le_left ..)
  rwa [Nat.min_eq_left hle] at this
 obtain⟨p,u,v⟩:=h;rw[e] at p u;have p':(L1++b.take nb++(L2++w)).Perm (a++b):=by
  refine List.Perm.trans ?_ p;rw[←yJ];refine List.Perm.append_right w ?_;rw[yJ,yJ];exact List.perm_append_comm.append_left L1
 refine⟨by rw[e2];exact p',by rw[e2,← yJ];exact u,?_⟩
 obtain⟨u1,u2,u3⟩:=List.pairwise_append.1 u;obtain⟨v1,v2,v3⟩:=List.pairwise_append.1 v;refine List.pairwise_append.2 ⟨v1,List.pairwise_append.2 ⟨(List.pairwise_append.1 u1).2.1,v2,fun x hx=>u3 x (mem_append_right _ hx)⟩,fun y hy x hx=>?_⟩
 rcases zP.1 hx with hx|hx
 ·exact hl x hx y hy
 ·exact v3 y hy x hx
theorem MH.one (h:MH X a b w na nb) (h0:0 < na) (hn:na≤a.length) (e:a.take na=a.take (na - 1)++[x]) (hl:∀ y∈b.take nb,X.r y≤X.r x):MH X a b (x::w) (na - 1) nb:=by
 have:=h.move e fun z hz=>by cases zK.1 hz;exact hl
 rwa [length_take,Nat.min_eq_left (zX (Nat.sub_le _ _) hn)] at this
structure HP (X:Sc) (a b:List Nat):Prop where
 ina:X.In a
 inb:X.In b
 first:∀ y,b[0]?=some y→∀ x∈a,X.r y≤X.r x
theorem MH.doneA (h:MH X a b w na nb) (e:na=0):MR X a b (hiDone (X.arr a) (X.arr b) (X.arr w.reverse) na nb):=by
 unfold hiDone;rw[zcr,zcr,zeS,reverse_reverse,zaC,zaC];subst e;exact⟨_,rfl,h.ub,h.pm⟩
theorem MH.doneB (h:MH X a b w na nb) (e:nb=0):MR X a b (hiDone (X.arr a) (X.arr b) (X.arr w.reverse) na nb):=by
 unfold hiDone;rw[zcr,zcr,zeS,reverse_reverse,zaC,zaC];subst e;exact⟨_,rfl,by rw[take_zero,append_nil];exact h.ua,h.pm⟩
theorem MH.fst (h:MH X a b w na nb) (mp:HP X a b) (e:nb=1):MR X a b (hiFst (X.arr a) (X.arr b) (X.arr w.reverse) na nb):=by
 unfold hiFst;rw[zcr,zcr,zeS,reverse_reverse,zaC,zaC];subst e;refine⟨_,rfl,?_,(List.perm_append_comm.append_right w).trans h.pm⟩;rw[yJ];obtain⟨v1,v2,v3⟩:=List.pairwise_append.1 h.ub;refine List.pairwise_append.2 ⟨v1,h.ua,fun y hy x hx=>?_⟩
 rcases zP.1 hx with hx|hx
 ·obtain⟨i,hi,ey⟩:=List.mem_take_iff_getElem.1 hy
  have:i=0:=Nat.lt_one_iff.1 (Nat.lt_of_lt_of_le hi (Nat.min_le_left ..));subst this;exact mp.first y (by rw[←ey];exact zM _) x (mem_of_mem_take hx)
 ·exact v3 y hy x hx
structure HI (X:Sc) (a b:List Nat) (m:Nat) (w:List Nat) (na nb:Nat):Prop where
 mh:MH X a b w na nb
 ha:0 < na
 la:na≤a.length
 hb:1 < nb
 lb:nb≤b.length
 hm:m≤w.length
theorem zlF {w a b i j m:Nat}(e:min i a+min j b+w=a+b) (h:0 < i) (hl:i≤a) (hm:m≤w):m < a+b:=by
 rw[←e,Nat.min_eq_left hl];exact Nat.lt_of_le_of_lt hm (Nat.lt_add_of_pos_left (Nat.add_pos_left h _))
theorem HI.bound (h:HI X a b m w na nb):m < a.length+b.length:=by
 have:=h.mh.pm.length_eq;simp only[zQ,length_take] at this;exact zlF this h.ha h.la h.hm
theorem HI.less (h:HI X a b m w na nb) (hm:m'≤m):HI X a b m' w na nb:=⟨h.mh,h.ha,h.la,h.hb,h.lb,zX hm h.hm⟩
theorem zcF (w:List Nat) (x:Nat):(X.arr w.reverse).push (kas_item X.it x)=X.arr (x::w).reverse:=by rw[zb7,reverse_cons]
theorem ne0 (h:¬(i == 0)=true):0 < i:=Nat.pos_of_ne_zero fun e=>h (by rw[e];rfl)
theorem ne1 (h:¬(i == 1)=true) (h0:0 < i):1 < i:=Nat.lt_of_le_of_ne h0 fun e=>h (by rw[←e];rfl)
theorem zqB (mp:HP X a b) (li:HI X a b m w na nb){mg ac bc:Nat}{Q:SQ (ForInStep H1)}
  (hd:∀ w na nb ac bc,HI X a b (m+1) w na nb→Q (.done (none,na,nb,X.arr w.reverse,ac,bc)) (X.st p pd g)) (hy:∀ w na nb ac bc,HI X a b (m+1) w na nb→Q (.yield (none,na,nb,X.arr w.reverse,ac,bc)) (X.st p pd g))
  (hr:∀ r o,MR X a b r→Q (.done (some r,o)) (X.st p pd g)):X.W (hi1 (X.arr a) (X.arr b) mg na nb (X.arr w.reverse) ac bc) Q (X.st p pd g):=by
 obtain⟨mh,h1,h2,h3,h4,h5⟩:=li;have h3':=Nat.lt_of_succ_lt h3;obtain⟨y,ey,dy⟩:=zbx h3' h4;obtain⟨x,ex,dx⟩:=zbx h1 h2;have ua:=(List.pairwise_append.1 mh.ua).1;have ub:=(List.pairwise_append.1 mh.ub).1;rw[dx] at ua;rw[dy] at ub;unfold hi1;refine W.bind (W.elem ey (W.bind (W.elem ex (W.bind (W.lt (mp.inb y (mem_of_getElem? ey)) (mp.ina x (mem_of_getElem? ex)) ?_)))));dsimp only;refine W.ite (fun c=>?_) (fun c=>?_)
 ·have lt:=zV c
  have mh':=mh.one h1 h2 dx (by rw[dy];exact zcb ub (Nat.le_of_lt lt))
  refine W.bind (W.elem ex ?_);rw[zcF];refine W.ite (fun c=>W.pure (hr _ _ (mh'.doneA (eq_of_beq c)))) (fun c=>?_);have li:HI X a b (m+1) (x::w) (na - 1) nb:=⟨mh',ne0 c,zX (Nat.sub_le _ _) h2,h3,h4,Nat.succ_le_succ h5⟩;exact W.ite (fun z=>W.pure (hd _ _ _ _ _ li)) (fun z=>W.pure (hy _ _ _ _ _ li))
 ·have le:=Nat.le_of_not_lt fun h=>c (zW h)
  have mh':=(mh.swap.one h3' h4 dy (by rw[dx];exact zcb ua le)).swap
  refine W.bind (W.elem ey ?_);rw[zcF];refine W.ite (fun c=>W.pure (hr _ _ (mh'.fst mp (eq_of_beq c)))) (fun c=>?_);have li:HI X a b (m+1) (y::w) na (nb - 1):=⟨mh',h1,h2,ne1 c (Nat.sub_pos_of_lt h3),zX (Nat.sub_le _ _) h4,Nat.succ_le_succ h5⟩;exact W.ite (fun z=>W.pure (hd _ _ _ _ _ li)) (fun z=>W.pure (hy _ _ _ _ _ li))
inductive H1I (X:Sc) (a b:List Nat) (m:Nat) (p:List Nat) (pd:List (Nat × Nat × Nat)) (g x:Nat):H1→SortSt→Prop
 |mk {w:List Nat}{na nb ac bc:Nat}(li:HI X a b (m+x) w na nb):H1I X a b m p pd g x (none,na,nb,X.arr w.reverse,ac,bc) (X.st p pd g)
theorem zmc (mp:HP X a b) (li:HI X a b m w na nb)
  (hd:∀ w na nb ac bc,HI X a b (m+1) w na nb→Q (none,na,nb,X.arr w.reverse,ac,bc) (X.st p pd g)) (hr:∀ r o,MR X a b r→Q (some r,o) (X.st p pd g)) :
  X.W (forIn [0:(X.arr a).size+(X.arr b).size] ((none,na,nb,X.arr w.reverse,0,0):H1) fun z s=>hi1 (X.arr a) (X.arr b) mg s.2.1 s.2.2.1 s.2.2.2.1 s.2.2.2.2.1 s.2.2.2.2.2) Q (X.st p pd g):=by
 refine W.loop (H1I X a b m p pd g) (fun x c st' hx h=>?_) (fun c st' h=>?_) ⟨li⟩
 ·obtain⟨li⟩:=h
  exact zqB mp li (fun w na nb ac bc h=>hd w na nb ac bc (h.less (Nat.succ_le_succ (Nat.le_add_right ..)))) (fun w na nb ac bc h=>⟨h⟩) hr
 ·obtain⟨li⟩:=h
  have:=li.bound;rw[zaw,zaw] at this;exact absurd this (Nat.not_lt_of_le (Nat.le_add_left ..))
end
section
variable {X:Sc}{p:List Nat}{pd:List (Nat × Nat × Nat)}{g:Nat}{a b w:List Nat}{na nb m:Nat}{st:SortSt}
structure J2 (X:Sc) (a b p:List Nat) (pd:List (Nat × Nat × Nat)) (m:Nat) (Q:SQ (ForInStep H2)):Prop where
 dn:∀ w na nb mg ac bc g,HI X a b m w na nb→Q (.done (none,na,nb,X.arr w.reverse,mg,ac,bc)) (X.st p pd g)
 yi:∀ w na nb mg ac bc g,HI X a b m w na nb→Q (.yield (none,na,nb,X.arr w.reverse,mg,ac,bc)) (X.st p pd g)
 rt:∀ r o g,MR X a b r→Q (.done (some r,o)) (X.st p pd g)
theorem zkb (li:HI X a b m w na nb) (le:∀ x,a[na - 1]?=some x→∀ y∈b.take nb,X.r y≤X.r x){mg ac bc:Nat}{Q:SQ (ForInStep H2)}(k:J2 X a b p pd m Q):X.W (hi2d (X.arr a) (X.arr b) mg na nb (X.arr w.reverse) ac bc) Q (X.st p pd g):=by
 obtain⟨mh,h1,h2,h3,h4,h5⟩:=li;obtain⟨x,ex,dx⟩:=zbx h1 h2;have mh':=mh.one h1 h2 dx (le x ex);unfold hi2d;refine W.bind (W.elem ex ?_);rw[zcF];refine W.ite (fun c=>W.pure (k.rt _ _ _ (mh'.doneA (eq_of_beq c)))) (fun c=>?_);have li:HI X a b m (x::w) (na - 1) nb:=⟨mh',ne0 c,zX (Nat.sub_le _ _) h2,h3,h4,Nat.le_succ_of_le h5⟩;exact W.ite (fun z=>W.pure (k.dn _ _ _ _ _ _ _ li)) (fun z=>W.pure (k.yi _ _ _ _ _ _ _ li))
theorem zi6 {l:List Nat}(i:Nat):∀ j,j < (l.take i).length→l[0+j]?=(l.take i)[j]?:=fun j hj=>by
 rw[Nat.zero_add,List.getElem?_take_of_lt (Nat.lt_of_lt_of_le hj (by rw[length_take];exact Nat.min_le_left ..))]
theorem zjD {l L1 L2:List Nat}{i:Nat}(e:l.take i=L1++L2):X.arr w.reverse++((X.arr l).extract L1.length i).reverse=X.arr (L2++w).reverse:=by
 have:(l.drop L1.length).take (i - L1.length)=L2:=by
  rw[←List.drop_take,e,drop_left]
 rw[zdl,this,zeS,zaC,← List.reverse_append]
theorem zbE {l:List Nat}{i:Nat}(h:i≤l.length):(l.take i).length=i:=by rw[length_take,Nat.min_eq_left h]
theorem zkB {l L1 L2:List Nat}{i:Nat}(e:l.take i=L1++L2) (h:i≤l.length):L1.length≤i:=by
 rw[←zbE h,e,zQ];exact Nat.le_add_right ..
theorem zkA {l L1 L2:List Nat}{i:Nat}(e:l.take i=L1++L2) (h:i≤l.length) (c:¬i - L1.length > 0):l.take i=L1:=by
 have hl:=zbE h;rw[e,zQ] at hl;have:L2=[]:=List.length_eq_zero_iff.1 (Nat.eq_zero_of_not_pos (by rw[←hl,Nat.add_sub_cancel_left] at c;exact c))
 rw[e,this,append_nil]
theorem zkc (mp:HP X a b) (li:HI X a b m w na nb) (le:∀ y,b[nb - 1]?=some y→∀ x∈a.take na,X.r x≤X.r y){mg ac bc:Nat}{Q:SQ (ForInStep H2)}(k:J2 X a b p pd m Q):X.W (hi2c (X.arr a) (X.arr b) mg na nb (X.arr w.reverse) ac bc) Q (X.st p pd g):=by
 obtain⟨mh,h1,h2,h3,h4,h5⟩:=li;have h3':=Nat.lt_of_succ_lt h3;obtain⟨y,ey,dy⟩:=zbx h3' h4;obtain⟨x,ex,dx⟩:=zbx h1 h2;have mh':=(mh.swap.one h3' h4 dy (le y ey)).swap;have ua:=(List.pairwise_append.1 mh.ua).1;rw[dx] at ua;unfold hi2c;refine W.bind (W.elem ey ?_);rw[zcF];refine W.ite (fun c=>W.pure (k.rt _ _ _ (mh'.fst mp (eq_of_beq c)))) (fun c=>?_);have b1:=ne1 c (Nat.sub_pos_of_lt h3);have b2:nb - 1≤b.length:=zX (Nat.sub_le _ _) h4
 have h5':m≤(y::w).length:=Nat.le_succ_of_le h5;refine W.bind (W.elem ex ?_);have gk:=zdP (p:=p) (pd:=pd) (g:=g) (left:=true) (hint:=nb - 1 - 1) (mp.ina x (mem_of_getElem? ex)) (zi6 (nb - 1)) (List.pairwise_append.1 mh'.ub).1 (fun z hz=>mp.inb z (mem_of_mem_take hz)) (by rw[zbE b2];exact Nat.sub_lt (Nat.lt_of_succ_lt b1) Nat.one_pos)
 rw[zbE b2] at gk;refine W.bind (W.mono gk ?_)
 rintro c st' (@⟨L1,L2,e,c1,c2⟩)
 dsimp only;have x1:∀ x',a[na - 1]?=some x'→∀ y∈L1,X.r y≤X.r x':=fun x' e' y hy=>by rw[ex] at e';cases e';exact Nat.le_of_lt (zck.1 (c1 y hy))
 refine W.ite (fun u=>?_) (fun c=>?_)
 ·rw[zjD e]
  have mh2:=(mh'.swap.move e (fun z hz t ht=>by rw[dx] at ht;exact zcb ua (zck.2 (c2 z hz)) t ht)).swap
  refine W.ite (fun c=>W.pure (k.rt _ _ _ (mh2.fst mp (eq_of_beq c)))) (fun c1=>?_);refine W.ite (fun c=>W.pure (k.rt _ _ _ (mh2.doneB (eq_of_beq c)))) (fun c2=>?_);have hl:=zkB e b2;have et:b.take L1.length=L1:=by
   have:=congrArg (List.take L1.length) e
   rwa [take_take,Nat.min_eq_left hl,take_left] at this
  exact zkb ⟨mh2,h1,h2,ne1 c1 (ne0 c2),zX hl b2,by rw[zQ];exact zX h5' (Nat.le_add_left ..)⟩ (fun x' e' y hy=>x1 x' e' y (by rwa [et] at hy)) k
 ·have e1:=zkA e b2 c
  exact zkb ⟨mh',h1,h2,b1,b2,h5'⟩ (fun x' e' y hy=>x1 x' e' y (by rwa [e1] at hy)) k
theorem zkd (mp:HP X a b) (li:HI X a b m w na nb){mg ac bc:Nat}{Q:SQ (ForInStep H2)}(k:J2 X a b p pd m Q):X.W (hi2b (X.arr a) (X.arr b) na nb (X.arr w.reverse) ac bc mg) Q (X.st p pd g):=by
 have li':=li;obtain⟨mh,h1,h2,h3,h4,h5⟩:=li';obtain⟨y,ey,dy⟩:=zbx (Nat.lt_of_succ_lt h3) h4;have ub:=(List.pairwise_append.1 mh.ub).1;rw[dy] at ub;unfold hi2b;refine W.bind (zee (W.bind (W.elem ey ?_)));have gk:=zdP (p:=p) (pd:=pd) (g:=mg) (left:=false) (hint:=na - 1) (mp.inb y (mem_of_getElem? ey)) (zi6 na) (List.pairwise_append.1 mh.ua).1 (fun z hz=>mp.ina z (mem_of_mem_take hz)) (by rw[zbE h2];exact Nat.sub_lt h1 Nat.one_pos)
 rw[zbE h2] at gk;refine W.bind (W.mono gk ?_)
 rintro c st' (@⟨L1,L2,e,c1,c2⟩)
 dsimp only;have x1:∀ y',b[nb - 1]?=some y'→∀ x∈L1,X.r x≤X.r y':=fun y' e' x hx=>by rw[ey] at e';cases e';exact zaZ.1 (c1 x hx)
 refine W.ite (fun u=>?_) (fun c=>?_)
 ·rw[zjD e]
  have mh2:=mh.move e (fun z hz t ht=>by rw[dy] at ht;exact zcb ub (Nat.le_of_lt (zaZ.2 (c2 z hz))) t ht)
  refine W.ite (fun c=>W.pure (k.rt _ _ _ (mh2.doneA (eq_of_beq c)))) (fun c1=>?_);have hl:=zkB e h2;have et:a.take L1.length=L1:=by
   have:=congrArg (List.take L1.length) e
   rwa [take_take,Nat.min_eq_left hl,take_left] at this
  exact zkc mp ⟨mh2,ne0 c1,zX hl h2,h3,h4,by rw[zQ];exact zX h5 (Nat.le_add_left ..)⟩ (fun x' e' y hy=>x1 x' e' y (by rwa [et] at hy)) k
 ·have e1:=zkA e h2 c
  exact zkc mp li (fun x' e' y hy=>x1 x' e' y (by rwa [e1] at hy)) k
inductive H2I (X:Sc) (a b:List Nat) (m:Nat) (p:List Nat) (pd:List (Nat × Nat × Nat)):H2→SortSt→Prop
 |mk {w:List Nat}{na nb mg ac bc g:Nat}(li:HI X a b m w na nb):H2I X a b m p pd (none,na,nb,X.arr w.reverse,mg,ac,bc) (X.st p pd g)
inductive H0I (X:Sc) (a b p:List Nat) (pd:List (Nat × Nat × Nat)) (x:Nat):H0→SortSt→Prop
 |mk {w:List Nat}{na nb mg g:Nat}(li:HI X a b (1+x) w na nb):H0I X a b p pd x (none,na,nb,X.arr w.reverse,mg) (X.st p pd g)
theorem zmb (mp:HP X a b) (li:HI X a b m w na nb){mg ac bc:Nat}{Q:SQ H2}
  (hd:∀ w na nb mg ac bc g,HI X a b m w na nb→Q (none,na,nb,X.arr w.reverse,mg,ac,bc) (X.st p pd g)) (hr:∀ r o g,MR X a b r→Q (some r,o) (X.st p pd g)) :
  X.W (forIn [0:(X.arr a).size+(X.arr b).size] ((none,na,nb,X.arr w.reverse,mg,ac,bc):H2) fun z s=>hi2 (X.arr a) (X.arr b) s.2.1 s.2.2.1 s.2.2.2.1 s.2.2.2.2.1 s.2.2.2.2.2.1 s.2.2.2.2.2.2) Q (X.st p pd g):=by
 refine W.loop (fun z=>H2I X a b m p pd) (fun x c st' hx h=>?_) (fun c st' h=>?_) ⟨li⟩
 ·obtain⟨li⟩:=h
  have k:J2 X a b p pd m (Nx Q (H2I X a b m p pd)):=⟨hd,fun w na nb mg ac bc g h=>⟨h⟩,hr⟩;exact W.ite (fun z=>zkd mp li k) (fun z=>zkd mp li k)
 ·obtain⟨li⟩:=h
  exact hd _ _ _ _ _ _ _ li
theorem zma (mp:HP X a b) (ua:X.Up a) (ub:X.Up b) (h1:0 < a.length) (h2:0 < b.length) (hle:∀ x,a[a.length - 1]?=some x→∀ y∈b,X.r y≤X.r x) :
  X.W (zel (X.arr a) (X.arr b)) (MQ X a b p pd) (X.st p pd g):=by
 rw[zgr];unfold hiAll;obtain⟨x,ex,dx⟩:=zbx h1 (Nat.le_refl _);have tb:=take_of_length_le (Nat.le_refl b.length);have ta:=take_of_length_le (Nat.le_refl a.length);have mh:MH X a b [x] (a.length - 1) b.length:=MH.one (w:=[]) ⟨by rw[ta,tb,append_nil],by rw[ta,append_nil];exact ua,by rw[tb,append_nil];exact ub⟩ h1 (Nat.le_refl _) dx (by rw[tb];exact hle x ex)
 have ea:(X.arr a).size=a.length:=zaw a;have eb:(X.arr b).size=b.length:=zaw b;refine W.bind (W.rule (W.bind (W.elem (by rw[ea];exact ex) ?_)))
 have e1:#[kas_item X.it x]=X.arr [x].reverse:=rfl;rw[e1,ea,eb];refine W.ite (fun c=>W.pure ⟨mh.doneA (eq_of_beq c)⟩) (fun c1=>?_);refine W.ite (fun c=>W.pure ⟨mh.fst mp (eq_of_beq c)⟩) (fun c2=>?_);refine W.bind (W.get (W.bind (W.loop (H0I X a b p pd) (fun x c st' hx h=>?_) (fun c st' h=>?_) ⟨mh,ne0 c1,Nat.sub_le _ _,ne1 c2 h2,Nat.le_refl _,Nat.le_refl _⟩)))
 ·obtain⟨li⟩:=h
  refine W.bind (zmc mp li (fun w na nb ac bc li=>?_) (fun r o hr=>W.pure (W.pure ⟨hr⟩)));refine W.bind (W.rule (W.bind (zmb mp li (fun w na nb mg ac bc g li=>?_) (fun r o g hr=>W.pure (W.pure ⟨hr⟩)))));exact W.bind (zee (W.pure ⟨li⟩))
 ·obtain⟨li⟩:=h
  exact absurd li.bound (Nat.not_lt_of_le (Nat.le_add_left ..))
end
noncomputable def maEnd (sa:Nat) (merged:AK):SM Bool:=do
 modify fun s=>setArr s (merged.toList.zipIdx.foldl (fun a x=>a.setIfInBounds (sa+x.2) x.1) (arrOf s))
 let t ← get
 pure (failedOf t).isNone
noncomputable def maB (arr:AK) (sa na sb nb:Nat):SM Bool :=
 if(na == 0)=true then pure true else do
  let x ← elem' arr (sa+na - 1)
  let c ← zbv true x arr sb nb (nb - 1)
  match c with
  |some nb=>if(nb == 0)=true then pure true else if na≤nb then(zek (arr.extract sa sb) (arr.extract sb (sb+nb))) >>= maEnd sa else(zel (arr.extract sa sb) (arr.extract sb (sb+nb))) >>= maEnd sa
  |_=>pure false
noncomputable def maA (arr:AK) (sa na sb nb:Nat):SM Bool:=do
 let y ← elem' arr sb
 let c ← zbv false y arr sa na 0
 match c with
 |some k=>maB arr (sa+k) (na - k) sb nb
 |_=>pure false
noncomputable def maAll (i:Nat):SM Bool:=do
 let s ← get
 match ((pendingOf s)[i]?,(pendingOf s)[i+1]?) with
 |(some (sa,na,power),some (sb,nb,_))=>do
  set (setPending s (((pendingOf s).setIfInBounds i (sa,na+nb,power)).eraseIdxIfInBounds (i+1)))
  maA (arrOf s) sa na sb nb
 |_=>liftM (unsupported (α:=Bool) "internal:list.sort.pending")
theorem zgs (i:Nat):mergeAt' i=maAll i:=rfl
section
variable {X:Sc}{st:SortSt}
theorem W.set {st':SortSt}(h:Q ⟨⟩ st'):X.W (MonadStateOf.set st') Q st:=by
 unfold Sc.W wpS;rw[StateT.run_set];exact yW ⟨rfl,h⟩
theorem zgV:∀ (o M pre:List Nat) (k:Nat),o.length=M.length→pre.length=sa+k →
  ((o.map (kas_item X.it)).zipIdx k).foldl (fun a x=>a.setIfInBounds (sa+x.2) x.1) (X.arr (pre++(M++post)))=X.arr (pre++(o++post))
 |[],[],_,_,_,_=>rfl
 |z::o,m::M,pre,k,h1,h2=>by
  rw[yY,List.zipIdx_cons,List.foldl_cons];have e:(X.arr (pre++(m::M++post))).setIfInBounds (sa+k) (kas_item X.it z)=X.arr (pre++[z]++(M++post)):=by
   unfold Sc.arr;rw[List.setIfInBounds_toArray,map_append,set_append_right _ _ (by rw[zJ,h2];exact Nat.le_refl _),zJ,h2,Nat.sub_self,yJ pre [z],map_append (l₁:=pre)]
   rfl
  show List.foldl _ ((X.arr (pre++(m::M++post))).setIfInBounds (sa+k) (kas_item X.it z)) _=_;rw[e,zgV o M (pre++[z]) (k+1) (Nat.succ.inj h1) (by rw[zQ,h2];rfl),yJ]
  rfl
theorem zlJ (h:o.length=M.length) (hq:Q true (X.st (pre++(o++post)) pd g)):X.W (maEnd pre.length (X.arr o)) Q (X.st (pre++(M++post)) pd g):=by
 refine W.bind (W.modify (W.bind (W.get (W.pure ?_))));have e:=zgV (X:=X) (post:=post) o M pre 0 h rfl;show Q true (SortSt.mk' X.κ ((X.arr o).toList.zipIdx.foldl (fun a x=>a.setIfInBounds (pre.length+x.2) x.1) (X.arr (pre++(M++post)))) pd.toArray g none);rw[show(X.arr o).toList=o.map (kas_item X.it) from rfl,e];exact hq
theorem zdm (l3:List Nat) (h:i < l2.length):(l1++(l2++l3))[l1.length+i]?=l2[i]?:=by
 rw[List.getElem?_append_right (Nat.le_add_right ..),Nat.add_sub_cancel_left,List.getElem?_append_left h]
theorem zkN (l1 l2 l3:List Nat) (h1:i=l1.length) (h2:j=l1.length+l2.length):(X.arr (l1++(l2++l3))).extract i j=X.arr l2:=by
 rw[zdl,h1,h2,drop_left,Nat.add_sub_cancel_left,take_left]
structure MA (X:Sc) (P0 A B R:List Nat):Prop where
 ia:X.In A
 ib:X.In B
 ua:X.Up A
 ub:X.Up B
 ha:0 < A.length
 hb:0 < B.length
inductive MC (X:Sc) (P0 A B R:List Nat) (pd:List (Nat × Nat × Nat)):Bool→SortSt→Prop
 |mk {C:List Nat}{g:Nat}(u:X.Up C) (p:C.Perm (A++B)):MC X P0 A B R pd true (X.st (P0++(C++R)) pd g)
variable {P0 A B R:List Nat}{pd:List (Nat × Nat × Nat)}{g:Nat}
theorem MA.same (m:MA X P0 A B R) (h:∀ x∈A,∀ y∈B,X.r x≤X.r y):MC X P0 A B R pd true (X.st (P0++(A++(B++R))) pd g) :=
 by rw[←yJ A B R];exact⟨List.pairwise_append.2 ⟨m.ua,m.ub,h⟩,List.Perm.refl _⟩
theorem zqj (m:MA X P0 (A0++A1) (B0++B1) R) (ou:X.Up o) (op:o.Perm (A1++B0)) (h1:∀ x∈A0,∀ y∈B0++B1,X.r x≤X.r y) (h2:∀ x∈A1,∀ y∈B1,X.r x≤X.r y) :
  MC X P0 (A0++A1) (B0++B1) R pd true (X.st (P0++A0++(o++(B1++R))) pd g):=by
 rw[yJ,← yJ o,← yJ A0];refine⟨?_,?_⟩
 ·obtain⟨a1,a2,a3⟩:=List.pairwise_append.1 m.ua
  obtain⟨b1,b2,b3⟩:=List.pairwise_append.1 m.ub;refine List.pairwise_append.2 ⟨a1,List.pairwise_append.2 ⟨ou,b2,fun x hx y hy=>?_⟩,fun x hx y hy=>?_⟩
  ·rcases zP.1 (op.mem_iff.1 hx) with hx|hx
   ·exact h2 x hx y hy
   ·exact b3 x hx y hy
  ·rcases zP.1 hy with hy|hy
   ·rcases zP.1 (op.mem_iff.1 hy) with hy|hy
    ·exact a3 x hx y hy
    ·exact h1 x hx y (mem_append_left _ hy)
   ·exact h1 x hx y (mem_append_right _ hy)
 ·rw[yJ]
  refine List.Perm.append_left A0 ?_;rw[←yJ];exact op.append_right B1
theorem zqk {A0 A1:List Nat}(m:MA X P0 (A0++A1) B R){y:Nat}(ey:B[0]?=some y) (h1:∀ x∈A0,X.r x≤X.r y) (h2:∀ x∈A1,X.r y < X.r x) :
  X.W (maB (X.arr (P0++(A0++A1++(B++R)))) (P0.length+A0.length) (A0++A1 |>.length |> (·- A0.length)) (P0.length+(A0++A1).length) B.length) (MC X P0 (A0++A1) B R pd) (X.st (P0++(A0++A1++(B++R))) pd g):=by
 have eA:(A0++A1).length - A0.length=A1.length:=by rw[zQ,Nat.add_sub_cancel_left]
 show X.W (maB _ _ ((A0++A1).length - A0.length) _ _) _ _;rw[eA];have hB:∀ z∈B,X.r y≤X.r z:=by
  obtain⟨y',e',d⟩:=za0 m.hb;rw[ey] at e';cases e'
  have:=m.ub;rw[drop_zero] at d;rw[d] at this ⊢
  exact zcc this (Nat.le_refl _)
 have h0:∀ x∈A0,∀ z∈B,X.r x≤X.r z:=fun x hx z hz=>zX (h1 x hx) (hB z hz);unfold maB;refine W.ite (fun c=>?_) (fun c=>?_)
 ·have:A1=[]:=List.length_eq_zero_iff.1 (eq_of_beq c)
  subst this;exact W.pure (m.same (by rw[append_nil];exact h0))
 ·have a1:=ne0 c
  obtain⟨x,ex,dx⟩:=zbx a1 (Nat.le_refl _);rw[take_of_length_le (Nat.le_refl _)] at dx;have xl:∀ z∈A0++A1,X.r z≤X.r x:=by
   have:=m.ua;rw[dx,← yJ] at this ⊢
   exact zcb this (Nat.le_refl _)
  have ex':(P0++(A0++A1++(B++R)))[P0.length+A0.length+A1.length - 1]?=some x:=by
   rw[←ex,Nat.add_sub_assoc a1,yJ A0,← yJ P0,← zQ];exact zdm _ (Nat.sub_lt a1 Nat.one_pos)
  have xA:x∈A1:=mem_of_getElem? ex;refine W.bind (W.elem ex' (W.bind (W.mono (zdP (m.ia x (mem_append_right _ xA)) (fun i hi=>?_) m.ub m.ib (Nat.sub_lt m.hb Nat.one_pos)) ?_)))
  ·rw[←yJ P0,← zQ]
   exact zdm _ hi
  ·rintro c st' (@⟨B0,B1,rfl,c1,c2⟩)
   dsimp only;have hb1:∀ z∈A0++A1,∀ t∈B1,X.r z≤X.r t:=fun z hz t ht=>zX (xl z hz) (zck.2 (c2 t ht));refine W.ite (fun c=>?_) (fun c=>?_)
   ·have:B0=[]:=List.length_eq_zero_iff.1 (eq_of_beq c)
    subst this;exact W.pure (m.same hb1)
   ·have b0:=ne0 c
    have eB:B0[0]?=some y:=by rw[←ey,List.getElem?_append_left b0]
    have s1:(X.arr (P0++(A0++A1++(B0++B1++R)))).extract (P0.length+A0.length) (P0.length+(A0++A1).length)=X.arr A1:=by
     rw[yJ A0,← yJ P0];exact zkN _ _ _ zQ.symm (by rw[zQ,zQ,Nat.add_assoc])
    have s2:(X.arr (P0++(A0++A1++(B0++B1++R)))).extract (P0.length+(A0++A1).length) (P0.length+(A0++A1).length+B0.length)=X.arr B0:=by
     rw[yJ B0,← yJ P0];exact zkN _ _ _ zQ.symm (by rw[zQ (as:=P0)])
    rw[s1,s2];have ua:=(List.pairwise_append.1 m.ua).2.1;have ub:=(List.pairwise_append.1 m.ub).1;have ina:X.In A1:=fun z hz=>m.ia z (mem_append_right _ hz);have inb:X.In B0:=fun z hz=>m.ib z (mem_append_left _ hz);have fin:∀ r st',MQ X A1 B0 (P0++(A0++A1++(B0++B1++R))) pd r st'→X.W (maEnd (P0.length+A0.length) r) (MC X P0 (A0++A1) (B0++B1) R pd) st':=by
     rintro r st' ⟨o,rfl,ou,op⟩
     have e:P0++(A0++A1++(B0++B1++R))=P0++A0++(A1++B0++(B1++R)):=by simp only[yJ]
     rw[e,← zQ];exact zlJ op.length_eq (zqj m ou op h0 fun z hz=>hb1 z (mem_append_right _ hz))
    have last:∀ z,A1[A1.length - 1]?=some z→∀ y∈B0,X.r y≤X.r z:=fun z e y hy=>by
     rw[ex] at e;cases e
     exact Nat.le_of_lt (zck.1 (c1 y hy))
    have fst:∀ y,B0[0]?=some y→∀ z∈A1,X.r y≤X.r z:=fun y e z hz=>by
     rw[eB] at e;cases e
     exact Nat.le_of_lt (h2 z hz)
    exact W.ite (fun u=>W.bind (W.mono (zlM ⟨ina,inb,fun y hy i z ei ez=>last z (by rw[←ei];exact ez) y hy⟩ ua ub a1 b0 fst) fin)) (fun u=>W.bind (W.mono (zma ⟨ina,inb,fst⟩ ua ub a1 b0 last) fin))
theorem zlK (m:MA X P0 A B R){D1 D2:List (Nat × Nat × Nat)}{w w':Nat}:X.W (mergeAt' D1.length) (MC X P0 A B R (D1++(P0.length,A.length+B.length,w)::D2))
  (X.st (P0++(A++(B++R))) (D1++(P0.length,A.length,w)::(P0.length+A.length,B.length,w')::D2) g):=by
 rw[zgs];unfold maAll;refine W.bind (W.get ?_);have e1:(pendingOf (X.st (P0++(A++(B++R))) (D1++(P0.length,A.length,w)::(P0.length+A.length,B.length,w')::D2) g))[D1.length]?=some (P0.length,A.length,w):=by
  show(D1++(P0.length,A.length,w)::(P0.length+A.length,B.length,w')::D2).toArray[D1.length]?=_;rw[List.getElem?_toArray,List.getElem?_append_right (Nat.le_refl _),Nat.sub_self];rfl
 have e2:(pendingOf (X.st (P0++(A++(B++R))) (D1++(P0.length,A.length,w)::(P0.length+A.length,B.length,w')::D2) g))[D1.length+1]?=some (P0.length+A.length,B.length,w'):=by
  show(D1++(P0.length,A.length,w)::(P0.length+A.length,B.length,w')::D2).toArray[D1.length+1]?=_;rw[List.getElem?_toArray,List.getElem?_append_right (Nat.le_add_right ..),Nat.add_sub_cancel_left];rfl
 rw[e1,e2];dsimp only;refine W.bind (W.set ?_);have e3:setPending (X.st (P0++(A++(B++R))) (D1++(P0.length,A.length,w)::(P0.length+A.length,B.length,w')::D2) g) (((D1++(P0.length,A.length,w)::(P0.length+A.length,B.length,w')::D2).toArray.setIfInBounds D1.length (P0.length,A.length+B.length,w)).eraseIdxIfInBounds (D1.length+1))
   = X.st (P0++(A++(B++R))) (D1++(P0.length,A.length+B.length,w)::D2) g:=by
  rw[List.setIfInBounds_toArray,List.eraseIdxIfInBounds_toArray,set_append_right _ _ (Nat.le_refl _),Nat.sub_self,List.eraseIdx_append_of_length_le (Nat.le_add_right ..),Nat.add_sub_cancel_left]
  rfl
 show X.W (maA (X.arr (P0++(A++(B++R)))) _ _ _ _) _ (setPending (X.st (P0++(A++(B++R))) (D1++(P0.length,A.length,w)::(P0.length+A.length,B.length,w')::D2) g) (((D1++(P0.length,A.length,w)::(P0.length+A.length,B.length,w')::D2).toArray.setIfInBounds D1.length (P0.length,A.length+B.length,w)).eraseIdxIfInBounds (D1.length+1)));rw[e3];obtain⟨y,ey,_⟩:=za0 m.hb;have ey':(P0++(A++(B++R)))[P0.length+A.length]?=some y:=by
  rw[←ey,← yJ P0,← zQ];exact zdm (l1:=P0++A) R m.hb
 unfold maA;refine W.bind (W.elem ey' (W.bind (W.mono (zdP (m.ib y (mem_of_getElem? ey)) (fun i hi=>zdm _ hi) m.ua m.ia m.ha) ?_)))
 rintro c st' (@⟨A0,A1,rfl,c1,c2⟩)
 exact zqk m ey (fun x hx=>zaZ.1 (c1 x hx)) (fun x hx=>zaZ.2 (c2 x hx))
end
theorem zii {α β:Type}(f:α→β) (l:Array α) (i j:Nat):mirror (l.map f) i j ((j - i) / 2)=(mirror l i j ((j - i) / 2)).map f:=kas_swaps_map f (fun k=>i+k) (fun k=>j - 1 - k) _ l
theorem zrN (h:t < c):p+(p+c) - 1 - (p+t)=p+(c - 1 - t):=by
 obtain⟨d,rfl⟩:=Nat.exists_eq_add_of_lt h;show p+(p+(t+d))+1 - 1 - (p+t)=p+(t+d+1 - 1 - t);rw[Nat.add_sub_cancel,Nat.add_sub_cancel,Nat.add_sub_cancel_left,Nat.add_comm t d,← Nat.add_assoc,Nat.add_add_add_comm,Nat.add_sub_cancel]
theorem ziL (P l:List Nat) (t:Nat):(P++l)[P.length+t]?=l[t]?:=by rw[List.getElem?_append_right (Nat.le_add_right ..),Nat.add_sub_cancel_left]
theorem zgo (P C R:List Nat):mirror (P++(C++R)).toArray P.length (P.length+C.length) ((P.length+C.length - P.length) / 2)=(P++(C.reverse++R)).toArray:=by
 apply Array.ext_getElem?
 intro k;rw[getElem?_mirror_all (by rw[size_toArray,zQ,zQ,← Nat.add_assoc];exact Nat.le_add_right ..),List.getElem?_toArray,List.getElem?_toArray,List.getElem?_toArray]
 by_cases h1:P.length≤k
 ·obtain⟨t,rfl⟩:=Nat.exists_eq_add_of_le h1
  by_cases h2:t < C.length
  ·rw[zT ⟨h1,Nat.add_lt_add_left h2 _⟩,zdm R (l2:=C.reverse) (by rw[length_reverse];exact h2),zrN h2,zdm R (Nat.lt_of_le_of_lt (Nat.sub_le ..) (Nat.sub_lt (Nat.zero_lt_of_lt h2) Nat.one_pos)),List.getElem?_reverse h2]
  ·have h2':=Nat.le_of_not_lt h2
   rw[zR fun q=>h2 (Nat.lt_of_add_lt_add_left q.2),ziL,ziL,List.getElem?_append_right h2',List.getElem?_append_right (by rw[length_reverse];exact h2'),length_reverse]
 ·have h:=Nat.lt_of_not_le h1
  rw[zR fun q=>h1 q.1,List.getElem?_append_left h,List.getElem?_append_left h]
theorem zgO (P L R:List Nat) (z:Nat):bubble (P++(L++z::R)).toArray (P.length+L.length) L.length=(P++(z::L++R)).toArray:=by
 apply Array.ext_getElem?
 intro k;rw[getElem?_bubble (by rw[size_toArray,zQ,zQ];exact Nat.add_lt_add_left (Nat.lt_add_of_pos_right (Nat.succ_pos _)) _) _ (Nat.le_add_left ..),List.getElem?_toArray,List.getElem?_toArray,List.getElem?_toArray,List.getElem?_toArray,Nat.add_sub_cancel]
 by_cases h1:P.length≤k
 ·obtain⟨t,rfl⟩:=Nat.exists_eq_add_of_le h1
  rw[ziL,ziL,ziL]
  cases t with
  |zero=>rw[zT (Nat.add_zero _),List.getElem?_append_right (Nat.le_refl _),Nat.sub_self];rfl
  |succ t =>
   rw[zR fun q=>Nat.succ_ne_zero t (Nat.add_left_cancel (q.trans (Nat.add_zero _).symm)),cons_append,List.getElem?_cons_succ,show P.length+(t+1) - 1=P.length+t from rfl,ziL]
   by_cases h2:t < L.length
   ·rw[zT ⟨Nat.lt_add_of_pos_right (Nat.succ_pos t),Nat.add_le_add_left h2 _⟩,List.getElem?_append_left h2,List.getElem?_append_left h2]
   ·have h2':=Nat.le_of_not_lt h2
    rw[zR fun q=>h2 (Nat.le_of_add_le_add_left q.2),List.getElem?_append_right h2',List.getElem?_append_right (Nat.le_succ_of_le h2'),Nat.succ_sub h2',List.getElem?_cons_succ]
 ·have h:=Nat.lt_of_not_le h1
  rw[zR fun q=>h1 (Nat.le_of_eq q.symm),zR fun q=>h1 (Nat.le_of_lt q.1),List.getElem?_append_left h,List.getElem?_append_left h]
section
variable {X:Sc}{st:SortSt}{pd:List (Nat × Nat × Nat)}{g:Nat}
theorem zeT (l:List Nat):X.arr l=l.toArray.map (kas_item X.it):=by unfold Sc.arr;rw[map_toArray]
theorem zg8 {P C R:List Nat}{i j:Nat}{Q:SQ Unit}(hi:i=P.length) (hj:j=P.length+C.length) (h:Q () (X.st (P++(C.reverse++R)) pd g)):X.W (reverseSlice' i j) Q (X.st (P++(C++R)) pd g):=by
 rw[reverseSlice'_eq];refine W.modify ?_;show Q () (SortSt.mk' X.κ (mirror (X.arr (P++(C++R))) i j ((j - i) / 2)) pd.toArray g none);rw[zeT,zii,hi,hj,zgo,← zeT];exact h
theorem zrQ {P L R:List Nat}{z i j:Nat}{Q:SQ Unit}(hi:i=P.length+L.length) (hj:j=P.length) (h:Q () (X.st (P++(z::L++R)) pd g)):X.W (moveDown' i j) Q (X.st (P++(L++z::R)) pd g):=by
 rw[moveDown'_eq];refine W.modify ?_;show Q () (SortSt.mk' X.κ (bubble (X.arr (P++(L++z::R))) i (i - j)) pd.toArray g none);have e:bubble (X.arr (P++(L++z::R))) i (i - j)=X.arr (P++(z::L++R)):=by
  rw[zeT,hi,hj,Nat.add_sub_cancel_left];exact(kas_swaps_map (kas_item X.it) (fun k=>P.length+L.length - k) (fun k=>P.length+L.length - k - 1) _ _).trans (by rw[zeT];exact congrArg (Array.map _) (zgO P L R z))
 rw[e];exact h
theorem W.ltAt (ei:p[i]?=some x) (ej:p[j]?=some y) (hp:X.In p) (h:Q (some (decide (X.r x < X.r y))) (X.st p pd g)):X.W (ltAt' i j) Q (X.st p pd g):=by
 rw[ltAt'_eq];exact W.bind (W.get (W.bind (W.elem ei (W.bind (W.elem ej (W.lt (hp x (mem_of_getElem? ei)) (hp y (mem_of_getElem? ej)) h))))))
theorem W.loopA {β:Type}{a n:Nat}{f:Nat→β→SM (ForInStep β)}(I:Nat→β→SortSt→Prop){Q:SQ β}(hn:a≤n)
  (hstep:∀ i c st,i < n→I i c st→X.W (f i c) (Nx Q (I (i+1))) st)
  (hend:∀ c st,I n c st→Q c st){c:β}(h:I a c st):X.W (forIn [a:n] c f) Q st :=
 wpS_forRange I (fun i c st z hi h=>W.mono (hstep i c st hi h) fun r st' h=>by cases r<;>exact h) (fun c st h=>hend c st (by rwa [Nat.max_eq_right hn] at h)) h
end
noncomputable def cAsc (lo n:Nat):SM (ForInStep AscSt):=do
 let x ← ltAt' (lo+n) (lo+n - 1)
 match x with
 |some smaller=>if smaller=true then pure (.done (none,n)) else pure (.yield (none,n+1))
 |_=>pure (.done (some none,n))
noncomputable def cTail (lo n nrem:Nat):SM (Option Nat):=do
 reverseSlice' lo (lo+n)
 let s ← forIn [n:nrem] ((none,n):AscSt) fun z s=>cAsc lo s.2
 match s.1 with
 |some r=>pure r
 |none=>pure (some s.2)
noncomputable def cDs (lo n q:Nat):SM (ForInStep DescSt):=do
 let x ← ltAt' (lo+n) (lo+n - 1)
 match x with
 |some smaller =>
  if smaller=true then
   if q > 0 then do
    reverseSlice' (lo+n - (q+1)) (lo+n)
    pure (.yield (none,n+1,0))
   else pure (.yield (none,n+1,0))
  else do
   let x ← ltAt' (lo+n - 1) (lo+n)
   match x with
   |some larger=>if larger=true then pure (.done (none,n,q)) else pure (.yield (none,n+1,q+1))
   |_=>pure (.done (some none,n,q))
 |_=>pure (.done (some none,n,q))
noncomputable def cDesc (lo n nrem:Nat):SM (Option Nat):=do
 liftM (rule "list.sort.descending-run")
 let s ← forIn [n+1:nrem] ((none,n+1,0):DescSt) fun z s=>cDs lo s.2.1 s.2.2
 match s.1 with
 |some r=>pure r
 |none=>if s.2.2 > 0 then reverseSlice' (lo+s.2.1 - (s.2.2+1)) (lo+s.2.1) >>= fun z=>cTail lo s.2.1 nrem else cTail lo s.2.1 nrem
noncomputable def cMid (lo nrem n:Nat):SM (Option Nat):=do
 let x ← ltAt' lo (lo+n - 1)
 match x with
 |some rose=>if rose=true then pure (some n) else reverseSlice' lo (lo+n) >>= fun z=>cDesc lo n nrem
 |_=>pure none
noncomputable def cRun (lo nrem:Nat):SM (Option Nat):=do
 let s ← forIn [1:nrem] ((none,1):AscSt) fun z s=>cAsc lo s.2
 match s.1 with
 |some r=>pure r
 |none=>if(s.2 == nrem)=true then pure (some s.2) else if s.2 > 1 then cMid lo nrem s.2 else cDesc lo s.2 nrem
theorem zeK (lo nrem:Nat):countRun' lo nrem=cRun lo nrem:=by kernel_rfl
section
variable {X:Sc}{pd:List (Nat × Nat × Nat)}{g:Nat}{P S:List Nat}
abbrev Sc.Dn (X:Sc) (l:List Nat):Prop:=l.Pairwise fun x y=>X.r y≤X.r x
theorem zjy {R:Nat→Nat→Prop}(tr:∀ {a b c},R a b→R b c→R a c) (h:(l++[y]).Pairwise R) (hz:R y z):(l++[y]++[z]).Pairwise R:=by
 refine List.pairwise_append.2 ⟨h,pairwise_singleton ..,fun a ha b hb=>?_⟩
 cases zK.1 hb
 rcases zP.1 ha with ha|ha
 ·exact tr ((List.pairwise_append.1 h).2.2 a ha y (zK.2 rfl)) hz
 ·cases zK.1 ha;exact hz
theorem zjX (h:l≠[]):∃ l' y,l=l'++[y]:=⟨l.dropLast,l.getLast h,(List.dropLast_concat_getLast h).symm⟩
theorem zeQ (P L:List Nat) (z:Nat) (R:List Nat):(P++(L++z::R))[P.length+L.length]?=some z:=by
 rw[←yJ,← zQ,List.getElem?_append_right (Nat.le_refl _),Nat.sub_self];rfl
theorem zgS (P L:List Nat) (y:Nat) (R:List Nat) (hn:n=(L++[y]).length):(P++(L++[y]++R))[P.length+n - 1]?=some y:=by
 rw[hn,zQ,yJ];exact zeQ P L y R
theorem zhG (hin:X.In (P++S)):∀ {C R:List Nat}{y:Nat}{Q:SQ AscSt},S=C++[y]++R→X.Up (C++[y]) →
  (∀ C y R,S=C++[y]++R→X.Up (C++[y])→(∀ z∈R.head?,X.r z < X.r y)→Q (none,(C++[y]).length) (X.st (P++S) pd g))→∀ n,n=(C++[y]).length →
  X.W (forIn [n:S.length] ((none,n):AscSt) fun w s=>cAsc P.length s.2) Q (X.st (P++S) pd g):=fun {C R y Q} e u hq n hn=>by
 have hle:n≤S.length:=by rw[hn,e,zQ (as:=C++[y])];exact Nat.le_add_right ..
 refine W.loopA (fun x c st'=>st'=X.st (P++S) pd g∧c=(none,x)∧∃ C y R,S=C++[y]++R∧X.Up (C++[y])∧x=(C++[y]).length) hle ?_ ?_ ⟨rfl,rfl,C,y,R,e,u,hn⟩
 ·rintro x c st' hx ⟨rfl,rfl,C,y,R,e,u,rfl⟩
  cases R with
  |nil=>rw[e,append_nil] at hx;exact absurd hx (Nat.lt_irrefl _)
  |cons z R =>
   have e1:(P++S)[P.length+(C++[y]).length]?=some z:=by rw[e];exact zeQ P _ z R
   have e2:(P++S)[P.length+(C++[y]).length - 1]?=some y:=by rw[e];exact zgS P C y _ rfl
   unfold cAsc;refine W.bind (W.ltAt e1 e2 hin ?_);dsimp only;refine W.ite (fun c=>W.pure (hq C y (z::R) e u fun t ht=>?_)) (fun c=>W.pure ⟨rfl,rfl,C++[y],z,R,by rw[e,yJ _ [z]];rfl,?_,by rw[zQ (as:=C++[y])];rfl⟩)
   ·cases ht;exact zV c
   ·exact zjy (R:=fun a b=>X.r a≤X.r b) zX u (Nat.le_of_not_lt fun h=>c (zW h))
 ·rintro c st' ⟨rfl,rfl,C,y,R,e,u,h⟩
  have:R=[]:=List.length_eq_zero_iff.1 (by rw[e,zQ (as:=C++[y])] at h;omega)
  subst this;rw[h];exact hq C y [] e u fun t ht=>by cases ht
noncomputable def RC (X:Sc) (P S:List Nat) (pd:List (Nat × Nat × Nat)) (g:Nat):SQ (Option Nat):=fun c st'=>∃ C R,c=some C.length∧0 < C.length∧X.Up C∧(C++R).Perm S∧st'=X.st (P++(C++R)) pd g
theorem zhB {C R S:List Nat}(hin:X.In (P++S)) (hp:(C++R).Perm S) (hc:C≠[]) (hd:X.Dn C){n:Nat}(hn:n=C.length):X.W (cTail P.length n S.length) (RC X P S pd g) (X.st (P++(C++R)) pd g):=by
 unfold cTail;have hr:(C.reverse++R).Perm S:=((reverse_perm C).append_right R).trans hp;have hin':X.In (P++(C.reverse++R)):=fun x hx=>hin x ((hr.append_left P).mem_iff.1 hx);have hu:X.Up C.reverse:=List.pairwise_reverse.2 hd;refine W.bind (zg8 rfl (by rw[hn]) ?_)
 obtain⟨C',y,e⟩:=zjX (l:=C.reverse) (by simpa using hc)
 have hl:S.length=(C.reverse++R).length:=hr.length_eq.symm;rw[hl];refine W.bind (zhG (S:=C.reverse++R) hin' (C:=C') (y:=y) (R:=R) (by rw[e]) (by rw[←e];exact hu) (fun C1 y1 R1 e1 u1 z=>W.pure ⟨C1++[y1],R1,rfl,?_,u1,by rw[←e1];exact hr,by rw[←e1]⟩) n (by rw[←e,length_reverse];exact hn))
 rw[zQ];exact Nat.succ_pos _
structure DS (X:Sc) (S C1 C2 R:List Nat):Prop where
 pm:(C1++(C2++R)).Perm S
 dn:X.Dn (C1++C2)
 al:∀ x∈C2,∀ y∈C2,X.r x=X.r y
theorem DS.rev {C1 C2 R:List Nat}(h:DS X S C1 C2 R):X.Dn (C1++C2.reverse)∧(C1++(C2.reverse++R)).Perm S:=by
 obtain⟨a1,a2,a3⟩:=List.pairwise_append.1 h.dn;exact⟨List.pairwise_append.2 ⟨a1,List.pairwise_reverse.2 (List.pairwise_of_forall_mem_list fun x hx y hy=>Nat.le_of_eq (h.al x hx y hy)),fun x hx y hy=>a3 x hx y (List.mem_reverse.1 hy)⟩,
  (((reverse_perm C2).append_right R).append_left C1).trans h.pm⟩
theorem zkz (hin:X.In (P++S)){C1 C2 R:List Nat}{Q:SQ DescSt}(h0:DS X S C1 C2 R) (h2:C2.length=1)
  (hq:∀ C1 C2 R q,DS X S C1 C2 R→C2.length=q+1→Q (none,(C1++C2).length,q) (X.st (P++(C1++(C2++R))) pd g)){n:Nat}(hn:n=(C1++C2).length) :
  X.W (forIn [n:S.length] ((none,n,0):DescSt) fun u s=>cDs P.length s.2.1 s.2.2) Q (X.st (P++(C1++(C2++R))) pd g):=by
 have hle:n≤S.length:=by rw[hn,← h0.pm.length_eq,← yJ,zQ (bs:=R)];exact Nat.le_add_right ..
 refine W.loopA (fun x c st'=>∃ C1 C2 R q,DS X S C1 C2 R∧C2.length=q+1∧x=(C1++C2).length∧c=(none,x,q)∧st'=X.st (P++(C1++(C2++R))) pd g) hle ?_ ?_ ⟨C1,C2,R,0,h0,h2,hn,rfl,rfl⟩
 ·rintro x c st' hx ⟨C1,C2,R,q,h,h2,rfl,rfl,rfl⟩
  have hin':X.In (P++(C1++(C2++R))):=fun x hx=>hin x ((h.pm.append_left P).mem_iff.1 hx)
  cases R with
  |nil=>rw[←h.pm.length_eq,append_nil] at hx;exact absurd hx (Nat.lt_irrefl _)
  |cons z R =>
   obtain⟨L,y,e⟩:=zjX (l:=C2) (by intro e;rw[e] at h2;cases h2)
   have ez:(P++(C1++(C2++z::R)))[P.length+(C1++C2).length]?=some z:=by rw[←yJ C1];exact zeQ P _ z R
   have ey:(P++(C1++(C2++z::R)))[P.length+(C1++C2).length - 1]?=some y:=by
    rw[e,← yJ C1,← yJ C1];exact zgS P (C1++L) y _ rfl
   have yC:y∈C2:=by rw[e];exact mem_append_right _ (zK.2 rfl)
   have dz:X.r z≤X.r y→X.Dn (C1++C2++[z]):=fun hz=>by
    have:=h.dn;rw[e,← yJ] at this ⊢
    exact zjy (R:=fun a b=>X.r b≤X.r a) (fun h1 h2=>zX h2 h1) this hz
   have len:(C1++C2).length+1=(C1++C2++[z]).length:=by rw[zQ (as:=C1++C2)];rfl
   unfold cDs;refine W.bind (W.ltAt ez ey hin' ?_);dsimp only;refine W.ite (fun c=>?_) (fun c=>?_)
   ·have dn:=dz (Nat.le_of_lt (zV c))
    refine W.ite (fun u=>?_) (fun u=>?_)
    ·have e1:P++(C1++(C2++z::R))=P++C1++(C2++z::R):=by rw[yJ P]
     have lr:(C1++C2).length=C1.length+(q+1):=by rw[zQ,h2]
     rw[e1];refine W.bind (zg8 (P:=P++C1) (by rw[lr,zQ,← Nat.add_assoc,Nat.add_sub_cancel]) (by rw[lr,zQ,h2,Nat.add_assoc]) (W.pure ⟨C1++C2.reverse,[z],R,0,⟨?_,?_,?_⟩,rfl,?_,rfl,?_⟩))
     ·rw[yJ];exact h.rev.2
     ·obtain⟨a1,a2,a3⟩:=List.pairwise_append.1 dn
      exact List.pairwise_append.2 ⟨h.rev.1,a2,fun x hx=>a3 x (((reverse_perm C2).append_left C1).mem_iff.1 hx)⟩
     ·intro a ha b hb;rw[zK.1 ha,zK.1 hb]
     ·rw[len];simp only[zQ,length_reverse]
     ·rw[yJ P,yJ C1];rfl
    ·exact W.pure ⟨C1++C2,[z],R,0,⟨by rw[yJ];exact h.pm,dn,fun a ha b hb=>by rw[zK.1 ha,zK.1 hb]⟩,rfl,len,rfl,by rw[yJ C1];rfl⟩
   ·have hle:=Nat.le_of_not_lt fun h=>c (zW h)
    refine W.bind (W.ltAt ey ez hin' ?_);dsimp only;refine W.ite (fun c=>W.pure (hq C1 C2 (z::R) q h h2)) (fun c=>?_);have hz:=Nat.le_of_not_lt fun h=>c (zW h);have heq:=Nat.le_antisymm hz hle;have al:∀ x∈C2++[z],X.r x=X.r y:=fun x hx=>by
     rcases zP.1 hx with hx|hx
     ·exact h.al x hx y yC
     ·rw[zK.1 hx];exact heq
    exact W.pure ⟨C1,C2++[z],R,q+1,⟨by rw[yJ C2];exact h.pm,by rw[←yJ];exact dz hz,fun a ha b hb=>(al a ha).trans (al b hb).symm⟩,by rw[zQ,h2];rfl,by rw[len,yJ],rfl,by rw[yJ C2];rfl⟩
 ·rintro c st' ⟨C1,C2,R,q,h,h2,hx,rfl,rfl⟩
  rw[hx];exact hq C1 C2 R q h h2
theorem zhC (hin:X.In (P++S)){C:List Nat}{z:Nat}{R:List Nat}(hp:(C++z::R).Perm S) (hd:X.Dn (C++[z])){n:Nat}(hn:n=C.length):X.W (cDesc P.length n S.length) (RC X P S pd g) (X.st (P++(C++z::R)) pd g):=by
 unfold cDesc;refine W.bind (W.rule (W.bind (zkz (C1:=C) (C2:=[z]) (R:=R) hin ⟨hp,hd,fun a ha b hb=>by rw[zK.1 ha,zK.1 hb]⟩ rfl (fun C1 C2 R q h h2=>?_) (by rw[hn,zQ];rfl))))
 have ne:C1++C2≠[]:=fun e=>by have:=congrArg List.length e;rw[zQ,h2] at this;cases this
 refine W.ite (fun y=>?_) (fun y=>?_)
 ·have lr:(C1++C2).length=C1.length+(q+1):=by rw[zQ,h2]
  rw[←yJ P];refine W.bind (zg8 (P:=P++C1) (by rw[lr,zQ,← Nat.add_assoc,Nat.add_sub_cancel]) (by rw[lr,zQ,h2,Nat.add_assoc]) ?_)
  rw[yJ P,← yJ C1];refine zhB hin (by rw[yJ];exact h.rev.2) (fun e=>ne ?_) h.rev.1 (by simp only[zQ,length_reverse])
  rw[List.append_eq_nil_iff] at e ⊢;exact⟨e.1,List.reverse_eq_nil_iff.1 e.2⟩
 ·rw[←yJ C1]
  exact zhB hin (by rw[yJ];exact h.pm) ne h.dn rfl
theorem zpc (hin:X.In (P++S)) (hs:0 < S.length):X.W (countRun' P.length S.length) (RC X P S pd g) (X.st (P++S) pd g):=by
 rw[zeK];unfold cRun
 cases S with
 |nil=>cases hs
 |cons s0 S0 =>
 refine W.bind (zhG hin (C:=[]) (y:=s0) (R:=S0) rfl (pairwise_singleton ..) (fun C y R e u hlt=>?_) 1 rfl);have fin:RC X P (s0::S0) pd g (some (C++[y]).length) (X.st (P++(s0::S0)) pd g):=⟨C++[y],R,rfl,by rw[zQ];exact Nat.succ_pos _,u,by rw[e],by rw[e]⟩
 refine W.ite (fun w=>W.pure fin) (fun c=>?_)
 cases R with
 |nil=>exact absurd (by rw[e,append_nil];exact beq_self_eq_true _) c
 |cons z R =>
  have lt:=hlt z rfl;rw[e] at fin hin ⊢
  refine W.ite (fun c=>?_) (fun c=>?_)
  ·unfold cMid
   cases C with
   |nil=>exact absurd c (Nat.lt_irrefl _)
   |cons x C =>
    refine W.bind (W.ltAt (x:=x) (y:=y) (by rw[List.getElem?_append_right (Nat.le_refl _),Nat.sub_self];rfl) (zgS P _ y _ rfl) hin ?_)
    dsimp only;refine W.ite (fun w=>W.pure fin) (fun c=>?_);have hyx:=Nat.le_of_not_lt fun h=>c (zW h);have all:∀ t∈x::C++[y],X.r t=X.r y:=fun t ht=>Nat.le_antisymm (zcb u (Nat.le_refl _) t ht) (zX hyx (zcc (x:=x) (l:=C++[y]) u (Nat.le_refl _) t ht));refine W.bind (zg8 rfl rfl (zhC hin ((reverse_perm _).append_right _) ?_ (by rw[length_reverse])))
    refine List.pairwise_append.2 ⟨List.pairwise_reverse.2 (List.pairwise_of_forall_mem_list fun a ha b hb=>Nat.le_of_eq ((all a ha).trans (all b hb).symm)),pairwise_singleton ..,fun a ha b hb=>?_⟩
    cases zK.1 hb
    rw[all a (List.mem_reverse.1 ha)];exact Nat.le_of_lt lt
  ·have:C=[]:=List.length_eq_zero_iff.1 (by rw[zQ] at c;exact Nat.eq_zero_of_not_pos fun h=>c (Nat.succ_lt_succ h))
   subst this;refine zhC hin (List.Perm.refl _) ?_ rfl;exact List.pairwise_cons.2 ⟨fun t ht=>by rw[zK.1 ht];exact Nat.le_of_lt lt,pairwise_singleton ..⟩
end
abbrev BSt:=Option Bool × Nat × Nat
noncomputable def bIn (lo k l r:Nat):SM (ForInStep BSt) :=
 if l ≥ r then pure (.done (none,l,r)) else do
  let x ← ltAt' (lo+k) (lo+(l+r) / 2)
  match x with
  |some less=>if less=true then pure (.yield (none,l,(l+r) / 2)) else pure (.yield (none,(l+r) / 2+1,r))
  |_=>pure (.done (some false,l,r))
noncomputable def bOut (lo k:Nat):SM (ForInStep (Option Bool × Unit)):=do
 let s ← forIn [0:k] ((none,0,k):BSt) fun z s=>bIn lo k s.2.1 s.2.2
 match s.1 with
 |some r=>pure (.done (some r,()))
 |none=>do
  moveDown' (lo+k) (lo+s.2.1)
  pure (.yield (none,()))
noncomputable def bAll (lo n ok:Nat):SM Bool:=do
 let s ← forIn [max ok 1:n] ((none,()):Option Bool × Unit) fun k z=>bOut lo k
 match s.1 with
 |some r=>pure r
 |none=>pure true
theorem zdj (lo n ok:Nat):binarySort' lo n ok=bAll lo n ok:=by kernel_rfl
section
variable {X:Sc}{pd:List (Nat × Nat × Nat)}{g:Nat}{P:List Nat}
theorem zqg (h:¬ l ≥ r):l≤(l+r) / 2∧(l+r) / 2 < r :=
 have h:=Nat.lt_of_not_le h
 ⟨(Nat.le_div_iff_mul_le (by decide)).2 (by rw[Nat.mul_two];exact Nat.add_le_add_left (Nat.le_of_lt h) l),(Nat.div_lt_iff_lt_mul (by decide)).2 (by rw[Nat.mul_two];exact Nat.add_lt_add_right h r)⟩
theorem zrc {C R:List Nat}{z:Nat}(hin:X.In (P++(C++z::R))) (u:X.Up C){Q:SQ BSt}
  (hq:∀ C1 C2 r,Cut (gT X false z) C C1.length C1 C2→Q (none,C1.length,r) (X.st (P++(C++z::R)) pd g)) :
  X.W (forIn [0:C.length] ((none,0,C.length):BSt) fun y s=>bIn P.length C.length s.2.1 s.2.2) Q (X.st (P++(C++z::R)) pd g):=by
 have ez:(P++(C++z::R))[P.length+C.length]?=some z:=zeQ P C z R;have fin:∀ l r,GIn (fun i=>gT X false z (C.getD i 0)) C.length l r→l=r→Q (none,l,r) (X.st (P++(C++z::R)) pd g):=fun l r gi e=>by
  subst e;have c:Cut (gT X false z) C l (C.take l) (C.drop l):=GOk.cut ⟨gi.hn,gi.lo,gi.hi⟩;have:=hq (C.take l) (C.drop l) l (by rw[c.len];exact c)
  rwa [c.len] at this
 have mono:∀ i j,i≤j→j < C.length→X.r (C.getD i 0)≤X.r (C.getD j 0):=fun i j hij hj=>by
  rw[zbu (Nat.lt_of_le_of_lt hij hj),zbu hj]
  rcases Nat.lt_or_eq_of_le hij with hi|rfl
  ·exact List.pairwise_iff_getElem.1 u i j _ hj hi
  ·exact Nat.le_refl _
 refine W.loop (fun x c st'=>st'=X.st (P++(C++z::R)) pd g∧∃ l r,c=(none,l,r)∧GIn (fun i=>gT X false z (C.getD i 0)) C.length l r∧r - l≤C.length - x) ?_ ?_ ⟨rfl,0,C.length,rfl,⟨Nat.zero_le _,Nat.le_refl _,fun i hi=>absurd hi (Nat.not_lt_zero _),fun i h1 h2=>absurd h2 (Nat.not_lt_of_le h1)⟩,Nat.le_refl _⟩
 ·rintro x c st' hx ⟨rfl,l,r,rfl,gi,hm⟩
  unfold bIn;dsimp only;refine W.ite (fun h=>W.pure (fin l r gi (Nat.le_antisymm gi.lh h))) (fun h=>?_);obtain⟨m,em⟩:∃ m,(l+r) / 2=m:=⟨_,rfl⟩;rw[em];obtain⟨h1,h2⟩:=zqg h;rw[em] at h1 h2;have mn:=Nat.lt_of_lt_of_le h2 gi.hn;have ey:(P++(C++z::R))[P.length+m]?=some (C.getD m 0):=by
   rw[zdm _ mn,zbu mn,zM mn]
  refine W.bind (W.ltAt ez ey hin ?_);dsimp only;refine W.ite (fun c=>W.pure ⟨rfl,l,m,rfl,⟨h1,Nat.le_of_lt mn,gi.lo,fun i hi hn=>?_⟩,zlD hm (Nat.sub_lt_sub_right h1 h2)⟩) (fun c=>W.pure ⟨rfl,m+1,r,rfl,⟨h2,gi.hn,fun i hi=>?_,gi.hi⟩,zlD hm (Nat.sub_lt_sub_left (Nat.lt_of_not_le h) (Nat.lt_succ_of_le h1))⟩)
  ·have:=Nat.lt_of_lt_of_le (zV c) (mono m i hi hn)
   unfold gT;rw[zR Bool.false_ne_true,zW this];rfl
  ·have:=zX (mono i m (Nat.le_of_lt_succ hi) mn) (Nat.le_of_not_lt fun h=>c (zW h))
   unfold gT;rw[zR Bool.false_ne_true,zU (Nat.not_lt_of_le this)];rfl
 ·rintro c st' ⟨rfl,l,r,rfl,gi,hm⟩
  exact fin l r gi (Nat.le_antisymm gi.lh (zqh hm))
theorem zq8 {C R:List Nat}(hin:X.In (P++(C++R))) (u:X.Up C) (hc:0 < C.length){n:Nat}(h1:C.length≤n) (hn:n≤(C++R).length){Q:SQ Bool}
  (hq:∀ C' R',X.Up C'→C'.length=n→(C'++R').Perm (C++R)→Q true (X.st (P++(C'++R')) pd g)):X.W (binarySort' P.length n C.length) Q (X.st (P++(C++R)) pd g):=by
 rw[zdj];unfold bAll;rw[Nat.max_eq_left hc];refine W.bind (W.loopA (fun k c st'=>c=(none,())∧∃ C' R',X.Up C'∧C'.length=k∧(C'++R').Perm (C++R)∧st'=X.st (P++(C'++R')) pd g) h1 ?_ ?_ ⟨rfl,C,R,u,rfl,List.Perm.refl _,rfl⟩)
 ·rintro k c st' hk ⟨rfl,C',R',u',rfl,p',rfl⟩
  have hl:=p'.length_eq
  cases R' with
  |nil=>rw[append_nil] at hl;exact absurd hk (Nat.not_lt_of_le (by rw[hl];exact hn))
  |cons z R' =>
   have hin':X.In (P++(C'++z::R')):=fun x hx=>hin x ((p'.append_left P).mem_iff.1 hx);unfold bOut;refine W.bind (zrc hin' u' fun C1 C2 r cut=>?_);obtain⟨rfl,_,y1,y2⟩:=cut;have e:P++(C1++C2++z::R')=P++C1++(C2++z::R'):=by simp only[yJ]
   rw[e];refine W.bind (zrQ (by rw[zQ,zQ,Nat.add_assoc]) zQ.symm (W.pure ⟨rfl,C1++(z::C2),R',?_,?_,?_,?_⟩))
   ·obtain⟨a1,a2,a3⟩:=List.pairwise_append.1 u'
    have zz:∀ y∈C2,X.r z≤X.r y:=fun y hy=>Nat.le_of_lt (zaZ.2 (y2 y hy));refine List.pairwise_append.2 ⟨a1,List.pairwise_cons.2 ⟨zz,a2⟩,fun x hx y hy=>?_⟩
    rcases zN.1 hy with rfl|hy
    ·exact zaZ.1 (y1 x hx)
    ·exact a3 x hx y hy
   ·rw[zQ,zQ];rfl
   ·refine List.Perm.trans ?_ p'
    rw[yJ,yJ];exact List.Perm.append_left C1 List.perm_middle.symm
   ·simp only[yJ,cons_append]
 ·rintro c st' ⟨rfl,C',R',u',hk,p',rfl⟩
  exact W.pure (hq C' R' u' hk p')
end
inductive Runs (X:Sc):Nat→List Nat→List (Nat × Nat × Nat)→Prop
 |nil (b:Nat):Runs X b [] []
 |cons {b:Nat}{A P:List Nat}{pd:List (Nat × Nat × Nat)}(w:Nat) (u:X.Up A) (h:0 < A.length) (t:Runs X (b+A.length) P pd):Runs X b (A++P) ((b,A.length,w)::pd)
section
variable {X:Sc}
theorem Runs.len (r:Runs X b P pd):pd.length≤P.length:=by
 induction r with
 |nil=>exact Nat.le_refl _
 |cons w u h t ih=>rw[zQ,length_cons,Nat.add_comm];exact Nat.add_le_add h ih
theorem Runs.one (r:Runs X b P pd) (h:pd.length≤1):X.Up P:=by
 cases r with
 |nil=>exact List.Pairwise.nil
 |cons w u h0 t =>
  cases t with
  |nil=>rw[append_nil];exact u
  |cons=>exact absurd h (by simp)
theorem Runs.push (r:Runs X b P pd) (u:X.Up C) (h:0 < C.length) (w:Nat):Runs X b (P++C) (pd++[(b+P.length,C.length,w)]):=by
 induction r with
 |nil b =>
  have:=Runs.cons w u h (Runs.nil (X:=X) (b+C.length))
  rwa [append_nil] at this
 |cons w' u' h' t ih =>
  rw[yJ,cons_append,zQ,← Nat.add_assoc];exact .cons w' u' h' ih
theorem Runs.weigh (r:Runs X b P pd) (pw:Nat):∀ i,Runs X b P (pd.modify i fun x=>(x.1,x.2.1,pw)):=by
 induction r with
 |nil b=>intro i;rw[List.modify_nil];exact .nil b
 |cons w u h t ih =>
  intro i
  cases i with
  |zero=>exact .cons pw u h t
  |succ i=>exact .cons w u h (ih i)
theorem holdR {G:Prop}(h:∀ X:Prop,(G→X)→X):G:=h G id
theorem Runs.inv (r:Runs X b P (d::D)):∃ A R w,P=A++R∧d=(b,A.length,w)∧X.Up A∧0 < A.length∧Runs X (b+A.length) R D:=by
 cases r with
 |cons w u h t=>exact⟨_,_,w,rfl,rfl,u,h,t⟩
theorem Runs.split (r:Runs X b P (D1++x::y::D2)) :
  ∃ P0 A B R w w',P=P0++(A++(B++R))∧x=(b+P0.length,A.length,w)∧y=(b+P0.length+A.length,B.length,w')∧(X.Up A∧X.Up B∧0 < A.length∧0 < B.length) ∧
   ∀ C,X.Up C→C.length=A.length+B.length→Runs X b (P0++(C++R)) (D1++(b+P0.length,A.length+B.length,w)::D2):=by
 induction D1 generalizing b P with
 |nil =>
  refine holdR fun z k_=>?_;obtain⟨A,R0,w,e1,e2,u,h,t⟩:=Runs.inv r;obtain⟨B,R,w',e3,e4,u',h',t⟩:=t.inv;refine k_ ⟨[],A,B,R,w,w',by rw[e1,e3];rfl,e2,e4,⟨u,u',h,h'⟩,fun C uc e=>?_⟩
  have:=Runs.cons (b:=b) w uc (by rw[e];exact Nat.lt_of_lt_of_le h (Nat.le_add_right _ _)) (by rw[e,← Nat.add_assoc];exact t)
  rw[e] at this;exact this
 |cons d D1 ih =>
  refine holdR fun z k_=>?_;obtain⟨A0,R0,w,e1,e2,u,h,t⟩:=Runs.inv r;obtain⟨P0,A,B,R,w1,w2,f1,f2,f3,a,c⟩:=ih t;refine k_ ⟨A0++P0,A,B,R,w1,w2,by rw[e1,f1,yJ],by rw[f2,zQ,Nat.add_assoc],by rw[f3,zQ,Nat.add_assoc b],a,fun C uc e=>?_⟩
  have:=Runs.cons w u h (c C uc e);rw[e2,yJ,zQ,← Nat.add_assoc];exact this
theorem zmN {α:Type}:∀ {l:List α}{i:Nat},i+2≤l.length→∃ D1 x y D2,l=D1++x::y::D2∧D1.length=i
 |x::y::D2,0,_=>⟨[],x,y,D2,rfl,rfl⟩
 |d::l,i+1,h=>by
  obtain⟨D1,x,y,D2,e,e2⟩:=zmN (l:=l) (i:=i) (Nat.le_of_succ_le_succ (by rw[Nat.add_right_comm] at h;exact h))
  exact⟨d::D1,x,y,D2,by rw[e];rfl,by rw[length_cons,e2]⟩
structure SRn (X:Sc) (L P S:List Nat) (pd:List (Nat × Nat × Nat)):Prop where
 pm:(P++S).Perm L
 rn:Runs X 0 P pd
variable {L P S:List Nat}{pd:List (Nat × Nat × Nat)}{g:Nat}
theorem zdM (hL:X.In L) (s:SRn X L P S pd){i:Nat}(hi:i+2≤pd.length){Q:SQ Bool}(hq:∀ P' pd' g',SRn X L P' S pd'→P'.length=P.length→pd'.length+1=pd.length→Q true (X.st (P'++S) pd' g')):X.W (mergeAt' i) Q (X.st (P++S) pd g):=by
 obtain⟨pm,rn⟩:=s;obtain⟨D1,x,y,D2,rfl,rfl⟩:=zmN hi;obtain⟨P0,A,B,R,w,w',rfl,rfl,rfl,⟨ua,ub,ha,hb⟩,go⟩:=rn.split;rw[Nat.zero_add] at go ⊢
 have hin:X.In (P0++(A++(B++R))++S):=fun x hx=>hL x (pm.mem_iff.1 hx);have e:P0++(A++(B++R))++S=P0++(A++(B++(R++S))):=by simp only[yJ]
 rw[e] at hin ⊢
 refine W.mono (zlK (R:=R++S) ⟨fun x hx=>hin x (by simp[hx]),fun x hx=>hin x (by simp[hx]),ua,ub,ha,hb⟩) ?_
 rintro c st' (@⟨C,g',uc,pc⟩)
 have lc:C.length=A.length+B.length:=by rw[pc.length_eq,zQ]
 have e2:P0++(C++(R++S))=P0++(C++R)++S:=by simp only[yJ]
 rw[e2];refine hq _ _ _ ⟨List.Perm.trans ?_ pm,go C uc lc⟩ ?_ ?_
 ·refine List.Perm.append_right S (List.Perm.append_left P0 ?_)
  rw[←yJ A];exact List.Perm.append_right R pc
 ·rw[zQ,zQ,zQ,zQ,zQ,lc,Nat.add_assoc A.length]
 ·rw[zQ,zQ];rfl
end
abbrev RSt:=Option Unit × Nat
abbrev USt:=Option Unit × Unit
noncomputable def srP (pw:Nat):SM (ForInStep USt):=do
 let s ← get
 match (if(pendingOf s).size > 1 then(pendingOf s)[(pendingOf s).size - 2]? else none) with
 |some (_,_,older)=>if older≤pw then pure (.done (none,())) else do
   let c ← mergeAt' ((pendingOf s).size - 2)
   if(!c)=true then pure (.done (some (),())) else pure (.yield (none,()))
 |_=>pure (.done (none,()))
noncomputable def srEnd (lo n:Nat):SM (ForInStep RSt):=do
 modify fun s=>setPending s ((pendingOf s).push (lo,n,0))
 pure (.yield (none,lo+n))
noncomputable def srD (size lo n s1 n1:Nat):SM (ForInStep RSt):=do
 let t ← forIn [0:size] ((none,()):USt) fun z z=>srP (power' size (2 * s1+n1) (2 * s1+n1+n1+n) size)
 match t.1 with
 |some r=>pure (.done (some r,lo))
 |none=>do
  modify fun s=>setPending s ((pendingOf s).modify ((pendingOf s).size - 1) fun x=>(x.1,x.2.1,power' size (2 * s1+n1) (2 * s1+n1+n1+n) size))
  srEnd lo n
noncomputable def srC (size lo n:Nat):SM (ForInStep RSt):=do
 let s ← get
 match (pendingOf s).back? with
 |some (s1,n1,_)=>srD size lo n s1 n1
 |_=>srEnd lo n
noncomputable def srB (size minrun lo n:Nat):SM (ForInStep RSt) :=
 if n < minrun then do
  liftM (rule "list.sort.binary-insertion")
  let c ← binarySort' lo (min (size - lo) minrun) n
  if(!c)=true then pure (.done (some (),lo)) else srC size lo (min (size - lo) minrun)
 else srC size lo n
noncomputable def srA (size minrun lo:Nat):SM (ForInStep RSt) :=
 if lo ≥ size then pure (.done (none,lo)) else do
  let x ← countRun' lo (size - lo)
  match x with
  |some found=>srB size minrun lo found
  |_=>pure (.done (some (),lo))
noncomputable def srF:SM (ForInStep USt):=do
 let s ← get
 if(pendingOf s).size≤1 then pure (.done (none,())) else do
  let c ← mergeAt' (if(if(pendingOf s).size - 2 > 0 then(pendingOf s)[(pendingOf s).size - 2 - 1]?.map (·.2.1) else none).any (·< ((pendingOf s)[(pendingOf s).size - 2+1]?.elim 0 (·.2.1)))=true then(pendingOf s).size - 2 - 1 else(pendingOf s).size - 2)
  if(!c)=true then pure (.done (some (),())) else pure (.yield (none,()))
noncomputable def srAll:SM Unit:=do
 let s ← get
 let t ← forIn [0:(arrOf s).size] ((none,0):RSt) fun z c=>srA (arrOf s).size (minRun' (arrOf s).size (arrOf s).size 0) c.2
 match t.1 with
 |some r=>pure r
 |none=>do
  let t ← forIn [0:(arrOf s).size] ((none,()):USt) fun z z=>srF
  match t.1 with
  |some r=>pure r
  |none=>pure ()
theorem zec:sortRuns'=srAll:=by kernel_rfl
section
variable {X:Sc}{L P S:List Nat}{pd:List (Nat × Nat × Nat)}{g:Nat}
def SIn (X:Sc) (L:List Nat) (x:Nat):RSt→SortSt→Prop:=fun c st=>∃ P S pd g,SRn X L P S pd∧c=(none,P.length)∧st=X.st (P++S) pd g∧x≤P.length
def SDn (X:Sc) (L:List Nat):RSt→SortSt→Prop:=fun c st=>∃ P pd g m,SRn X L P [] pd∧c=(none,m)∧st=X.st P pd g
theorem zg3 {C R:List Nat}{x lo:Nat}(s:SRn X L P (C++R) pd) (u:X.Up C) (h:0 < C.length) (hlo:lo=P.length) (hx:x≤P.length):X.W (srEnd lo C.length) (Nx (SDn X L) (SIn X L (x+1))) (X.st (P++(C++R)) pd g):=by
 refine W.bind (W.modify (W.pure ?_));subst hlo;have r:=s.rn.push u h 0;rw[Nat.zero_add] at r;refine⟨P++C,R,pd++[(P.length,C.length,0)],g,⟨by rw[yJ];exact s.pm,r⟩,by rw[zQ],?_,by rw[zQ];exact Nat.add_le_add hx h⟩
 show SortSt.mk' X.κ (X.arr (P++(C++R))) (pd.toArray.push (P.length,C.length,0)) g none=_;rw[List.push_toArray,← yJ];rfl
theorem zpz (hL:X.In L) (s:SRn X L P S pd){pw n:Nat}(hn:P.length=n){Q:SQ USt}(hq:∀ P' pd' g',SRn X L P' S pd'→P'.length=n→Q (none,()) (X.st (P'++S) pd' g')) :
  X.W (srP pw) (Nx Q fun c st'=>∃ P' pd' g',SRn X L P' S pd'∧P'.length=n∧c=(none,())∧st'=X.st (P'++S) pd' g') (X.st (P++S) pd g):=by
 refine W.bind (W.get ?_);have dn:Nx Q (fun c st'=>∃ P' pd' g',SRn X L P' S pd'∧P'.length=n∧c=(none,())∧st'=X.st (P'++S) pd' g') (.done (none,())) (X.st (P++S) pd g):=hq P pd g s hn;have ep:pendingOf (X.st (P++S) pd g)=pd.toArray:=rfl;rw[ep,size_toArray]
 by_cases h1:pd.length > 1
 ·rw[zT h1]
  cases pd.toArray[pd.length - 2]? with
  |none=>exact W.pure dn
  |some v =>
   obtain⟨a,b,older⟩:=v;refine W.ite (fun z=>W.pure dn) (fun z=>W.bind (zdM hL s (Nat.le_of_eq (Nat.sub_add_cancel h1)) fun P' pd' g' s' l1 l2=>?_));exact W.ite (fun c=>absurd c (by decide)) (fun z=>W.pure ⟨P',pd',g',s',l1.trans hn,rfl,rfl⟩)
 ·rw[zR h1];exact W.pure dn
theorem zmU (hL:X.In L){C R:List Nat}{x lo size:Nat}(s:SRn X L P (C++R) pd) (u:X.Up C) (h:0 < C.length) (hlo:lo=P.length) (hx:x≤P.length):X.W (srC size lo C.length) (Nx (SDn X L) (SIn X L (x+1))) (X.st (P++(C++R)) pd g):=by
 refine W.bind (W.get ?_)
 cases (pendingOf (X.st (P++(C++R)) pd g)).back? with
 |none=>exact zg3 s u h hlo hx
 |some v =>
  obtain⟨s1,n1,w⟩:=v;show X.W (srD size lo C.length s1 n1) _ _;unfold srD;generalize power' size (2 * s1+n1) (2 * s1+n1+n1+C.length) size=pw;have fin:∀ P' pd' g',SRn X L P' (C++R) pd'→P'.length=P.length→X.W (match ((none,()):USt).1 with
    |some r=>pure (.done (some r,lo))
    |none=>do
     modify fun s=>setPending s ((pendingOf s).modify ((pendingOf s).size - 1) fun x=>(x.1,x.2.1,pw))
     srEnd lo C.length) (Nx (SDn X L) (SIn X L (x+1))) (X.st (P'++(C++R)) pd' g'):=fun P' pd' g' s' l=>by
   refine W.bind (W.modify ?_);have e:setPending (X.st (P'++(C++R)) pd' g') ((pendingOf (X.st (P'++(C++R)) pd' g')).modify ((pendingOf (X.st (P'++(C++R)) pd' g')).size - 1) fun x=>(x.1,x.2.1,pw))=X.st (P'++(C++R)) (pd'.modify (pd'.length - 1) fun x=>(x.1,x.2.1,pw)) g':=by
    show SortSt.mk' X.κ (X.arr (P'++(C++R))) (pd'.toArray.modify (pd'.toArray.size - 1) fun x=>(x.1,x.2.1,pw)) g' none=_;rw[size_toArray,List.modify_toArray];rfl
   rw[e];exact zg3 ⟨s'.pm,s'.rn.weigh pw _⟩ u h (hlo.trans l.symm) (by rw[l];exact hx)
  refine W.bind (W.loop (fun z c st'=>∃ P' pd' g',SRn X L P' (C++R) pd'∧P'.length=P.length∧c=(none,())∧st'=X.st (P'++(C++R)) pd' g') ?_ ?_ ⟨P,pd,g,s,rfl,rfl,rfl⟩)
  ·rintro i c st' hi ⟨P',pd',g',s',l,rfl,rfl⟩
   exact zpz hL s' l fin
  ·rintro c st' ⟨P',pd',g',s',l,rfl,rfl⟩
   exact fin P' pd' g' s' l
theorem zpA (hL:X.In L) (s:SRn X L P S pd){x m:Nat}(hx:x≤P.length):X.W (srA L.length m P.length) (Nx (SDn X L) (SIn X L (x+1))) (X.st (P++S) pd g):=by
 have hl:P.length+S.length=L.length:=by rw[←zQ];exact s.pm.length_eq
 refine W.ite (fun c=>?_) (fun c=>?_)
 ·have:S=[]:=List.length_eq_zero_iff.1 (Nat.le_zero.1 (Nat.le_of_add_le_add_left (a:=P.length) (by rw[hl];exact c)))
  subst this;exact W.pure ⟨P,pd,g,P.length,s,rfl,by rw[append_nil]⟩
 ·have hs:L.length - P.length=S.length:=by rw[←hl,Nat.add_sub_cancel_left]
  rw[hs];have hin:X.In (P++S):=fun y hy=>hL y (s.pm.mem_iff.1 hy);refine W.bind (W.mono (zpc hin (by rw[←hs];exact Nat.sub_pos_of_lt (Nat.lt_of_not_le c))) ?_)
  rintro c st' ⟨C,R,rfl,c0,u,p,rfl⟩
  have s':SRn X L P (C++R) pd:=⟨(List.Perm.append_left P p).trans s.pm,s.rn⟩;have hin':X.In (P++(C++R)):=fun y hy=>hL y (s'.pm.mem_iff.1 hy);have lc:C.length≤S.length:=by rw[←p.length_eq,zQ];exact Nat.le_add_right _ _
  show X.W (srB L.length m P.length C.length) _ _;refine W.ite (fun h=>W.bind (W.rule (W.bind ?_))) (fun z=>zmU hL s' u c0 rfl hx);rw[hs];refine zq8 hin' u c0 (Nat.le_min.2 ⟨lc,Nat.le_of_lt h⟩) (by rw[p.length_eq];exact Nat.min_le_left _ _) fun C' R' u' l' p'=>?_
  refine W.ite (fun c=>absurd c (by decide)) (fun z=>?_)
  rw[←l'];exact zmU hL ⟨(List.Perm.append_left P p').trans s'.pm,s.rn⟩ u' (by rw[l'];exact Nat.lt_of_lt_of_le c0 (Nat.le_min.2 ⟨lc,Nat.le_of_lt h⟩)) rfl hx
noncomputable def SZn (X:Sc) (L:List Nat):SQ Unit:=fun z st=>∃ p pd g,st=X.st p pd g∧p.Perm L∧X.Up p
theorem zk7 (hL:X.In L):X.W sortRuns' (SZn X L) (X.st L [] g):=by
 rw[zec];refine W.bind (W.get ?_);have ez:(arrOf (X.st L [] g)).size=L.length:=zaw L;rw[ez];have fin:∀ P pd g,SRn X L P [] pd→pd.length≤1→SZn X L () (X.st P pd g):=fun P pd g s h=>⟨P,pd,g,rfl,by rw[←append_nil P];exact s.pm,s.rn.one h⟩
 have next:∀ c st,SDn X L c st→X.W (match c.1 with
   |some r=>pure r
   |none=>do
    let t ← forIn [0:L.length] ((none,()):USt) fun z z=>srF
    match t.1 with
    |some r=>pure r
    |none=>pure ()) (SZn X L) st:=by
  rintro c st ⟨P,pd,g,m,s,rfl,rfl⟩
  have hl:P.length=L.length:=by rw[←append_nil P];exact s.pm.length_eq
  refine W.bind (W.loop (fun x c st'=>∃ P' pd' g',SRn X L P' [] pd'∧c=(none,())∧st'=X.st P' pd' g'∧pd'.length+x≤L.length) ?_ ?_ ⟨P,pd,g,s,rfl,rfl,by rw[Nat.add_zero,← hl];exact s.rn.len⟩)
  ·rintro x c st' hx ⟨P',pd',g',s',rfl,rfl,hp⟩
   refine W.bind (W.get ?_);have ep:pendingOf (X.st P' pd' g')=pd'.toArray:=rfl;rw[ep,size_toArray];refine W.ite (fun c=>W.pure (W.pure (fin P' pd' g' s' c))) (fun c=>W.bind ?_);have s'':=s';rw[←append_nil P'];refine zdM hL s' ?_ fun P2 pd2 g2 s2 z l2=>W.ite (fun c=>absurd c (by decide)) (fun z=>W.pure ⟨P2,pd2,g2,s2,rfl,by rw[append_nil],by omega⟩)
   by_cases hb:(if pd'.length - 2 > 0 then pd'.toArray[pd'.length - 2 - 1]?.map (·.2.1) else none).any (·< (pd'.toArray[pd'.length - 2+1]?.elim 0 (·.2.1)))=true
   ·rw[zT hb];omega
   ·rw[zR hb];omega
  ·rintro c st' ⟨P',pd',g',s',rfl,rfl,hp⟩
   exact W.pure (fin P' pd' g' s' (by omega))
 refine W.bind (W.loop (SIn X L) ?_ ?_ ⟨[],L,[],g,⟨List.Perm.refl _,.nil 0⟩,rfl,rfl,Nat.le_refl _⟩)
 ·rintro x c st' hx ⟨P,S,pd,g,s,rfl,rfl,hp⟩
  refine W.mono (zpA hL s hp) fun c st' h=>?_
  cases c with
  |done c=>exact next c st' h
  |yield c=>exact h
 ·rintro c st' ⟨P,S,pd,g,s,rfl,rfl,hp⟩
  have:S=[]:=by
   have e:=s.pm.length_eq;rw[zQ] at e;exact List.length_eq_zero_iff.1 (Nat.le_zero.1 (Nat.le_of_add_le_add_left (a:=P.length) (by rw[e];exact hp)))
  subst this;refine next _ _ ⟨P,pd,g,P.length,?_,rfl,?_⟩
  ·exact s
  ·rw[append_nil]
end
end Mine.Internal
namespace Mine.Internal
open PySem PySem.W PyProof.Rows PySem.MeetsSeq PySem.MeetsSeq3
open AutoSeq1 (wpAny_loadPart')
theorem zgF {xs:List Value}{is:List Int}(h:IntsAre xs is):∀ {i:Nat},i < xs.length→∃ n t,xs[i]?=some (.int n t)∧is.drop i=n::is.drop (i+1):=by
 induction h with
 |nil=>intro i hi;simp at hi
 |@cons n t vs ns _ ih =>
  intro i hi
  cases i with
  |zero=>exact⟨n,t,rfl,rfl⟩
  |succ i =>
   obtain⟨m,u,h1,h2⟩:=ih (i:=i) (by simpa using hi)
   exact⟨m,u,by simpa using h1,by simpa using h2⟩
theorem zl7 (h:IntsAre xs is):is.length=xs.length:=by
 induction h with
 |nil=>rfl
 |cons _ _ _ ih=>simp[ih]
theorem zeC (h:IntsAre xs is) (hi:xs.length≤i):is.drop i=[]:=by
 exact drop_of_length_le (by rw[zl7 h];exact hi)
theorem zos (l b:Addr) (d1 d2:Option Addr) (s1 s2:Array (Option Value)) (xs ys:List Value) (is js:List Int) (n n2:Nat) (h1:IntsAre xs is) (h2:IntsAre ys js) (k:Nat) :
  ∀ i:Nat,i≤ys.length→i+k=xs.length→Meets (Builtin.«list.__eq__.loop» ⟨[.ref l,.ref b,rawInt i,rawInt 0],[]⟩)
   (fun z R s=>s.heap.get? l=some { cls:=.type "list",dict:=d1,data:=.seq xs.toArray n,slots:=s1 }∧s.heap.get? b=some { cls:=.type "list",dict:=d2,data:=.seq ys.toArray n2,slots:=s2 } ∧
    R (.ok (.ret (.bool (lexLt (is.drop i) (js.drop i))))) s):=by
 have fin:∀ {R:Result→Shared→Prop}{s:Shared}{v:Bool},R (.ok (.ret (.bool v))) s→v=decide (xs.length < ys.length)→R (.ok (.ret (.bool (decide (xs.toArray.size < ys.toArray.size))))) s:=fun h e=>by
  rw[size_toArray,size_toArray,← e];exact h
 induction k with
 |zero =>
  intro i hj hk prog w A R s h;obtain⟨hp,g,d,tk,os⟩:=s;obtain⟨hl,hb,h⟩:=h
  wp_walk using wpAny_loadPart' hl,wpAny_loadPart' hb
  have hi1:xs.toArray[((i:Nat):Int).toNat]?=none:=by simp;exact Nat.le_of_eq hk.symm
  rw[hi1];rw[zeC h1 (i:=i) (Nat.le_of_eq hk.symm)] at h
  cases hy:ys.toArray[((i:Nat):Int).toNat]? with
  |none =>
   have hy':ys.length≤i:=by simpa using hy
   wp_walk using wpAny_loadPart' hl,wpAny_loadPart' hb
   rw[zeC h2 hy'] at h;exact fin h (zU (Nat.not_lt.2 (zX hy' (Nat.le_of_eq hk)))).symm
  |some y =>
   have hy':i < ys.length:=by
    have:=(Array.getElem?_eq_some_iff.1 hy).1
    simpa using this
   obtain⟨m,u,_,e2⟩:=zgF h2 hy';rw[e2] at h
   wp_walk using wpAny_loadPart' hl,wpAny_loadPart' hb
   exact fin h (zW (Nat.lt_of_le_of_lt (Nat.le_of_eq hk.symm) hy')).symm
 |succ k ih =>
  intro i hj hk prog w A R s h;obtain⟨hp,g,d,tk,os⟩:=s;obtain⟨hl,hb,h⟩:=h
  wp_walk using wpAny_loadPart' hl,wpAny_loadPart' hb
  obtain⟨x,t,hx,ex⟩:=zgF h1 (i:=i) (hk ▸ Nat.lt_add_of_pos_right (Nat.succ_pos k));have hi1:xs.toArray[((i:Nat):Int).toNat]?=some (.int x t):=by simpa using hx
  rw[hi1];rw[ex] at h
  rcases Nat.lt_or_ge i ys.length with hlt|hge
  ·obtain⟨y,u,hy,ey⟩:=zgF h2 hlt
   have hi2:ys.toArray[((i:Nat):Int).toNat]?=some (.int y u):=by simpa using hy
   rw[hi2];rw[ey] at h;refine yX (wpAny_eqBool_int ?_);have hc:((i:Int)+1)=((i+1:Nat):Int):=by push_cast;rfl
   by_cases hxy:x=y
   ·rw[zT (by simpa using hxy),hc]
    rw[zdb,zT hxy] at h
    wp_walk
    exact⟨plainId_quiet plain_eq_loop _,codeAny_builtin entry_eq_loop (by
     rw[Around.under_plainId plain_eq_loop _];exact ih (i+1) hlt (by rw[Nat.add_assoc,Nat.add_comm 1 k];exact hk) prog w A R _ ⟨hl,hb,h⟩)⟩
   ·rw[zR (by simpa using hxy)]
    rw[zdb,zR hxy] at h
    wp_walk using wpAny_loadPart' hl,wpAny_loadPart' hb
    rw[hi1,hi2];refine yX (PyProof.Rows.lt_int ?_);exact yW h
  ·have hi2:ys.toArray[((i:Nat):Int).toNat]?=none:=by simpa using hge
   rw[hi2]
   wp_walk using wpAny_loadPart' hl,wpAny_loadPart' hb
   rw[zeC h2 hge] at h;exact fin h (zU (Nat.not_lt.2 (zX hge (hk ▸ Nat.le_add_right ..)))).symm
theorem zlL (l b:Addr) (d1 d2:Option Addr) (s1 s2:Array (Option Value)) (xs ys:List Value) (is js:List Int) (n1 n2:Nat) (I1:IntsAre xs is) (I2:IntsAre ys js):Meets (Builtin.«list.__lt__» ⟨[.ref l,.ref b],[]⟩)
  (fun z R s=>s.heap.get? l=some ⟨.type "list",d1,.seq xs.toArray n1,s1⟩∧s.heap.get? b=some ⟨.type "list",d2,.seq ys.toArray n2,s2⟩∧R (.ok (.ret (.bool (lexLt is js)))) s):=by
 intro prog w A R s h;obtain⟨hp,g,d,tk,os⟩:=s;obtain⟨hl,hb,h⟩:=h;have f3:=AutoSeq1.sub_list_list
 wp_walk using AutoSeq1.wpAny_loadPart' hl,AutoSeq1.wpAny_loadPart' hb
 exact⟨plainId_quiet MeetsSeq3.plain_eq_loop _,codeAny_builtin MeetsSeq3.entry_eq_loop (by
  rw[Around.under_plainId MeetsSeq3.plain_eq_loop _];exact zos l b d1 d2 s1 s2 xs ys is js n1 n2 I1 I2 xs.length 0 (Nat.zero_le _) (Nat.zero_add _) prog w A R _ ⟨hl,hb,by simpa using h⟩)⟩
end Mine.Internal
namespace Mine.Internal
open PySem PySem.W PyProof.Rows
section
variable {prog:Program}{w:World}{A:Around}{E:Value→Shared→Prop}{s:Shared}
theorem zie {Q:Bool→Shared→Prop}(hu:A.units < cLine) (h1:s.heap.IsList l xs.toArray) (h2:s.heap.IsList b ys.toArray) (I1:IntsAre xs is) (I2:IntsAre ys js) (h:Q (lexLt is js) s) :
  wpAny (model prog w) A (keyLt' oneType' (.ref l) (.ref b)) Q E s:=by
 obtain⟨⟨k1,d1,u1,s1⟩,ho1,c1,n1,e1⟩:=h1;obtain⟨⟨k2,d2,u2,s2⟩,ho2,c2,n2,e2⟩:=h2;simp only at c1 c2 e1 e2;subst c1 c2 e1 e2;rw[keyLt'_oneType,oneLt'_eq];simp only[if_true];refine yX (wpAny_cRoomFor hu ?_);exact yX (wpAny_callSpecialIfBound?_slot ⟨_,ho1,rfl⟩ F.slot_list_lt (call_meets F.slot_list_lt ⟨_,ho1,rfl⟩ F.entry_list_lt (F.args_list_lt_2 _ _) (zlL l b d1 d2 s1 s2 xs ys is js n1 n2 I1 I2) ⟨ho1,ho2,wpAny_truthy_bool h⟩))
noncomputable def zbQ (h:Heap) (a:Addr) (vs:List Value):Heap:=((h.update a (Obj.mapSeq fun z=>#[])).push (seqObj "tuple" vs.toArray 0)).push (seqObj "list" #[] 0)
theorem zen {κ:SortKind}{r:Nat→Nat}{P:PySem.Fin→Shared→Prop}(ho:s.heap.get? a=some (seqObj "list" vs.toArray n)) (h2:2≤vs.length) (hle:vs.length≤sizeLine)
  (hk:∀ {Q:SortKind→Shared→Prop},Q κ { s with heap:=zbQ s.heap a vs }→wpAny (model prog w) A (keyKind' vs.toArray) Q E { s with heap:=zbQ s.heap a vs })
  (hc:∀ i j C,i < vs.length→j < vs.length→C (decide (r i < r j)) { s with heap:=zbQ s.heap a vs }→kas_ask prog w A κ vs i j C { s with heap:=zbQ s.heap a vs })
  (h:∀ p:List Nat,p.Perm (List.range vs.length)→(p.Pairwise fun x y=>r x≤r y)→P (.done (.ret .none)) { s with heap:=sortedHeap s.heap a vs (p.map fun i=>vs.getD i Value.none).toArray }) :
  wpAny (model prog w) A (Builtin.«list.sort» ⟨[.ref a],[]⟩) P E s:=by
 rw[list_sort_plain];refine yX (listItems_at ho rfl (yX (listUpdate_at ho rfl ?_ (by rw[size_toArray];exact hle) (Nat.zero_le _))))
 obtain⟨e1,ho1⟩:∃ e1,(s.heap.update a (Obj.mapSeq fun u=>#[])).get? a=some (seqObj "list" #[] e1):=⟨_,get?_update_seq ho (fun u=>#[])⟩;refine yX (seqEpoch_at ho1 rfl (yX (wpAny_newTuple (yX (wpAny_newList (yU ?_) (Nat.zero_le _))) hle)));have ho6:(zbQ s.heap a vs).get? a=some (seqObj "list" #[] e1) :=
  Heap.get?_push_of_some _ (Heap.get?_push_of_some _ ho1)
 show wpAny (model prog w) A _ P E { s with heap:=zbQ s.heap a vs }
 dsimp only;have hn2:¬ vs.toArray.size < 2:=by rw[size_toArray];omega
 rw[zR hn2,zR hn2];refine yX (hk ?_);have run:=zk7 (X:=⟨model prog w,A,E,{ s with heap:=zbQ s.heap a vs },κ,pairsOf vs,vs.length,r,fun i j C hi hj hC=>by rw[kas_item_eq,kas_item_eq];exact hc i j C hi hj hC⟩) (L:=List.range vs.length) (g:=7) fun x hx=>List.mem_range.1 hx
 have est:SortSt.mk' κ (vs.toArray.zip vs.toArray) #[] 7 none=SortSt.mk' κ ((List.range vs.length).map (kas_item (pairsOf vs))).toArray (List.toArray []) 7 none:=by
  have e:=kas_range (pairsOf vs);rw[pairsOf_size,map_toArray] at e;show SortSt.mk' κ (pairsOf vs) #[] 7 none=_;rw[e]
 rw[est];refine yX (yV run (fun c s' z=>?_) fun u u e=>e);refine hold fun u k_=>?_;obtain⟨e1,p,pd,g,e2,hp,hu⟩:=z;refine k_ ?_;rw[e1,e2];have hout:((p.map (kas_item (pairsOf vs))).toArray).map (·.2)=(p.map fun i=>vs.getD i Value.none).toArray:=by
  rw[map_toArray,map_map];exact congrArg List.toArray (map_congr_left fun i u=>by show(kas_item (pairsOf vs) i).2=_;rw[kas_item_eq])
 show wpAny _ _ ((seqEpoch a) >>= _) _ _ _;refine yX (seqEpoch_at ho6 rfl (yX (listUpdate_at ho6 rfl ?_ (Nat.zero_le _) (by
  show(((p.map (kas_item (pairsOf vs))).toArray).map (·.2)).size≤_;rw[hout,size_toArray,zJ,hp.length_eq,length_range];exact Nat.le_succ_of_le hle))))
 rw[bne_self_eq_false,zR Bool.false_ne_true];refine yW ?_;have:=h p hp hu;rw[←hout] at this;exact this
end
end Mine.Internal
namespace Mine.Internal
structure Ord {α:Type}(lt:α→α→Bool):Prop where
 irr:∀ a,lt a a=false
 tr:∀ a b c,lt a b=true→lt b c=true→lt a c=true
 tot:∀ a b,lt a b=false→lt b a=false→a=b
theorem zkC {β:Type}{p q:β→Bool}{l:List β}(hpq:∀ x∈l,p x=true→q x=true){x:β}(hx:x∈l) (h1:p x=false) (h2:q x=true):l.countP p < l.countP q:=by
 induction l with
 |nil=>cases hx
 |cons a l ih =>
  have hl:∀ x∈l,p x=true→q x=true:=fun x hx=>hpq x (zY _ hx);rw[List.countP_cons,List.countP_cons]
  rcases zN.1 hx with rfl|hx
  ·rw[h1,h2];exact Nat.lt_succ_of_le (List.countP_mono_left hl)
  ·have:=ih hl hx
   have ha:=hpq a (zZ ..)
   cases hpa:p a with
   |true=>rw[ha hpa];exact Nat.add_lt_add_right this _
   |false=>exact Nat.lt_of_lt_of_le this (Nat.le_add_right ..)
section
variable {α:Type}{lt:α→α→Bool}
noncomputable def rank (lt:α→α→Bool) (key:Nat→α) (n i:Nat):Nat:=(List.range n).countP fun j=>lt (key j) (key i)
theorem zjr (o:Ord lt){key:Nat→α}{n i j:Nat}(hi:i < n) (hj:j < n):lt (key i) (key j)=decide (rank lt key n i < rank lt key n j):=by
 have up:∀ i j,i < n→lt (key i) (key j)=true→rank lt key n i < rank lt key n j:=fun i j hi h =>
  zkC (fun x z hx=>o.tr _ _ _ hx h) (List.mem_range.2 hi) (o.irr _) h
 cases h:lt (key i) (key j) with
 |true=>exact(zW (up i j hi h)).symm
 |false =>
  cases h':lt (key j) (key i) with
  |true=>exact(zU (Nat.lt_asymm (up j i hj h'))).symm
  |false =>
   have:=o.tot _ _ h h';refine(zU ?_).symm;unfold rank;rw[this];exact Nat.lt_irrefl _
theorem zhk (x:α) (l:List α):(isort.insertBy' lt x l).Perm (x::l):=by
 induction l with
 |nil=>exact List.Perm.refl _
 |cons y ys ih =>
  rw[zcK]
  split
  ·exact(ih.cons y).trans (List.Perm.swap ..)
  ·exact List.Perm.refl _
theorem za5 (l:List α):(isort lt l).Perm l:=by
 induction l with
 |nil=>exact List.Perm.refl _
 |cons x xs ih=>exact(zhk x _).trans (ih.cons x)
theorem zqA {le:α→α→Prop}(h1:∀ a b,lt a b=true→le a b) (h2:∀ a b,lt a b=false→le b a) (ht:∀ a b c,le a b→le b c→le a c) (x:α) (l:List α) (h:l.Pairwise le):(isort.insertBy' lt x l).Pairwise le:=by
 induction l with
 |nil=>exact pairwise_singleton ..
 |cons y ys ih =>
  obtain⟨h3,h4⟩:=List.pairwise_cons.1 h;rw[zcK]
  cases hc:lt y x with
  |true =>
   refine List.pairwise_cons.2 ⟨fun z hz=>?_,ih h4⟩
   rcases zN.1 ((zhk x ys).mem_iff.1 hz) with rfl|hz
   ·exact h1 _ _ hc
   ·exact h3 z hz
  |false =>
   have hle:=h2 y x hc;refine List.pairwise_cons.2 ⟨fun z hz=>?_,h⟩
   rcases zN.1 hz with rfl|hz
   ·exact hle
   ·exact ht _ _ _ hle (h3 z hz)
theorem zez {le:α→α→Prop}(h1:∀ a b,lt a b=true→le a b) (h2:∀ a b,lt a b=false→le b a) (ht:∀ a b c,le a b→le b c→le a c) (l:List α):(isort lt l).Pairwise le:=by
 induction l with
 |nil=>exact List.Pairwise.nil
 |cons x xs ih=>exact zqA h1 h2 ht x _ ih
theorem Ord.asymm (o:Ord lt) (h:lt a b=true):lt b a=false:=by
 cases h':lt b a with
 |false=>rfl
 |true=>have:=o.tr _ _ _ h h';rw[o.irr] at this;cases this
theorem Ord.le_tr (o:Ord lt) (h1:lt b a=false) (h2:lt c b=false):lt c a=false:=by
 cases h:lt c a with
 |false=>rfl
 |true =>
  cases h3:lt a b with
  |true=>have:=o.tr _ _ _ h h3;rw[h2] at this;cases this
  |false=>have e:=o.tot _ _ h3 h1;subst e;rw[h2] at h;cases h
end
theorem zoh:Ord fun a b:Int=>decide (a < b):=⟨fun a=>zU (Int.lt_irrefl a),fun a b c h1 h2=>zW (Int.lt_trans (zV h1) (zV h2)),fun a b h1 h2=>Int.le_antisymm (Int.not_lt.1 (of_decide_eq_false h2)) (Int.not_lt.1 (of_decide_eq_false h1))⟩
theorem zjU (a:List Int):lexLt a a=false:=by
 induction a with
 |nil=>rfl
 |cons x a ih=>rw[zdb,zT rfl];exact ih
theorem zm8 (a b c:List Int) (h1:lexLt a b=true) (h2:lexLt b c=true):lexLt a c=true:=by
 induction a generalizing b c with
 |nil=>cases b with
  |nil=>cases h1
  |cons _ _=>cases c with
   |nil=>cases h2
   |cons _ _=>rfl
 |cons x a ih=>cases b with
  |nil=>cases h1
  |cons y b=>cases c with
   |nil=>cases h2
   |cons z c =>
    rw[zdb] at h1 h2 ⊢
    by_cases e1:x=y
    ·subst e1
     rw[zT rfl] at h1
     by_cases e2:x=z
     ·subst e2
      rw[zT rfl] at h2 ⊢
      exact ih b c h1 h2
     ·rw[zR e2] at h2 ⊢;exact h2
    ·rw[zR e1] at h1
     have h1:=zV h1
     by_cases e2:y=z
     ·subst e2
      rw[zR e1];exact zW h1
     ·rw[zR e2] at h2
      have h2:=zV h2;rw[zR fun q=>absurd (Int.lt_trans h1 h2) (by rw[q];exact Int.lt_irrefl _)];exact zW (Int.lt_trans h1 h2)
theorem zjT (a b:List Int) (h1:lexLt a b=false) (h2:lexLt b a=false):a=b:=by
 induction a generalizing b with
 |nil=>cases b with
  |nil=>rfl
  |cons _ _=>cases h1
 |cons x a ih=>cases b with
  |nil=>cases h2
  |cons y b =>
   rw[zdb] at h1 h2
   by_cases e:x=y
   ·subst e
    rw[zT rfl] at h1 h2;rw[ih b h1 h2]
   ·rw[zR e] at h1
    rw[zR (Ne.symm e)] at h2;exact absurd (Int.le_antisymm (Int.not_lt.1 (of_decide_eq_false h2)) (Int.not_lt.1 (of_decide_eq_false h1))) e
theorem zog:Ord lexLt:=⟨zjU,zm8,zjT⟩
end Mine.Internal
namespace Mine.Internal
open PySem PySem.W PyProof.Rows
section
variable {α:Type}{lt:α→α→Bool}
theorem zeb (o:Ord lt){β:Type}{L:List (α × β)}{d:α × β}(det:∀ p∈L,∀ q∈L,p.1=q.1→p.2=q.2){p:List Nat}(hp:p.Perm (List.range L.length)) (hu:p.Pairwise fun x y=>rank lt (fun i=>(L.getD i d).1) L.length x≤rank lt (fun i=>(L.getD i d).1) L.length y) :
  p.map (fun i=>L.getD i d)=isort (fun a b=>lt a.1 b.1) L:=by
 have pm:(p.map fun i=>L.getD i d).Perm L:=by
  have h2:=hp.map fun i=>L.getD i d;have h3:(List.range L.length).map (fun i=>L.getD i d)=L:=List.ext_getElem (by simp) fun i h1 h2=>by simp[h2]
  rwa [h3] at h2
 refine List.Perm.eq_of_pairwise (le:=fun a b=>lt b.1 a.1=false) (fun a b ha hb h1 h2=>?_) ?_ (zez (lt:=fun a b:α × β=>lt a.1 b.1) (le:=fun a b=>lt b.1 a.1=false) (fun a b h=>o.asymm h) (fun a b h=>h) (fun a b c h1 h2=>o.le_tr h1 h2) L) (pm.trans (za5 L).symm)
 ·have ha:=pm.mem_iff.1 ha
  have hb:=(za5 L).mem_iff.1 hb;have e1:=o.tot _ _ h2 h1;exact Prod.ext e1 (det a ha b hb e1)
 ·refine List.pairwise_map.2 (List.Pairwise.imp_of_mem (fun {x y} hx hy h=>?_) hu)
  have lx:=List.mem_range.1 (hp.mem_iff.1 hx);have ly:=List.mem_range.1 (hp.mem_iff.1 hy);rw[zjr o (key:=fun i=>(L.getD i d).1) ly lx];exact zU (Nat.not_lt.2 h)
end
section
variable {prog:Program}{w:World}{A:Around}{E:Value→Shared→Prop}{s:Shared}
theorem zc9 {P:PySem.Fin→Shared→Prop}(ho:s.heap.get? a=some (seqObj "list" vs.toArray n)) (h2:vs.length < 2)
  (h:P (.done (.ret .none)) { s with heap:=sortedHeap s.heap a vs vs.toArray }):wpAny (model prog w) A (Builtin.«list.sort» ⟨[.ref a],[]⟩) P E s:=by
 rw[list_sort_plain];have hle:vs.length≤sizeLine:=by rw[sizeLine_eq];omega
 refine yX (listItems_at ho rfl (yX (listUpdate_at ho rfl ?_ (by rw[size_toArray];exact hle) (Nat.zero_le _))))
 obtain⟨e1,ho1⟩:∃ e1,(s.heap.update a (Obj.mapSeq fun z=>#[])).get? a=some (seqObj "list" #[] e1):=⟨_,get?_update_seq ho (fun z=>#[])⟩;refine yX (seqEpoch_at ho1 rfl (yX (wpAny_newTuple (yX (wpAny_newList (yU ?_) (Nat.zero_le _))) hle)));have ho6:(((s.heap.update a (Obj.mapSeq fun z=>#[])).push (seqObj "tuple" vs.toArray 0)).push (seqObj "list" #[] 0)).get? a=some (seqObj "list" #[] e1) :=
  Heap.get?_push_of_some _ (Heap.get?_push_of_some _ ho1)
 show wpAny (model prog w) A _ P E { s with heap:=((s.heap.update a (Obj.mapSeq fun z=>#[])).push (seqObj "tuple" vs.toArray 0)).push (seqObj "list" #[] 0) }
 dsimp only;have hn2:vs.toArray.size < 2:=by rw[size_toArray];omega
 rw[zT hn2,zT hn2];refine yX (yW ?_);rw[StateT.run_pure];refine yX (yW ?_);dsimp only;have hout:(vs.toArray.zip vs.toArray).map (·.2)=vs.toArray:=by
  apply Array.toList_inj.mp
  rw[Array.toList_map];show List.map _ (pairsOf vs).toList=vs;rw[pairsOf_toList];exact List.map_snd_zip (Nat.le_refl _)
 rw[show arrOf (SortSt.mk' general' (vs.toArray.zip vs.toArray) #[] 7 none)=vs.toArray.zip vs.toArray from rfl,hout];refine yX (seqEpoch_at ho6 rfl (yX (listUpdate_at ho6 rfl ?_ (Nat.zero_le _) (by show vs.toArray.size≤_;rw[size_toArray];omega))))
 simp only[bne_self_eq_false,Bool.false_eq_true,if_false];exact yW h
theorem zhW {κ:SortKind}{r:Nat→Nat}{Q:Value→Shared→Prop}(hl:s.heap.IsList l vs.toArray) (hle:vs.length≤sizeLine)
  (hk:2≤vs.length→∀ {A:Around}{E:Value→Shared→Prop}{h':Heap}{Q:SortKind→Shared→Prop},(∀ b o,s.heap.get? b=some o→h'.get? b=some o)→Q κ { s with heap:=h' }→wpAny (model prog w) A (keyKind' vs.toArray) Q E { s with heap:=h' })
  (hc:∀ i j C h',i < vs.length→j < vs.length→(∀ b o,s.heap.get? b=some o→h'.get? b=some o)→C (decide (r i < r j)) { s with heap:=h' }→kas_ask prog w A.in1.in1 κ vs i j C { s with heap:=h' })
  (h1:vs.length < 2→Q (.ref (s.heap.objs.size+1)) { s with heap:=sortedAll s.heap vs vs.toArray })
  (h:∀ p:List Nat,p.Perm (List.range vs.length)→(p.Pairwise fun x y=>r x≤r y)→Q (.ref (s.heap.objs.size+1)) { s with heap:=sortedAll s.heap vs (p.map fun i=>vs.getD i Value.none).toArray }) :
  wpAny (model prog w) A (call (.builtin "sorted") [.ref l]) Q E s:=by
 refine Calls.call_function_entry kind_sorted plain_sorted entry_sorted (args_sorted1 _) ?_;unfold Builtin.«sorted»
 refine yX (m:=checkCount "sorted" 1 1 _) (yW (yX (collect_list hl (yX (wpAny_newList ?_ hle)) hle)));have hsz:((s.heap.push (seqObj "list" #[] 0)).update s.heap.objs.size (Obj.mapSeq (·++vs.toArray))).objs.size=s.heap.objs.size+1:=by
  rw[Heap.size_update,size_push']
 have hoL:(((s.heap.push (seqObj "list" #[] 0)).update s.heap.objs.size (Obj.mapSeq (·++vs.toArray))).push (seqObj "list" vs.toArray 0)).get? (s.heap.objs.size+1)=some (seqObj "list" vs.toArray 0):=by
  rw[←hsz];exact Heap.get?_push_size _ rfl
 have keep:∀ b o,s.heap.get? b=some o→(((s.heap.push (seqObj "list" #[] 0)).update s.heap.objs.size (Obj.mapSeq (·++vs.toArray))).push (seqObj "list" vs.toArray 0)).get? b=some o:=fun b o q=>by
  have hlt:b < s.heap.objs.size:=Heap.lt_size q;refine Heap.get?_push_of_some _ ?_;rw[Heap.get?_update_ne _ _ _ _ (Nat.ne_of_lt hlt)];exact Heap.get?_push_of_some _ q
 show wpAny _ _ _ _ _ { s with heap:=((s.heap.push (seqObj "list" #[] 0)).update s.heap.objs.size (Obj.mapSeq (·++vs.toArray))).push (seqObj "list" vs.toArray 0) }
 rw[hsz];refine yX (yU (wpAny_call_entry slot_list_sort ⟨_,hoL,rfl⟩ entry_list_sort ?_ (args_list_sort _)));have keep2:∀ b o,s.heap.get? b=some o→((((((s.heap.push (seqObj "list" #[] 0)).update s.heap.objs.size (Obj.mapSeq (·++vs.toArray))).push (seqObj "list" vs.toArray 0)).update (s.heap.objs.size+1) (Obj.mapSeq fun z=>#[])).push (seqObj "tuple" vs.toArray 0)).push (seqObj "list" #[] 0)).get? b=some o:=fun b o q=>by
  have hlt:b < s.heap.objs.size:=Heap.lt_size q;refine Heap.get?_push_of_some _ (Heap.get?_push_of_some _ ?_);rw[Heap.get?_update_ne _ _ _ _ (Nat.ne_of_lt (Nat.lt_succ_of_lt hlt))];exact keep b o q
 rcases Nat.lt_or_ge vs.length 2 with h2|h2
 ·exact zc9 (s:={ s with heap:=((s.heap.push (seqObj "list" #[] 0)).update s.heap.objs.size (Obj.mapSeq (·++vs.toArray))).push (seqObj "list" vs.toArray 0) }) hoL h2 ⟨_,rfl,yW ⟨_,rfl,h1 h2⟩⟩
 ·exact zen (s:={ s with heap:=((s.heap.push (seqObj "list" #[] 0)).update s.heap.objs.size (Obj.mapSeq (·++vs.toArray))).push (seqObj "list" vs.toArray 0) }) hoL h2 hle (fun hq=>hk h2 keep2 hq) (fun i j C hi hj hC=>hc i j C _ hi hj keep2 hC)
   fun p hp hu=>⟨_,rfl,yW ⟨_,rfl,h p hp hu⟩⟩
end
theorem zb2 {α:Type}{f:V→Option α}:∀ {vs:List V}{L:List (α × V)},keyed f vs=some L→L.length=vs.length∧∀ (i:Nat) (v:V),vs[i]?=some v→∃ a,L[i]?=some (a,v)∧f v=some a
 |[],L,h=>by cases h;exact⟨rfl,fun i v h=>by simp at h⟩
 |v::vs,L,h=>by
  simp only[keyed,Option.bind_eq_some_iff,Option.map_eq_some_iff] at h;obtain⟨a,ha,L',hL,rfl⟩:=h;obtain⟨h1,h2⟩:=zb2 hL;refine⟨by simp[h1],fun i w hw=>?_⟩
  cases i with
  |zero=>simp only[List.getElem?_cons_zero,Option.some.injEq] at hw;subst hw;exact⟨a,rfl,ha⟩
  |succ i=>exact h2 i w (by simpa using hw)
theorem zkR (hv:VRs am π h vs xs):∀ (is:List Nat),(∀ i∈is,i < vs.length)→VRs am π h (is.map fun i=>vs.getD i .none) (is.map fun i=>xs.getD i Value.none)
 |[],_=>rfl
 |i::is,hi=>by
  have h1:=hi i (zZ ..);have e:vs[i]?=some (vs.getD i .none):=by simp[h1]
  obtain⟨x,hx,hvx⟩:=hv.get i _ e;have ex:xs.getD i Value.none=x:=by simp[List.getD_eq_getElem?_getD,hx]
  exact⟨x,_,by rw[yY,ex],hvx,zkR hv is fun j hj=>hi j (zY _ hj)⟩
theorem zgD {α:Type}(lt:α→α→Bool):∀ (L:List α),L.length < 2→isort lt L=L
 |[],_=>rfl
 |[_],_=>rfl
 |_::_::_,h=>absurd h (by simp)
section
variable {am:Amb}{sk:List Env}{A:Around}{π:List Addr}{s:Shared}{Hc:H}
theorem zc5 {vs:List V}{xs:List Value}{ws:List V}{out:List Value}(hv:VRs am π s.heap ws out):NewL am π s ws (.ref (s.heap.objs.size+1)) { s with heap:=sortedAll s.heap xs out.toArray }:=by
 obtain⟨e,he⟩:=sortedAll_at s.heap xs out.toArray;have hn:s.heap.get? (s.heap.objs.size+1)=none:=Heap.get?_none_of_le (Nat.le_succ _);exact⟨_,out,_,s.toks,rfl,rfl,fun b o h=>sortedAll_old h,hn,⟨_,_,he,rfl,rfl,rfl⟩,(hv.held hn).keeps fun b o h=>sortedAll_old h⟩
set_option tactic.hygienic true in
theorem zeX {α:Type} [DecidableEq α] {lt:α→α→Bool}(o:Ord lt){f:V→Option α}{l:Addr}{vs ws:List V}{xs:List Value}{L:List (α × V)}{T:Value}(dflt:α) (hl:s.heap.IsList l xs.toArray) (hv:VRs am π s.heap vs xs) (hL:keyed f vs=some L) (hw:sortBy lt L=some ws)
  (hT:∀ v∈xs,∀ h',(∀ b o,s.heap.get? b=some o→h'.get? b=some o)→Looks am.M h' (typeOf v) T) (hT1:(T != Value.type "tuple")=true) (hT2:(T == T)=true)
  (hc:∀ v x u y a b h',VR am π s.heap v x→VR am π s.heap u y→f v=some a→f u=some b→(∀ b o,s.heap.get? b=some o→h'.get? b=some o)→∀ C:Bool→Shared→Prop,C (lt a b) { s with heap:=h' }→wpAny am.M A.in1.in1 (keyLt' oneType' x y) C (fun z z=>False) { s with heap:=h' })
  {Q:Value→Shared→Prop}{E:Value→Shared→Prop}(h:∀ y s',NewL am π s ws y s'→Q y s'):wpAny am.M A (call (.builtin "sorted") [.ref l]) Q E s:=by
 obtain⟨hlen,hget⟩:=zb2 hL;have hx:=hv.len;unfold sortBy at hw
 split at hw
 ·rename_i hcond
  simp only[Bool.and_eq_true,decide_eq_true_eq,all_eq_true] at hcond;obtain⟨h64,det⟩:=hcond
  cases hw
  have at':∀ i,i < xs.length→∃ v a,vs[i]?=some v∧L[i]?=some (a,v)∧f v=some a∧VR am π s.heap v (xs.getD i Value.none)∧(L.getD i (dflt,.none)).1=a:=fun i hi=>by
   have e:vs[i]?=some (vs.getD i .none):=by
    have:i < vs.length:=by omega
    simp[this]
   obtain⟨a,e1,e2⟩:=hget i _ e;obtain⟨x,e3,e4⟩:=hv.get i _ e;have ex:xs.getD i Value.none=x:=by simp[List.getD_eq_getElem?_getD,e3]
   exact⟨_,a,e,e1,e2,by rw[ex];exact e4,by simp[List.getD_eq_getElem?_getD,e1]⟩
  refine zhW (κ:=oneType') (r:=rank lt (fun i=>(L.getD i (dflt,.none)).1) xs.length) hl (by rw[sizeLine_eq];omega) (fun h2 A' E' h' Q' k hq=>kas_kind h2 (fun v hv=>hT v hv h' k) hT1 hT2 hq) ?_ ?_ ?_
  ·intro i j C h' hi hj k hC
   obtain⟨v,a,_,_,e3,e4,e5⟩:=at' i hi;obtain⟨u,b,_,_,f3,f4,f5⟩:=at' j hj;refine hc v _ u _ a b h' e4 f4 e3 f3 k C ?_;rw[←zjr o hi hj,e5,f5] at hC;exact hC
  ·intro h2
   refine h _ _ (zc5 (vs:=vs) ?_);have:(isort (fun a b=>lt a.1 b.1) L).map (·.2)=vs:=by
    have e:L.map (·.2)=vs:=ext_getElem? fun i=>by
     rw[List.getElem?_map]
     cases hvi:vs[i]? with
     |none=>rw[List.getElem?_eq_none (by rw[hlen];simpa using hvi)];rfl
     |some v=>obtain⟨a,e1,_⟩:=hget i v hvi;rw[e1];rfl
    rw[zgD _ L (by omega),e]
   rw[this];exact hv
  ·intro p hp hu
   refine h _ _ (zc5 (vs:=vs) ?_);have exl:xs.length=L.length:=by omega
   rw[exl] at hp hu;have pm:∀ i∈p,i < L.length:=fun i hi=>List.mem_range.1 (hp.mem_iff.1 hi);rw[←zeb o (d:=(dflt,V.none)) (fun p hp q hq=>det p hp q hq) hp hu,map_map];have e:=zkR hv p (fun i hi=>by have:=pm i hi;omega)
   have e2:(p.map ((fun x:α × V=>x.2)∘fun i=>L.getD i (dflt,V.none)))=p.map fun i=>vs.getD i .none:=map_congr_left fun i hi=>by
    have:=pm i hi;obtain⟨v,a,e1,e2,_⟩:=at' i (by omega)
    simp[List.getD_eq_getElem?_getD,e1,e2]
   rw[e2];exact e
 ·cases hw
end
section
variable {am:Amb}{sk:List Env}{A:Around}{π:List Addr}{s:Shared}{Hc:H}
theorem zdX:∀ {vs:List V}{is:List Int}{xs:List Value},asInts vs=some is→VRs am π h vs xs→IntsAre xs is
 |[],is,xs,e,hv=>by cases e;simp only[VRs] at hv;subst hv;exact .nil
 |v::vs,is,xs,e,hv=>by
  cases v<;>first|(cases e;done)|skip
  simp only[asInts,Option.map_eq_some_iff] at e;obtain⟨js,e,rfl⟩:=e;obtain⟨x,xs',rfl,⟨t,rfl⟩,r⟩:=hv;exact .cons _ _ (zdX e r)
theorem zgB (hr:HR am sk π Hc s.heap) (hvx:VR am π s.heap v x) (hk:keyL Hc v=some is):∃ b ys,x=.ref b∧s.heap.IsList b ys.toArray∧IntsAre ys is:=by
 unfold keyL at hk;obtain⟨us,e1,e2⟩:=Option.bind_eq_some_iff.1 hk;obtain⟨b,ys,rfl,hb,_,hvs⟩:=zao hr hvx e1;exact⟨b,ys,rfl,hb,zdX e2 hvs⟩
theorem ziQ (as:AS n sk A) (hr:HR am sk π Hc s.heap) (ha:VR am π s.heap a x) (hi:litems Hc a=some vs) (hs:sortVs Hc vs=some ws)
  {Q:Value→Shared→Prop}{E:Value→Shared→Prop}(h:∀ y s',NewL am π s ws y s'→Q y s'):wpAny am.M A (call (.builtin "sorted") [x]) Q E s:=by
 obtain⟨l,xs,rfl,hl,hz,hv⟩:=zao hr ha hi;have hu:(A.in1.in1).units < cLine:=by
  have:=as.units;show A.units+1+1 < 9900
  omega
 unfold sortVs at hs
 cases h1:keyed keyI vs with
 |some L =>
  rw[h1] at hs;refine zeX zoh 0 (T:=.type "int") hl hv h1 hs (fun v hm h' k=>?_) rfl rfl ?_ h
  ·obtain⟨i,hi⟩:=List.mem_iff_getElem?.1 hm
   have hlt:=(List.getElem?_eq_some_iff.1 hi).1;have hlen:=hv.len;have e:vs[i]?=some (vs.getD i .none):=by simp[show i < vs.length by omega]
   obtain⟨k',_,e2⟩:=(zb2 h1).2 i _ e;obtain⟨y,e3,e4⟩:=hv.get i _ e;rw[hi] at e3;cases e3
   cases hv':vs.getD i .none<;>rw[hv'] at e2 e4<;>first|(cases e2;done)|skip
   obtain⟨t,rfl⟩:=e4;exact Looks.of_pure rfl
  ·intro v x u y a b h' e1 e2 f1 f2 k C hC
   cases v<;>first|(cases f1;done)|skip
   cases u<;>first|(cases f2;done)|skip
   cases f1;cases f2
   obtain⟨t,rfl⟩:=e1;obtain⟨t',rfl⟩:=e2;rw[keyLt'_oneType];exact oneLt_int hC
 |none =>
  rw[h1] at hs
  cases h2:keyed (keyL Hc) vs with
  |none=>rw[h2] at hs;cases hs
  |some L =>
   rw[h2] at hs;refine zeX zog [] (T:=.type "list") hl hv h2 hs (fun v hm h' k=>?_) rfl rfl ?_ h
   ·obtain⟨i,hi⟩:=List.mem_iff_getElem?.1 hm
    have hlt:=(List.getElem?_eq_some_iff.1 hi).1;have hlen:=hv.len;have e:vs[i]?=some (vs.getD i .none):=by simp[show i < vs.length by omega]
    obtain⟨k',_,e2⟩:=(zb2 h2).2 i _ e;obtain⟨y,e3,e4⟩:=hv.get i _ e;rw[hi] at e3;cases e3
    obtain⟨b,ys,rfl,⟨o,ho,hc,r⟩,_⟩:=zgB hr e4 e2;exact fun A' Q' E' s' k' q=>wpAny_typeOf ⟨o,k' _ _ (k _ _ ho),hc⟩ q
   ·intro v x u y a b h' e1 e2 f1 f2 k C hC
    obtain⟨l1,ys,rfl,⟨o,ho,r⟩,i1⟩:=zgB hr e1 f1;obtain⟨l2,zs,rfl,⟨o',ho',r'⟩,i2⟩:=zgB hr e2 f2;exact zie hu ⟨o,k _ _ ho,r⟩ ⟨o',k _ _ ho',r'⟩ i1 i2 hC
set_option tactic.hygienic true in
theorem zhX (e:sortVs h vs=some ws):ws.length≤1000000:=by
 have by':∀ {α:Type} [DecidableEq α] {lt:α→α→Bool}{L:List (α × V)},sortBy lt L=some ws→ws.length≤1000000:=fun {α _ lt L} e=>by
  unfold sortBy at e
  split at e
  ·rename_i hc
   simp only[Bool.and_eq_true,decide_eq_true_eq] at hc
   cases e
   rw[zJ,(za5 L).length_eq];omega
  ·cases e
 unfold sortVs at e
 cases h1:keyed keyI vs with
 |some L=>rw[h1] at e;exact by' e
 |none =>
  rw[h1] at e
  cases h2:keyed (keyL h) vs with
  |some L=>rw[h2] at e;exact by' e
  |none=>rw[h2] at e;cases e
theorem zjE (as:AS n sk A) (hr:HR am sk π Hc s.heap) (ha:VR am π s.heap a x) :
  JAt am sk A (call (.builtin "sorted") [x]) (R.opt (bf .sorted Hc a) Hc) (VR am) π s:=by
 unfold bf;dsimp only
 cases hi:litems Hc a with
 |none=>exact .inl rfl
 |some vs =>
  rw[Option.bind_some]
  cases hs:sortVs Hc vs with
  |none=>exact .inl rfl
  |some ws=>exact .inr (ziQ as hr ha hi hs fun y s' hn=>hn.lst hr (zhX hs))
end
end Mine.Internal
namespace Mine.Internal
open PySem PySem.W
noncomputable def Amb.at (am:Amb) (res:List Addr):Amb:={ am with res:=res }
noncomputable def btOk:Value→Bool
 |.builtin _=>true
 |.type _=>true
 |_=>false
theorem zq6:bTab.all (fun p=>btOk p.2)=true:=by kernel_rfl
theorem zmD (h:btOk v=true):(∃ id,v=.builtin id)∨∃ T,v=.type T:=by
 cases v<;>first|exact .inl ⟨_,rfl⟩|exact .inr ⟨_,rfl⟩|exact noB h
theorem zpd (h:(x,v)∈bTab):(∃ id,v=.builtin id)∨∃ T,v=.type T:=zmD (List.all_eq_true.mp zq6 _ h)
theorem zbI (h:bTab.contains (x,v)=true):(x,v)∈bTab:=List.contains_iff_mem.mp h
structure ExcCls (am:Amb) (c:String) (C:Addr):Prop where
 name:am.mg (Str.ofString c)=some (.ref C)
 get:findIn am.K (.ref C) "__getattribute__"=some (some (.builtin "BaseException.__getattribute__"))∧findIn am.K (.ref C) "__getattr__"=some none
 cls:(clsIn am.K C).isSome=true
 find:findIn am.K (.ref C) "__class__"=some (some (.builtin "object.__class__"))
 spec:specialIn am.K (.builtin "object.__class__") "__get__"=some (some (.builtin "getset_descriptor.__get__"))
 takes:takesIn am.K (.builtin "object.__class__")=some true
 mro:mroIn am.K C (.type "object")=some true
 val:kitOne am.K (.ref C) (.type "ValueError")=some true
def zcs (B:Heap) (C:Addr):Prop:=∃ nm q N bs bm hdct sn sub ab col dd k0 k1 k2 k3 k5 mN,
 B.get? C=some (excClassObj nm q C N bs bm hdct sn sub ab col dd k0 k1 k2 k3 k5 "ValueError.__new__")∧B.Ns N mN∧(∀ n∈quietNames,mN n=none) ∧
  OwnTailQ B [.type "ValueError",.type "Exception",.type "BaseException",.type "object"] bm
structure AmbX (am:Amb):Prop extends AmbOK am where
 K:Frag.In am.K am.B
 bt:∀ p∈bTab,am.mg p.1=none∧am.mb p.1=some p.2
 exc:∀ c∈zaf,∃ C,ExcCls am c C
 sub:∀ c∈zaf,∀ d∈zaf,∀ C D,am.mg (Str.ofString c)=some (.ref C)→am.mg (Str.ofString d)=some (.ref D)→kitOne am.K (.ref C) (.ref D)=some (c == d||d == "RingError")
 exm:∀ c∈zaf,∀ C D,am.mg (Str.ofString c)=some (.ref C)→am.mg (Str.ofString "RingError")=some (.ref D)→exmOne am.K (.ref C) (.ref D)=some true
 rs:∀ c∈zaf,∀ C,am.mg (Str.ofString c)=some (.ref C)→zcs am.B C
theorem AmbX.at (x:AmbX am) (res:List Addr):AmbX (am.at res):=⟨⟨x.g,x.b,x.nolimit,x.noseer,x.tree⟩,x.K,x.bt,fun c hc=>let ⟨C,e⟩:=x.exc c hc;⟨C,e.name,e.get,e.cls,e.find,e.spec,e.takes,e.mro,e.val⟩,x.sub,x.exm,x.rs⟩
def FunAt (am:Amb) (f:String) (a:Addr):Prop:=am.mg (Str.ofString f)=some (.ref a)∧∃ o fd,am.B.get? a=some o∧o.data=.func fd
structure CkR (am:Amb) (c:Ck) (cx:Cx):Prop where
 ctx:cx.ctx=c.ctx
 names:cx.env.scope.names=c.names
 fns:∀ f∈c.fns,∃ a,FunAt am f a
 nums:∀ p∈c.nums,∃ t,am.mg (Str.ofString p.1)=some (.int p.2 t)
noncomputable def ArgR (am:Amb) (q:Bool) (π:List Addr) (h:Heap) (vs:List V) (xs:List Value):Prop :=
 VRs am π h vs xs∨(q=false∧∃ c a,vs=[.exc c]∧xs=[.ref a]∧a ∉ π∧ExcAt am h c a)
structure FnOK (am:Amb) (n:Nat) (F:Fn):Prop where
 call:∀ res q f a vs xs sk A π Hc s,FunAt am f a→AS n sk A→HR (am.at res) sk π Hc s.heap→Hd q A π (Fs sk) s.heap→ArgR (am.at res) q π s.heap vs xs →
  JAt (am.at res) sk A (PySem.call (.ref a) xs []) (F q f vs Hc) (VR (am.at res)) π s
structure Base (am:Amb) (n:Nat) (q:Bool) (F:Fn) (c:Ck) (cx:Cx) (ρ:List V) (A:Around):Prop where
 ok:AmbX am
 fn:FnOK am n F
 ck:CkR am c cx
 cxk:CxOK cx
 as:AS n cx.sk A
 ne:q=true→NoExc ρ
section
variable {am:Amb}{n:Nat}{q:Bool}{F:Fn}{c:Ck}{cx:Cx}{ρ:List V}{A:Around}{res π:List Addr}{Hc:H}{s:Shared}
theorem zbZ {B h:Heap}(k:B.StaysIn h){a:Addr}{m:Str→Option Value}(hn:B.Ns a m):h.Ns a m:=let ⟨o,es,ep,ho,r⟩:=hn;⟨o,es,ep,k a o ho,r⟩
theorem HR.gns {am:Amb}{sk:List Env}(ok:AmbX am) (hr:HR (am.at res) sk π Hc s.heap):s.heap.Ns mainGlobals am.mg:=zbZ hr.base ok.g
theorem HR.bns {am:Amb}{sk:List Env}(ok:AmbX am) (hr:HR (am.at res) sk π Hc s.heap):s.heap.Ns builtinsNs am.mb:=zbZ hr.base ok.b
theorem zdd (b:CkR am c cx) (x:Str):cx.env.kindOf x=c.names.lookup x:=by unfold Env.kindOf;rw[b.names]
theorem zca (b:Base am n q F c cx ρ A) (hr:HR (am.at res) cx.sk π Hc s.heap){Q:Value→Shared→Prop}{E:Value→Shared→Prop}(hx:c.glob x=true) (hv:am.mg x=some v) (h:Q v s) :
  wpAny am.M A (eval (.Name x p) cx.env) Q E s:=by
 unfold Ck.glob at hx;simp only[Bool.and_eq_true,beq_iff_eq,Bool.not_eq_true'] at hx;refine Calls.Name_function_global b.cxk.kind (by rw[zdd b.ck];exact hx.1) (Calls.loadGlobal_global (mg:=am.mg) ?_ hv h) hx.2
 rw[b.cxk.globals];exact HR.gns b.ok hr
theorem znu (b:Base am n q F c cx ρ A) (hr:HR (am.at res) cx.sk π Hc s.heap){Q:Value→Shared→Prop}{E:Value→Shared→Prop}(hx:c.glob x=true) (hv:(x,v)∈bTab) (h:Q v s) :
  wpAny am.M A (eval (.Name x p) cx.env) Q E s:=by
 unfold Ck.glob at hx;simp only[Bool.and_eq_true,beq_iff_eq,Bool.not_eq_true'] at hx;obtain⟨h1,h2⟩:=b.ok.bt _ hv;refine Calls.Name_function_global b.cxk.kind (by rw[zdd b.ck];exact hx.1) (Calls.loadGlobal_builtin (mg:=am.mg) (mb:=am.mb) ?_ h1 ?_ h2 h) hx.2
 ·rw[b.cxk.globals];exact HR.gns b.ok hr
 ·rw[b.cxk.builtins];exact HR.bns b.ok hr
theorem ziP (b:Base am n q F c cx ρ A) (st:St (am.at res) q cx ρ π Hc A s){Q:Value→Shared→Prop}{E:Value→Shared→Prop}(hx:c.var x i=true) (hv:ρ[i]?=some v) (hu:v≠.uu)
  (h:∀ v',SR (am.at res) π s.heap v v'→Q v' s):wpAny am.M A (eval (.Name x p) cx.env) Q E s:=by
 unfold Ck.var at hx;simp only[Bool.and_eq_true,beq_iff_eq,Bool.not_eq_true'] at hx;refine hold fun z k_=>?_;obtain⟨⟨⟨h1,h2⟩,h3⟩,h4⟩:=hx;refine k_ ?_;have hvis:Vis cx.env x:=by
  unfold Vis;rw[zdd b.ck];unfold zf2 at h2;simp only[Bool.or_eq_true,beq_iff_eq] at h2
  rcases h2 with(h2|h2)|h2<;>simp[h2]
 obtain⟨v',h5,h6⟩:=st.er.var x i v (by rw[b.ck.ctx];exact h1) hv hu hvis
 refine wpAny_Name ?_ h3
 rcases h5 with⟨k,m,h7,h8⟩|⟨k,cc,h7,h8⟩
 ·exact wpAny_loadName_local b.cxk.kind k h7 h8 (h v' h6)
 ·rcases k with k|k
  ·exact wpAny_loadName_cell b.cxk.kind k h7 h8 (h v' h6)
  ·exact wpAny_loadName_free b.cxk.kind k h7 h8 (h v' h6) h4
theorem zqN (b:Base am n q F c cx ρ A) (st:St (am.at res) q cx ρ π Hc A s) (hx:c.var x i=true) :
  JAt (am.at res) cx.sk A (eval (.Name x p) cx.env) (evE q F ρ (.v i) Hc) (VR (am.at res)) π s:=by
 simp -iota only[zsd]
 cases hv:ρ[i]? with
 |none=>exact .inl rfl
 |some v =>
  have go:(∀ c,v≠.exc c)→v≠.uu→JAt (am.at res) cx.sk A (eval (.Name x p) cx.env) (.ok v Hc) (VR (am.at res)) π s :=
   fun h1 h2=>.inr (ziP b st hx hv h2 fun v' h=>OkP.here st.hr (h.vr h1))
  cases v with
  |uu=>exact .inl rfl
  |exc c=>exact .inl rfl
  |_=>exact go (by simp) (by simp)
noncomputable def tr (r:R V):R Bool:=r.bind fun x h=>match truthy x with
 |some b=>.ok b h
 |none=>.bad
def BR (_:List Addr) (_:Heap) (b:Bool) (a:Bool):Prop:=b=a
theorem zcP {am:Amb}{sk:List Env}{x:Value}{v:V}(hr:HR am sk π Hc s.heap) (hv:VR am π s.heap v x) :
  JAt am sk A (PySem.truthy x) ((match truthy v with|some b=>R.ok b Hc|none=>R.bad)) BR π s:=by
 cases v with
 |bool b=>cases hv;exact .inr (wpAny_truthy_bool (OkP.here hr rfl))
 |_=>exact .inl rfl
theorem zdi {α:Type}(r:R α) (f:α→H→R V):tr (r.bind f)=r.bind fun a h=>tr (f a h):=by cases r<;>rfl
theorem zi1 {α:Type}(r:R V) (f:Bool→H→R α):(tr r).bind f=r.bind fun x h=>match truthy x with
 |some b=>f b h
 |none=>.bad:=by
 cases r with
 |ok v h=>simp only[tr,R.bind];cases truthy v<;>rfl
 |_=>rfl
end
end Mine.Internal
namespace Mine.Internal
open PySem PySem.W PyProof.Rows
section
variable {am:Amb}{sk:List Env}{A:Around}{α β γ δ:Type}{Rel:List Addr→Heap→β→α→Prop}{Rel':List Addr→Heap→δ→γ→Prop}{π:List Addr}{s:Shared}
theorem JAt.seqP {m:Sem α}{t:Sem γ}{f:α→Sem γ}{r:R β}{g:β→H→R δ}{P:α→Shared→Prop}
  (K:∀ (Q:γ→Shared→Prop) (E:Value→Shared→Prop),wpAny am.M A m (fun a s₁=>P a s₁∧wpAny am.M A (f a) Q E s₁) E s→wpAny am.M A t Q E s) (h1:JAt am sk A m r Rel π s)
  (h2:∀ a b H' π' s',r=.ok b H'→Step (Fs sk) π s π' s'→HR am sk π' H' s'.heap→Rel π' s'.heap b a→P a s'∧JAt am sk A (f a) (g b H') Rel' π' s') :
  JAt am sk A t (r.bind g) Rel' π s:=by
 rcases h1 with rfl|h1
 ·exact .inl rfl
 ·cases r with
  |bad=>exact .inl rfl
  |err c H' =>
   refine .inr (K _ _ (yV h1 (fun a s' h=>?_) fun e s' h=>?_))
   ·obtain⟨_,_,_,h,_⟩:=h;cases h
   ·refine hold fun z k_=>?_
    obtain⟨c',H'',π',e',C,fl,h,r2,r3,r4,r5,r6⟩:=h;refine k_ ?_
    cases h
    exact⟨c,H',π',e',C,fl,rfl,r2,r3,r4,r5,r6⟩
  |ok b H' =>
   by_cases hb:g b H'=.bad
   ·exact .inl hb
   ·refine .inr (K _ _ (yV h1 (fun a s' h=>?_) fun e s' h=>?_))
    ·refine hold fun z k_=>?_
     obtain⟨b',H'',π',h,h3,h4,h5⟩:=h;refine k_ ?_
     cases h
     obtain⟨hp,h2⟩:=h2 a b H' π' s' rfl h3 h4 h5
     rcases h2 with h6|h6
     ·exact absurd h6 hb
     ·exact⟨hp,yV h6 (fun z z y=>OkP.step h3 y) fun z z y=>ErP.step h3 y⟩
    ·obtain⟨_,_,_,_,_,_,h,_⟩:=h;cases h
end
section
variable (am:Amb) (n:Nat) (q:Bool) (F:Fn) (c:Ck)
def EJ (e:PE) (ex:Expr):Prop:=∀ {cx:Cx}{ρ:List V}{A:Around}{res π:List Addr}{Hc:H}{s:Shared},Base am n q F c cx ρ A→St (am.at res) q cx ρ π Hc A s →
 JAt (am.at res) cx.sk A (eval ex cx.env) (evE q F ρ e Hc) (VR (am.at res)) π s
def TJ (e:PE) (ex:Expr):Prop:=∀ {cx:Cx}{ρ:List V}{A:Around}{res π:List Addr}{Hc:H}{s:Shared},Base am n q F c cx ρ A→St (am.at res) q cx ρ π Hc A s →
 JAt (am.at res) cx.sk A (isTrue ex cx.env (eval ex cx.env)) (tr (evE q F ρ e Hc)) BR π s
def AllJ:List PE→List Expr→Prop
 |[],[]=>True
 |e::es,x::xs=>(isStar x=false∧EJ am n q F c e x∧TJ am n q F c e x)∧AllJ es xs
 |_,_=>False
end
noncomputable def zbY (e:Expr):Bool:=@Expr.casesOn (fun z=>Bool) e (fun z z z=>false) (fun z z z=>true) (fun z z z z=>true) (fun o z z=>decide (o≠.Not)) (fun z z z z=>true) (fun z z z z=>false) (fun z z z=>true) (fun z z z=>true) (fun z z z z=>true) (fun z z z z=>true) (fun z z z z z=>true) (fun z z z z=>true) (fun z z=>true) (fun z z=>true) (fun z z=>true) (fun z z z z=>false) (fun z z z z=>true) (fun z z z z=>true) (fun z z=>true) (fun z z z=>true) (fun z z z=>true) (fun z z z=>true) (fun z z=>true) (fun z z=>true) (fun z z=>true) (fun z z z=>true) (fun z z z z=>true)
set_option tactic.hygienic true in
theorem zfI (h:zbY ex=true) (env:Env) (whole:Sem Value):isTrue ex env whole=(do let v ← whole;standAt ex.pos;holding [v] (PySem.truthy v)):=by
 cases ex<;>first|rfl|exact noB h|skip
 rename_i op x pos
 cases op<;>first|rfl|exact noB h
section
variable {am:Amb}{n:Nat}{q:Bool}{F:Fn}{c:Ck}
theorem EJ.test (h:EJ am n q F c e ex) (hp:zbY ex=true):TJ am n q F c e ex:=by
 intro cx ρ A res π Hc s b st;refine JAt.congr (zfI hp _ _) rfl ?_;unfold tr;refine JAt.bind (h b st) fun x v H1 π1 s1 z hs1 hr1 hv1=>JAt.standAt (JAt.holding (zcP hr1 hv1))
theorem zq7 (h:bopIs op o=true):o=bopM op:=(zV h).symm
theorem zdS (h:copIs op o=true):o=copM op:=(zV h).symm
theorem zo0:EJ am n q F c .none (.Constant .none k p):=fun z st=>by
 rw[zsp];exact .inr (wpAny_Constant_none (OkP.here st.hr rfl))
theorem zo4:EJ am n q F c (.bool b) (.Constant (.bool b) k p):=fun z st=>by
 rw[zse];exact .inr (wpAny_Constant_bool (OkP.here st.hr rfl))
theorem zqS:EJ am n q F c (.int i) (.Constant (.int i) k p):=fun z st=>by
 rw[zpX];exact .inr (wpAny_Constant_int (OkP.tok st.hr ⟨_,rfl⟩))
theorem zqQ:EJ am n q F c (.str t) (.Constant (.str (Str.ofString t)) k p):=fun z st=>by
 rw[zso];exact .inr (wpAny_Constant_str (OkP.tok st.hr ⟨_,rfl⟩))
theorem zqO (h:c.var x i=true):EJ am n q F c (.v i) (.Name x p):=fun b st=>zqN b st h
theorem zo1 (h:c.glob (Str.ofString g)=true) (hm:(g,i)∈c.nums):EJ am n q F c (.glob g i) (.Name (Str.ofString g) p):=fun b st=>by
 simp -iota only[zrl];obtain⟨t,ht⟩:=b.ck.nums _ hm;exact .inr (zca b st.hr h ht (OkP.here st.hr ⟨t,rfl⟩))
theorem znk {i:Int}{k:Nat}{p p':Pos}:EJ am n q F c (.neg i) (.UnaryOp .USub (.Constant (.int i) k p) p'):=fun {cx ρ A res π Hc s} b st=>by
 simp -iota only[zrx];refine .inr (wpAny_UnaryOp (wpAny_Constant_int ?_));exact neg_int (OkP.step (Step.tok _) (OkP.tok (st.hr.keeps fun z z e=>e) ⟨_,rfl⟩))
theorem zqV {op:Bop}{o:Operator}{a b:PE}{l r:Expr}{p:Pos}(ho:bopIs op o=true) (ha:EJ am n q F c a l) (hb:EJ am n q F c b r):EJ am n q F c (.bin op a b) (.BinOp l o r p):=fun {cx ρ A res π Hc s} B st=>by
 rw[zq7 ho];simp -iota only[zkX];refine JAt.congr (arm_eval_BinOp ..) rfl (JAt.bind (ha B st) fun x v H1 π1 s1 z hs1 hr1 hv1=>?_);refine JAt.bind (JAt.holding (hb B (st.step hs1 hr1))) fun y w H2 π2 s2 z hs2 hr2 hv2=>?_;exact JAt.standAt (JAt.operate (zp7 (B.ok.at res).toAmbOK B.cxk.stackOK B.as hr2 (hv1.step hs2) hv2))
theorem zqR (ha:EJ am n q F c a x):EJ am n q F c (.not a) (.UnaryOp .Not x p):=fun {cx ρ A res π Hc s} B st=>by
 simp -iota only[zmY];refine JAt.congr (arm_eval_UnaryOp ..) rfl (JAt.bind (ha B st) fun x v H1 π1 s1 z hs1 hr1 hv1=>?_);exact JAt.standAt (JAt.holding (zp1 hr1 hv1))
theorem zpu (ha:TJ am n q F c a x):TJ am n q F c (.not a) (.UnaryOp .Not x p):=fun {cx ρ A res π Hc s} B st=>by
 have e:tr (evE q F ρ (.not a) Hc)=(tr (evE q F ρ a Hc)).bind fun b h=>.ok (!b) h:=by
  simp -iota only[zmY,tr]
  cases evE q F ρ a Hc with
  |ok v h=>simp only[R.bind_ok];cases truthy v<;>rfl
  |_=>rfl
 rw[e];refine JAt.congr (arm_isTrue_UnaryOp ..) rfl (JAt.bind (ha B st) fun x v H1 π1 s1 z hs1 hr1 hv1=>?_);exact JAt.pure hr1 (congrArg _ hv1)
theorem zcJ (h:isSet r=false) (t:Sem Value):markedBehindIn op r t=t:=by
 have:behindInMarks op r=false:=by cases r<;>first|rfl|exact noB h.symm
 unfold markedBehindIn;rw[this]
theorem zqU {op:Cop}{o:CmpOp}{a b:PE}{l r:Expr}{p:Pos}(ho:copIs op o=true) (hs:isSet r=false) (ha:EJ am n q F c a l) (hb:EJ am n q F c b r):EJ am n q F c (.cmp op a b) (.Compare l [o] [r] p):=fun {cx ρ A res π Hc s} B st=>by
 rw[zdS ho];simp -iota only[zbo];refine JAt.congr (eval_Compare1 ..) rfl (JAt.bind (ha B st) fun x v H1 π1 s1 z hs1 hr1 hv1=>?_);rw[zcJ hs];refine JAt.bind (JAt.holding (hb B (st.step hs1 hr1))) fun y w H2 π2 s2 z hs2 hr2 hv2=>?_;exact JAt.standAt (JAt.operate (zdJ B.as hr2 (hv1.step hs2) hv2))
theorem zpv {op:Cop}{o:CmpOp}{a b:PE}{l r:Expr}{p:Pos}(ho:copIs op o=true) (hs:isSet r=false) (ha:EJ am n q F c a l) (hb:EJ am n q F c b r):TJ am n q F c (.cmp op a b) (.Compare l [o] [r] p):=fun {cx ρ A res π Hc s} B st=>by
 rw[zdS ho];simp -iota only[zbo,zdi];refine JAt.congr (isTrue_Compare1 ..) rfl (JAt.bind (ha B st) fun x v H1 π1 s1 z hs1 hr1 hv1=>?_);rw[zcJ hs];refine JAt.bind (JAt.holding (hb B (st.step hs1 hr1))) fun y w H2 π2 s2 z hs2 hr2 hv2=>?_;refine JAt.standAt ?_;unfold tr;exact JAt.bind (JAt.operate (zdJ B.as hr2 (hv1.step hs2) hv2)) fun x v H3 π3 s3 z hs3 hr3 hv3=>JAt.holding (zcP hr3 hv3)
theorem JAt.release {am:Amb}{sk:List Env}{A:Around}{α β:Type}{Rel:List Addr→Heap→β→α→Prop}{π:List Addr}{s:Shared}{vs keep:List Value}{f:Unit→Sem α}{r:R β}(h:JAt am sk A (f ()) r Rel π s):JAt am sk A (PySem.release vs keep >>= f) r Rel π s :=
 h.rule fun z z x=>yX (zdH x)
theorem zo2 {op1 op2:Cop}{o1 o2:CmpOp}{a b d:PE}{l r1 r2:Expr}{p:Pos}(ho1:copIs op1 o1=true) (ho2:copIs op2 o2=true) (hs:isSet r2=false) (ha:EJ am n q F c a l) (hb:EJ am n q F c b r1) (hd:EJ am n q F c d r2) :
  EJ am n q F c (.cmp2 op1 op2 a b d) (.Compare l [o1,o2] [r1,r2] p):=fun {cx ρ A res π Hc s} B st=>by
 rw[zdS ho1,zdS ho2];simp -iota only[zjx];refine JAt.congr (arm_eval_Compare ..) rfl (JAt.bind (ha B st) fun x v H1 π1 s1 m hs1 hr1 hv1=>?_);have st1:=st.step hs1 hr1;show JAt _ _ _ (compareChain p x [copM op1,copM op2] [eval r1 cx.env,markedBehindIn (copM op2) r2 (eval r2 cx.env)]) _ _ _ _;rw[zcJ hs];refine JAt.bind (JAt.holding (hb B st1)) fun y w H2 π2 s2 m hs2 hr2 hv2=>JAt.standAt ?_;have st2:=st1.step hs2 hr2
 have hv1':=hv1.step hs2;have e:∀ (k:H→R V),(match pyCmp op1 H2 v w with|some true=>k H2|some false=>.ok (.bool false) H2|none=>.bad)=(R.opt ((pyCmp op1 H2 v w).map V.bool) H2).bind fun x h=>match truthy x with|some true=>k h|some false=>.ok (.bool false) h|none=>.bad:=by
  intro k
  cases pyCmp op1 H2 v w with
  |none=>rfl
  |some b=>cases b<;>rfl
 refine JAt.congr rfl (e fun h=>(evE q F ρ d h).bind fun z h=>R.opt ((pyCmp op2 h w z).map V.bool) h) ?_;refine JAt.bind (JAt.holding (zdJ B.as hr2 hv1' hv2)) fun z u H3 π3 s3 m hs3 hr3 hv3=>JAt.release ?_;have st3:=st2.step hs3 hr3
 cases u with
 |bool t =>
  cases hv3
  refine JAt.rule (fun Q E h=>yX (yU (wpAny_truthy_bool h))) ?_
  cases t with
  |false=>exact JAt.pure hr3 rfl
  |true =>
   refine JAt.bind (JAt.holding (hd B st3)) fun y' w' H4 π4 s4 m hs4 hr4 hv4=>?_;exact JAt.standAt (JAt.operate (zdJ B.as hr4 ((hv2.step hs3).step hs4) hv4))
 |_=>exact .inl rfl
theorem znC {op1 op2:Cop}{o1 o2:CmpOp}{a b d:PE}{l r1 r2:Expr}{p:Pos}(ho1:copIs op1 o1=true) (ho2:copIs op2 o2=true) (hs:isSet r2=false) (ha:EJ am n q F c a l) (hb:EJ am n q F c b r1) (hd:EJ am n q F c d r2) :
  TJ am n q F c (.cmp2 op1 op2 a b d) (.Compare l [o1,o2] [r1,r2] p):=fun {cx ρ A res π Hc s} B st=>by
 rw[zdS ho1,zdS ho2];simp -iota only[zjx,zdi];refine JAt.congr (arm_isTrue_Compare ..) rfl (JAt.bind (ha B st) fun x v H1 π1 s1 m hs1 hr1 hv1=>?_);have st1:=st.step hs1 hr1;show JAt _ _ _ (testChain p x [copM op1,copM op2] [eval r1 cx.env,markedBehindIn (copM op2) r2 (eval r2 cx.env)]) _ _ _ _;rw[zcJ hs];refine JAt.bind (JAt.holding (hb B st1)) fun y w H2 π2 s2 m hs2 hr2 hv2=>JAt.standAt ?_;have st2:=st1.step hs2 hr2
 have hv1':=hv1.step hs2;have e:∀ (k:H→R V),tr (match pyCmp op1 H2 v w with|some true=>k H2|some false=>.ok (.bool false) H2|none=>.bad)=(R.opt ((pyCmp op1 H2 v w).map V.bool) H2).bind fun x h=>match truthy x with|some true=>tr (k h)|some false=>.ok false h|none=>.bad:=by
  intro k
  cases pyCmp op1 H2 v w with
  |none=>rfl
  |some b=>cases b<;>rfl
 refine JAt.congr rfl (e fun h=>(evE q F ρ d h).bind fun z h=>R.opt ((pyCmp op2 h w z).map V.bool) h) ?_;refine JAt.bind (JAt.holding (zdJ B.as hr2 hv1' hv2)) fun z u H3 π3 s3 m hs3 hr3 hv3=>JAt.release ?_;have st3:=st2.step hs3 hr3
 cases u with
 |bool t =>
  cases hv3
  refine JAt.rule (fun Q E h=>yX (yU (wpAny_truthy_bool h))) ?_
  cases t with
  |false=>exact JAt.pure hr3 rfl
  |true =>
   simp only[Mine.Internal.truthy,zdi];refine JAt.bind (JAt.holding (hd B st3)) fun y' w' H4 π4 s4 m hs4 hr4 hv4=>?_;refine JAt.standAt ?_;unfold tr;exact JAt.bind (JAt.operate (zdJ B.as hr4 ((hv2.step hs3).step hs4) hv4)) fun x v H5 π5 s5 m hs5 hr5 hv5=>JAt.holding (zcP hr5 hv5)
 |_=>exact .inl rfl
end
abbrev PT (γ:Type):=(γ→Shared→Prop)→(Value→Shared→Prop)→Shared→Prop
def PT.Mono {γ:Type}(T:PT γ):Prop:=∀ Q Q' E E' s,(∀ a s,Q a s→Q' a s)→(∀ e s,E e s→E' e s)→T Q E s→T Q' E' s
noncomputable def JT (am:Amb) (sk:List Env){α β:Type}(T:PT α) (r:R β) (Rel:List Addr→Heap→β→α→Prop) (π:List Addr) (s:Shared):Prop :=
 r=.bad∨T (OkP am sk Rel π s r) (ErP am sk π s r) s
section
variable {am:Amb}{sk:List Env}{A:Around}{α β γ δ:Type}{Rel:List Addr→Heap→β→α→Prop}{Rel':List Addr→Heap→δ→γ→Prop}{π:List Addr}{s:Shared}
theorem PT.wp (M:Model) (m:Sem α):PT.Mono (fun Q E s=>wpAny M A m Q E s):=fun z z z z z h1 h2 h=>yV h h1 h2
theorem PT.seq (M:Model) (m:Sem α){T:α→PT γ}(hT:∀ a,PT.Mono (T a)):PT.Mono (fun Q E s=>wpAny M A m (fun a s₁=>T a Q E s₁) E s) :=
 fun Q Q' E E' z h1 h2 h=>yV h (fun a s₁ x=>hT a Q Q' E E' s₁ h1 h2 x) h2
theorem JT.bind {m:Sem α}{T:α→PT γ}(hT:∀ a,PT.Mono (T a)){r:R β}{g:β→H→R δ}(h1:JAt am sk A m r Rel π s)
  (h2:∀ a b H' π' s',r=.ok b H'→Step (Fs sk) π s π' s'→HR am sk π' H' s'.heap→Rel π' s'.heap b a→JT am sk (T a) (g b H') Rel' π' s') :
  JT am sk (fun Q E s=>wpAny am.M A m (fun a s₁=>T a Q E s₁) E s) (r.bind g) Rel' π s:=by
 rcases h1 with rfl|h1
 ·exact .inl rfl
 ·cases r with
  |bad=>exact .inl rfl
  |err c H' =>
   refine .inr (yV h1 (fun a s' h=>?_) fun e s' h=>?_)
   ·obtain⟨_,_,_,h,_⟩:=h;cases h
   ·refine hold fun z k_=>?_
    obtain⟨c',H'',π',e',C,fl,h,r2,r3,r4,r5,r6⟩:=h;refine k_ ?_
    cases h
    exact⟨c,H',π',e',C,fl,rfl,r2,r3,r4,r5,r6⟩
  |ok b H' =>
   by_cases hb:g b H'=.bad
   ·exact .inl hb
   ·refine .inr (yV h1 (fun a s' h=>?_) fun e s' h=>?_)
    ·refine hold fun z k_=>?_
     obtain⟨b',H'',π',h,h3,h4,h5⟩:=h;refine k_ ?_
     cases h
     rcases h2 a b H' π' s' rfl h3 h4 h5 with h6|h6
     ·exact absurd h6 hb
     ·exact hT a _ _ _ _ _ (fun z z y=>OkP.step h3 y) (fun z z y=>ErP.step h3 y) h6
    ·obtain⟨_,_,_,_,_,_,h,_⟩:=h;cases h
theorem JT.rule (h:JT am sk T r Rel π s) (k:∀ Q E,T Q E s→T' Q E s):JT am sk T' r Rel π s:=by
 rcases h with h|h
 ·exact .inl h
 ·exact .inr (k _ _ h)
theorem JT.at (h:JT am sk T r Rel π s) (k:∀ Q E,T Q E s→wpAny am.M A m Q E s):JAt am sk A m r Rel π s:=by
 rcases h with h|h
 ·exact .inl h
 ·exact .inr (k _ _ h)
theorem JAt.pt (h:JAt am sk A m r Rel π s):JT am sk (fun Q E s=>wpAny am.M A m Q E s) r Rel π s:=h
end
theorem zo7 (c:Ck) (e:PE) (x:Expr) (p:Pos):ckE c e (.Starred x p)=false:=by
 cases e with
 |own a =>
  cases a with
  |bf f b=>cases f<;>rfl
  |bin op a b=>cases op<;>rfl
  |_=>rfl
 |none=>rfl
 |bool b=>rfl
 |int b=>rfl
 |str b=>rfl
 |_=>rfl
theorem zau (h:ckE c e x=true):isStar x=false:=by
 cases x<;>first|rfl|(rw[zo7] at h;cases h)
noncomputable def zam (xs:List Expr) (env:Env):List (Bool × Sem Value):=xs.map fun e=>(false,eval e env)
theorem zae (env:Env) (h:∀ x∈xs,isStar x=false) (pos:Pos):backTo pos (starEach xs env)=zam xs env:=by
 induction xs with
 |nil=>rfl
 |cons x xs ih =>
  have hx:=h x zZ;have e:starEach (x::xs) env=(false,eval x env)::starEach xs env:=by
   cases x<;>first|rfl|exact noB hx.symm
  rw[e];exact congrArg ((false,eval x env)::·) (ih fun y hy=>h y (zY _ hy))
section
variable {am:Amb}{n:Nat}{q:Bool}{F:Fn}{c:Ck}
theorem AllJ.stars (h:AllJ am n q F c es xs):∀ x∈xs,isStar x=false:=by
 induction es generalizing xs with
 |nil=>cases xs with
  |nil=>exact fun z h=>(not_mem_nil h).elim
  |cons _ _=>exact h.elim
 |cons e es ih=>cases xs with
  |nil=>exact h.elim
  |cons x xs=>exact fun y hy=>(zN.mp hy).elim (fun q=>q ▸ h.1.1) (ih h.2 y)
theorem AllJ.args (h:AllJ am n q F c es xs) (B:Base am n q F c cx ρ A) (st:St (am.at res) q cx ρ π Hc A s) :
  JAt (am.at res) cx.sk A (spliced (zam xs cx.env)) (evEs q F ρ es Hc) (VRs (am.at res)) π s:=by
 induction es generalizing xs π Hc s with
 |nil=>cases xs with
  |nil=>exact .inr (yW (OkP.here st.hr rfl))
  |cons _ _=>exact h.elim
 |cons e es ih=>cases xs with
  |nil=>exact h.elim
  |cons x xs =>
   rw[zbn];refine JAt.congr (m':=eval x cx.env >>= fun v=>(pure [v]:Sem (List Value)) >>= fun here=>holding here (spliced (zam xs cx.env)) >>= fun tl=>pure (here++tl)) (by
    show spliced ((false,eval x cx.env)::zam xs cx.env)=_;rw[spliced];rfl) rfl ?_
   refine JAt.bind (h.1.2.1 B st) fun x v H1 π1 s1 z hs1 hr1 hv1=>?_;refine JAt.rule (fun Q E h=>yX (yW h)) ?_;refine JAt.bind (JAt.holding (ih h.2 (st.step hs1 hr1))) fun ys ws H2 π2 s2 z hs2 hr2 hv2=>?_;exact JAt.pure hr2 (by exact⟨_,_,rfl,hv1.step hs2,hv2⟩)
theorem zqW (h:AllJ am n q F c es xs):EJ am n q F c (.and es) (.BoolOp .And xs p):=by
 induction es generalizing xs with
 |nil=>exact fun z z=>.inl rfl
 |cons e es ih=>cases xs with
  |nil=>exact h.elim
  |cons x xs =>
   intro cx ρ A res π Hc s B st
   cases es with
   |nil=>cases xs with
    |nil=>exact h.1.2.1 B st
    |cons _ _=>exact h.2.elim
   |cons e2 es=>cases xs with
    |nil=>exact h.2.elim
    |cons x2 xs =>
     rw[zn7,zrC];refine JAt.congr (m':=eval x cx.env >>= fun v=>standAt p >>= fun z=>holding [v] (PySem.truthy v) >>= fun t=>(match BoolOp.And,t with|.And,false|.Or,true=>pure v|_,_=>boolOp p .And (evalEach (x2::xs) cx.env))) rfl rfl ?_
     refine JAt.bind (h.1.2.1 B st) fun y v H1 π1 s1 z hs1 hr1 hv1=>JAt.standAt ?_
     cases v with
     |bool b =>
      cases hv1
      refine JAt.rule (fun Q E h=>yX (yU (wpAny_truthy_bool h))) ?_
      cases b with
      |false=>exact JAt.pure hr1 rfl
      |true=>exact ih h.2 B (st.step hs1 hr1)
     |_=>exact .inl rfl
theorem zr5 (h:AllJ am n q F c es xs):EJ am n q F c (.or es) (.BoolOp .Or xs p):=by
 induction es generalizing xs with
 |nil=>exact fun z z=>.inl rfl
 |cons e es ih=>cases xs with
  |nil=>exact h.elim
  |cons x xs =>
   intro cx ρ A res π Hc s B st
   cases es with
   |nil=>cases xs with
    |nil=>exact h.1.2.1 B st
    |cons _ _=>exact h.2.elim
   |cons e2 es=>cases xs with
    |nil=>exact h.2.elim
    |cons x2 xs =>
     rw[zgh,zmX];refine JAt.congr (m':=eval x cx.env >>= fun v=>standAt p >>= fun z=>holding [v] (PySem.truthy v) >>= fun t=>(match BoolOp.Or,t with|.And,false|.Or,true=>pure v|_,_=>boolOp p .Or (evalEach (x2::xs) cx.env))) rfl rfl ?_
     refine JAt.bind (h.1.2.1 B st) fun y v H1 π1 s1 z hs1 hr1 hv1=>JAt.standAt ?_
     cases v with
     |bool b =>
      cases hv1
      refine JAt.rule (fun Q E h=>yX (yU (wpAny_truthy_bool h))) ?_
      cases b with
      |true=>exact JAt.pure hr1 rfl
      |false=>exact ih h.2 B (st.step hs1 hr1)
     |_=>exact .inl rfl
theorem znB (ρ:List V) (e e2:PE) (es:List PE) (Hc:H):tr (evAnd q F ρ (e::e2::es) Hc)=(tr (evE q F ρ e Hc)).bind fun b h=>if b then tr (evAnd q F ρ (e2::es) h) else .ok false h:=by
 simp only[zsr,zsq,zrC,zdi];rw[zi1];congr 1;funext x h
 cases hx:truthy x with
 |none=>rfl
 |some b =>
  cases b with
  |true=>rfl
  |false=>simp[tr,hx]
theorem zpt (ρ:List V) (e e2:PE) (es:List PE) (Hc:H):tr (evOr q F ρ (e::e2::es) Hc)=(tr (evE q F ρ e Hc)).bind fun b h=>if b then .ok true h else tr (evOr q F ρ (e2::es) h):=by
 simp only[zsm,zsl,zmX,zdi];rw[zi1];congr 1;funext x h
 cases hx:truthy x with
 |none=>rfl
 |some b =>
  cases b with
  |false=>rfl
  |true=>simp[tr,hx]
theorem zpw (h:AllJ am n q F c es xs):TJ am n q F c (.and es) (.BoolOp .And xs p):=by
 induction es generalizing xs with
 |nil=>exact fun z z=>.inl rfl
 |cons e es ih=>cases xs with
  |nil=>exact h.elim
  |cons x xs =>
   intro cx ρ A res π Hc s B st
   cases es with
   |nil=>cases xs with
    |nil =>
     refine JAt.rule (m':=isTrue x cx.env (eval x cx.env)) (fun Q E h=>wpAny_isTrue_BoolOp (wpAny_allTrue_And_cons (yV h (fun b s1 h1=>?_) fun z z x=>x))) (h.1.2.2 B st)
     cases b with
     |true=>exact wpAny_allTrue_And_nil h1
     |false=>exact h1
    |cons _ _=>exact h.2.elim
   |cons e2 es=>cases xs with
    |nil=>exact h.2.elim
    |cons x2 xs =>
     rw[zn7,znB];refine JAt.congr (m':=isTrue x cx.env (eval x cx.env) >>= fun b=>(match BoolOp.And,b with|.And,false=>pure false|.Or,true=>pure true|_,_=>allTrue .And (x2::xs) cx.env)) rfl rfl ?_
     refine JAt.bind (h.1.2.2 B st) fun y v H1 π1 s1 z hs1 hr1 hv1=>?_;unfold BR at hv1;subst hv1
     cases v with
     |false=>exact JAt.pure hr1 rfl
     |true=>exact ih h.2 B (st.step hs1 hr1)
theorem zro (h:AllJ am n q F c es xs):TJ am n q F c (.or es) (.BoolOp .Or xs p):=by
 induction es generalizing xs with
 |nil=>exact fun z z=>.inl rfl
 |cons e es ih=>cases xs with
  |nil=>exact h.elim
  |cons x xs =>
   intro cx ρ A res π Hc s B st
   cases es with
   |nil=>cases xs with
    |nil =>
     refine JAt.rule (m':=isTrue x cx.env (eval x cx.env)) (fun Q E h=>wpAny_isTrue_BoolOp (wpAny_allTrue_Or_cons (yV h (fun b s1 h1=>?_) fun z z x=>x))) (h.1.2.2 B st)
     cases b with
     |true=>exact h1
     |false=>exact wpAny_allTrue_Or_nil h1
    |cons _ _=>exact h.2.elim
   |cons e2 es=>cases xs with
    |nil=>exact h.2.elim
    |cons x2 xs =>
     rw[zgh,zpt];refine JAt.congr (m':=isTrue x cx.env (eval x cx.env) >>= fun b=>(match BoolOp.Or,b with|.And,false=>pure false|.Or,true=>pure true|_,_=>allTrue .Or (x2::xs) cx.env)) rfl rfl ?_
     refine JAt.bind (h.1.2.2 B st) fun y v H1 π1 s1 z hs1 hr1 hv1=>?_;unfold BR at hv1;subst hv1
     cases v with
     |true=>exact JAt.pure hr1 rfl
     |false=>exact ih h.2 B (st.step hs1 hr1)
theorem zqT (ha:EJ am n q F c a v) (hi:EJ am n q F c i t):EJ am n q F c (.idx a i) (.Subscript v t p):=fun {cx ρ A res π Hc s} B st=>by
 simp -iota only[zce];refine JAt.congr (m':=eval v cx.env >>= fun o=>holding [o] (eval t cx.env) >>= fun i=>standAt p >>= fun z=>subscriptTail v t o i) rfl rfl ?_;refine JAt.bind (ha B st) fun x v' H1 π1 s1 z hs1 hr1 hv1=>?_;refine JAt.bind (JAt.holding (hi B (st.step hs1 hr1))) fun y w H2 π2 s2 z hs2 hr2 hv2=>?_;exact JAt.standAt (zp6 B.as hr2 (hv1.step hs2) hv2)
def OptJ (am:Amb) (n:Nat) (q:Bool) (F:Fn) (c:Ck):Option PE→Option Expr→Prop
 |none,none=>True
 |some e,some x=>EJ am n q F c e x
 |_,_=>False
def OVR (am:Amb) (π:List Addr) (h:Heap):Option V→Value→Prop
 |none,x=>x=.none
 |some v,x=>VR am π h v x
theorem OVR.step {am:Amb}{Fs π π':List Addr}{s s':Shared}(x:Step Fs π s π' s'){v:Option V}{y:Value}(e:OVR am π s.heap v y):OVR am π' s'.heap v y:=by
 cases v with
 |none=>exact e
 |some v=>exact VR.step x e
theorem OptJ.ev (h:OptJ am n q F c e x) (B:Base am n q F c cx ρ A) (st:St (am.at res) q cx ρ π Hc A s) :
  JAt (am.at res) cx.sk A (valueOrNone (evalOpt x cx.env)) (evO q F ρ e Hc) (OVR (am.at res)) π s:=by
 cases e with
 |none=>cases x with
  |none=>simp only[zpV,zpU];exact .inr (yW (OkP.here st.hr rfl))
  |some x=>exact h.elim
 |some e=>cases x with
  |none=>exact h.elim
  |some x =>
   simp only[zpV,zpU];have h1:JAt (am.at res) cx.sk A (eval x cx.env) (evE q F ρ e Hc) (VR (am.at res)) π s:=h B st
   rcases h1 with h1|h1
   ·exact .inl (by rw[h1];rfl)
   ·refine .inr (yV h1 (fun a s' h2=>?_) fun a s' h2=>?_)
    ·refine hold fun z k_=>?_
     obtain⟨b,H',π',h3,h4,h5,h6⟩:=h2;refine k_ ?_;exact⟨some b,H',π',by rw[h3];rfl,h4,h5,h6⟩
    ·refine hold fun z k_=>?_
     obtain⟨c',H'',π',e',C,fl,h,r2,r3,r4,r5,r6⟩:=h2;refine k_ ?_;exact⟨c',H'',π',e',C,fl,by rw[h];rfl,r2,r3,r4,r5,r6⟩
end
section
variable {am:Amb}{n:Nat}{q:Bool}{F:Fn}{c:Ck}
theorem HR.unhold {am:Amb}{sk:List Env}{π:List Addr}{Hc:H}{h:Heap}{l:Addr}(x:HR (am.hold l) sk π Hc h):HR am sk π Hc h :=
 ⟨x.base,x.frames,x.len,x.nodup,fun a ha=>x.res a (zY _ ha),x.off,fun i c a h1 h2=>by
  obtain⟨o,xs,e0,e1,e2,e3⟩:=x.cell i c a h1 h2;exact⟨o,xs,e0,e1,e2,e3.reserve.2⟩⟩
noncomputable def FrP (am:Amb) (sk:List Env) (π:List Addr) (s:Shared) (r:R V) (x:Value) (s':Shared):Prop :=
 ∃ vs H1 π1 l xs,r=.ok (.l vs) H1∧x=.ref l∧vs.length≤1000000∧s.heap.get? l=none∧(l ∉ π1∧l ∉ Fs sk∧l ∉ am.res∧am.B.get? l=none)∧Step (Fs sk) π s π1 s'∧HR (am.hold l) sk π1 H1 s'.heap∧PL s'.heap l xs∧VRs (am.hold l) π1 s'.heap vs xs
theorem HR.held {am:Amb}{sk:List Env}{π:List Addr}{Hc:H}{h h':Heap}{l:Addr}(hr:HR am sk π Hc h) (hl:h.get? l=none) (k:∀ b o,h.get? b=some o→h'.get? b=some o) (ho:∃ o,h'.get? l=some o∧∀ us,o.data≠.fields us) :
  HR (am.hold l) sk π Hc h':=by
 have hr':=hr.keeps k;refine⟨hr'.base,hr'.frames,hr'.len,hr'.nodup,fun a ha=>?_,hr'.off,fun i c a h1 h2=>?_⟩
 ·rcases zN.mp ha with rfl|ha
  ·exact ho
  ·exact hr'.res a ha
 ·obtain⟨o,xs,e0,e1,e2,e3⟩:=hr.cell i c a h1 h2
  exact⟨o,xs,k _ _ e0,e1,e2,(e3.held hl).keeps k⟩
theorem FrP.new {am:Amb}{sk:List Env}{π:List Addr}{s:Shared}{r:R V}{x:Value}{s1 s':Shared}{vs:List V}{H1:H}{π1:List Addr}(h1:r=.ok (.l vs) H1) (h2:Step (Fs sk) π s π1 s1) (h3:HR am sk π1 H1 s1.heap) (h4:vs.length≤1000000) (h5:NewL am π1 s1 vs x s') :
  FrP am sk π s r x s':=by
 refine hold fun z k_=>?_;obtain⟨l,xs,h',tk,rfl,rfl,k,e1,e2,e3⟩:=h5;refine k_ ?_;refine⟨vs,H1,π1,l,xs,h1,rfl,h4,?_,⟨zaJ h3 e1,zbj h3 e1,zaG h3 e1,zai h3.base e1⟩,h2.trans (Step.keeps k),?_,e2,e3⟩
 ·cases hq:s.heap.get? l with
  |none=>rfl
  |some o=>obtain⟨o',h6⟩:=h2.ext.alive l o hq;rw[e1] at h6;cases h6
 ·refine h3.held e1 k ?_
  refine hold fun z k_=>?_;obtain⟨o,n,ho,_,_,hd⟩:=e2;refine k_ ?_;exact⟨o,ho,fun us q=>by rw[hd] at q;cases q⟩
theorem FrP.lst {am:Amb}{sk:List Env}{π:List Addr}{s:Shared}{r:R V}{x:Value}{s':Shared}(h:FrP am sk π s r x s'):OkP am sk (VR am) π s r x s':=by
 refine hold fun z k_=>?_;obtain⟨vs,H1,π1,l,xs,rfl,rfl,h3,h4,h5,h6,h7,h8,h9⟩:=h;refine k_ ?_;refine⟨_,H1,π1,rfl,h6,h7.unhold,?_⟩;exact⟨l,xs,rfl,⟨h5.1,h5.2.2.1⟩,h8.is,h3,h9.reserve.2⟩
theorem FrP.cell {am:Amb}{sk:List Env}{π:List Addr}{s:Shared}{r:R V}{x:Value}{s':Shared}(h:FrP am sk π s r x s') :
  OkP am sk (VR am) π s (r.bind fun x h=>match x with|.l vs=>.ok (.ref h.length) (h++[.list vs])|_=>.bad) x s':=by
 refine hold fun z k_=>?_;obtain⟨vs,H1,π1,l,xs,rfl,rfl,h3,h4,h5,h6,h7,h8,h9⟩:=h;refine k_ ?_;refine⟨_,_,π1++[l],rfl,⟨h6.same,h6.ext,?_⟩,⟨h7.base,h7.frames,by simp[h7.len],?_,h7.unhold.res,?_,?_⟩,?_⟩
 ·obtain⟨δ,rfl,hδ⟩:=h6.grow
  refine⟨δ++[l],by simp,fun a ha=>?_⟩
  rcases zP.mp ha with ha|ha
  ·exact hδ a ha
  ·rw[zK.mp ha];exact h4
 ·rw[nodup_append]
  exact⟨h7.nodup,by simp,fun a ha b hb=>by rw[zK.mp hb];exact fun q=>h5.1 (q ▸ ha)⟩
 ·intro a ha
  rcases zP.mp ha with ha|ha
  ·exact h7.off a ha
  ·rw[zK.mp ha];exact⟨h5.2.2.2,h5.2.1⟩
 ·intro i c a hi ha
  by_cases hlt:i < H1.length
  ·rw[List.getElem?_append_left hlt] at hi
   rw[List.getElem?_append_left (by rw[h7.len];exact hlt)] at ha
   obtain⟨o,ys,q0,q1,q2,q3⟩:=h7.cell i c a hi ha;exact⟨o,ys,q0,q1,q2,q3.reserve.1⟩
  ·have hi':i=H1.length:=znj (by have:=(List.getElem?_eq_some_iff.mp hi).1;rw[zQ] at this;exact this) hlt
   subst hi';simp only[List.getElem?_concat_length,Option.some.injEq] at hi;rw[←h7.len] at ha;simp only[List.getElem?_concat_length,Option.some.injEq] at ha;subst hi ha;exact .ofList h8 h3 h9.reserve.1
 ·rw[zkT]
  exact⟨l,rfl,by rw[←h7.len];simp⟩
def JF (am:Amb) (sk:List Env) (T:PT Value) (r:R V) (π:List Addr) (s:Shared):Prop:=r=.bad∨T (FrP am sk π s r) (ErP am sk π s r) s
theorem FrP.step {am:Amb}{sk:List Env}{π π₁:List Addr}{s s₁:Shared}{r:R V}{a:Value}{s':Shared}
  (x:Step (Fs sk) π s π₁ s₁) (y:FrP am sk π₁ s₁ r a s'):FrP am sk π s r a s':=by
 refine hold fun z k_=>?_;obtain⟨vs,H1,π1,l,xs,h1,h2,h3,h4,h5,h6,h7⟩:=y;refine k_ ?_;refine⟨vs,H1,π1,l,xs,h1,h2,h3,?_,h5,x.trans h6,h7⟩
 cases hq:s.heap.get? l with
 |none=>rfl
 |some o=>obtain⟨o',h6⟩:=x.ext.alive l o hq;rw[h4] at h6;cases h6
section
variable {am:Amb}{sk:List Env}{A:Around}{α β γ δ:Type}{Rel:List Addr→Heap→β→α→Prop}{π:List Addr}{s:Shared}
theorem JF.bind {T:α→PT Value}(hT:∀ a,PT.Mono (T a)){g:β→H→R V}(h1:JAt am sk A m r Rel π s)
  (h2:∀ a b H' π' s',r=.ok b H'→Step (Fs sk) π s π' s'→HR am sk π' H' s'.heap→Rel π' s'.heap b a→JF am sk (T a) (g b H') π' s') :
  JF am sk (fun Q E s=>wpAny am.M A m (fun a s₁=>T a Q E s₁) E s) (r.bind g) π s:=by
 rcases h1 with rfl|h1
 ·exact .inl rfl
 ·cases r with
  |bad=>exact .inl rfl
  |err c H' =>
   refine .inr (yV h1 (fun a s' h=>?_) fun e s' h=>?_)
   ·obtain⟨_,_,_,h,_⟩:=h;cases h
   ·refine hold fun z k_=>?_
    obtain⟨c',H'',π',e',C,fl,h,r2,r3,r4,r5,r6⟩:=h;refine k_ ?_
    cases h
    exact⟨c,H',π',e',C,fl,rfl,r2,r3,r4,r5,r6⟩
  |ok b H' =>
   by_cases hb:g b H'=.bad
   ·exact .inl hb
   ·refine .inr (yV h1 (fun a s' h=>?_) fun e s' h=>?_)
    ·refine hold fun z k_=>?_
     obtain⟨b',H'',π',h,h3,h4,h5⟩:=h;refine k_ ?_
     cases h
     rcases h2 a b H' π' s' rfl h3 h4 h5 with h6|h6
     ·exact absurd h6 hb
     ·exact hT a _ _ _ _ _ (fun z z y=>FrP.step h3 y) (fun z z y=>ErP.step h3 y) h6
    ·obtain⟨_,_,_,_,_,_,h,_⟩:=h;cases h
theorem JF.rule (h:JF am sk T r π s) (k:∀ Q E,T Q E s→T' Q E s):JF am sk T' r π s:=by
 rcases h with h|h
 ·exact .inl h
 ·exact .inr (k _ _ h)
theorem JF.lst (h:JF am sk T r π s) (k:∀ Q E,T Q E s→wpAny am.M A m Q E s):JAt am sk A m r (VR am) π s:=by
 rcases h with h|h
 ·exact .inl h
 ·refine .inr (yV (k _ _ h) (fun a s' h=>?_) fun z z h=>h)
  exact h.lst
theorem JF.cell (h:JF am sk T r π s) (k:∀ Q E,T Q E s→wpAny am.M A m Q E s) :
  JAt am sk A m (r.bind fun x h=>match x with|.l vs=>.ok (.ref h.length) (h++[.list vs])|_=>.bad) (VR am) π s:=by
 rcases h with rfl|h
 ·exact .inl rfl
 ·refine .inr (yV (k _ _ h) (fun a s' h=>?_) fun z z h=>?_)
  ·exact h.cell
  ·refine hold fun z k_=>?_
   obtain⟨c',H'',π',e',C,fl,rfl,r2,r3,r4,r5,r6⟩:=h;refine k_ ?_;exact⟨c',H'',π',e',C,fl,rfl,r2,r3,r4,r5,r6⟩
end
def FJ (am:Amb) (n:Nat) (q:Bool) (F:Fn) (c:Ck) (e:PE) (ex:Expr):Prop:=∀ {cx:Cx}{ρ:List V}{A:Around}{res π:List Addr}{Hc:H}{s:Shared},Base am n q F c cx ρ A→St (am.at res) q cx ρ π Hc A s →
 JF (am.at res) cx.sk (fun Q E s=>wpAny am.M A (eval ex cx.env) Q E s) (evE q F ρ e Hc) π s
theorem FJ.ej (h:FJ am n q F c e ex):EJ am n q F c e ex:=fun {cx ρ A res π Hc s} B st=>(h B st).lst fun z z x=>x
theorem FJ.own (h:FJ am n q F c e ex):EJ am n q F c (.own e) ex:=fun {cx ρ A res π Hc s} B st=>by
 simp -iota only[zlk];exact(h B st).cell fun z z x=>x
set_option tactic.hygienic true in
theorem zkn {es:List PE}{xs:List Expr}{p:Pos}(h:AllJ am n q F c es xs):FJ am n q F c (.list es) (.List xs p):=fun {cx ρ A res π Hc s} B st=>by
 simp -iota only[zjw];refine JF.rule (T:=fun Q E s=>wpAny am.M A (spliced (zam xs cx.env)) (fun ys s₁=>wpAny am.M A (newList ys) Q E s₁) E s)
  (JF.bind (fun z=>PT.wp _ _) (h.args B st) fun ys vs H1 π1 s1 z hs1 hr1 hv1=>?_) fun Q E h'=>?_
 ·unfold mkL
  split
  ·rename_i hle
   exact .inr (wpAny_newList (FrP.new rfl (.refl ..) hr1 hle (NewL.push (n:=0) (tk:=s1.toks) hv1 rfl rfl rfl)) (by rw[hv1.len];exact zaN hle))
  ·exact .inl rfl
 ·rw[arm_eval_List,zae _ h.stars]
  exact yX (wpAny_standAt (yX h'))
theorem OVR.part {am:Amb}{π:List Addr}{h:Heap}{w:Option V}{lo:Option Int}{y:Value}(h1:OVR am π h w y) (h2:w.mapM asInt?=some lo):IsPart y lo:=by
 cases w with
 |none=>cases h1;cases h2;exact .none
 |some v =>
  cases v with
  |int i=>obtain⟨t,rfl⟩:=h1;cases h2;exact .int i t
  |_=>cases h2
theorem zho {a:PE}{lo hi:Option PE}{v:Expr}{l u:Option Expr}{p p':Pos}(ha:EJ am n q F c a v) (hl:OptJ am n q F c lo l) (hu:OptJ am n q F c hi u):FJ am n q F c (.slice a lo hi) (.Subscript v (.Slice l u none p') p):=fun {cx ρ A res π Hc s} B st=>by
 simp -iota only[zlm];refine JF.rule (T:=fun Q E s=>wpAny am.M A (eval v cx.env) (fun x s₀=>wpAny am.M A (valueOrNone (evalOpt l cx.env)) (fun a s₁=>wpAny am.M A (valueOrNone (evalOpt u cx.env)) (fun b s₂=>wpAny am.M A (newFields "slice" [a,b,.none]) (fun i s₃=>wpAny am.M A (subscriptTail v (.Slice l u none p') x i) Q E s₃) E s₂) E s₁) E s₀) E s)
  (JF.bind (fun x=>PT.seq _ _ fun a=>PT.seq _ _ fun b=>PT.seq _ _ fun i=>PT.wp _ _) (ha B st) fun x v' H1 π1 s1 t hs1 hr1 hv1=>?_) fun Q E h=>?_
 ·have st1:=st.step hs1 hr1
  refine JF.bind (fun a=>PT.seq _ _ fun b=>PT.seq _ _ fun i=>PT.wp _ _) (hl.ev B st1) fun y w H2 π2 s2 t hs2 hr2 hv2=>?_;have st2:=st1.step hs2 hr2;refine JF.bind (fun a=>PT.seq _ _ fun i=>PT.wp _ _) (hu.ev B st2) fun z w2 H3 π3 s3 t hs3 hr3 hv3=>?_;unfold zbM
  cases hlo:w.mapM asInt? with
  |none=>exact .inl rfl
  |some lo=>cases hhi:w2.mapM asInt? with
   |none=>exact .inl rfl
   |some hi =>
    dsimp only
    cases hi':litems H3 v' with
    |none=>exact .inl rfl
    |some vs=>exact .inr (zkY (am:=am.at res) hr3 ((hv1.step hs2).step hs3) hi' ((hv2.step hs3).part hlo) (hv3.part hhi) fun y s1 s' h1 h2 h3 h4=>FrP.new rfl h1 h2 h3 h4)
 ·have e:eval (.Subscript v (.Slice l u none p') p) cx.env=(eval v cx.env >>= fun o=>holding [o] (valueOrNone (evalOpt l cx.env) >>= fun a=>holding [a] (valueOrNone (evalOpt u cx.env)) >>= fun b=>holding [a,b] (pure .none) >>= fun d=>newFields "slice" [a,b,d]) >>= fun i=>standAt p >>= fun t=>subscriptTail v (.Slice l u none p') o i):=rfl
  rw[e];exact yX (yV h (fun o s0 h0=>yX (yU (yX (yV h0 (fun a s1 h1=>yX (yU (yV h1 (fun b s2 h2=>yX (yU (yW (yV h2 (fun i s3 h3=>yX (wpAny_standAt h3)) fun t t x=>x)))) fun t t x=>x))) fun t t x=>x)))) fun t t x=>x)
set_option tactic.hygienic true in
theorem zqP {es:List PE}{xs:List Expr}{k:Nat}{p:Pos}(h:AllJ am n q F c es xs):EJ am n q F c (.tup es) (.Tuple xs k p):=fun {cx ρ A res π Hc s} B st=>by
 simp -iota only[zjv];refine JAt.congr (arm_eval_Tuple ..) rfl (JAt.standAt ?_);rw[zae _ h.stars];refine JAt.bind (h.args B st) fun ys vs H1 π1 s1 z hs1 hr1 hv1=>?_;unfold mkT
 split
 ·rename_i hle
  exact .inr (wpAny_newTuple (OkP.tup (n:=0) hr1 hv1 hle rfl rfl) (by rw[hv1.len];exact zaN hle))
 ·exact .inl rfl
theorem zaq (B:Base am n q F c cx ρ A) (hr:HR (am.at res) cx.sk π Hc s.heap){Q:Value→Shared→Prop}{E:Value→Shared→Prop}(hx:c.glob x=true)
  (hv:(x,v)∈bTab) (hs:∀ z∈y::ys,isStar z=false)
  (h:wpAny am.M A (spliced (zam (y::ys) cx.env)) (fun vs s₁=>wpAny am.M A (PySem.call v vs []) Q E s₁) E s):wpAny am.M A (eval (.Call (.Name x p) (y::ys) [] p') cx.env) Q E s:=by
 have hp:(zam (y::ys) cx.env).any (·.1)=false:=by
  simp[zam,List.any_eq_false]
 refine wpAny_Call_Name_kw (znu B hr hx hv ?_);rw[zae _ hs];have h':wpAny am.M A (evalArgs v true (zam (y::ys) cx.env) []) (fun a s₁=>wpAny am.M A (PySem.call v ([]++a.pos) a.kw) Q E s₁) E s:=Calls.evalArgs_plain h
 rcases zpd hv with⟨id,rfl⟩|⟨T,rfl⟩
 ·exact Calls.callWith_builtin hp h'
 ·exact PySem.callWith_type hp h'
end
theorem zne {α β:Type}{g:α→Option β}{f:α→β}:∀ {l:List α},(∀ a∈l,g a=some (f a))→l.filterMap g=l.map f
 |[],_=>rfl
 |a::l,h=>by rw[filterMap_cons,h a (zZ ..),yY,zne fun b hb=>h b (zY _ hb)]
theorem zlo (xs:List Value):slicePick xs.toArray none none (some (-1))=xs.reverse.toArray:=by
 have e:sliceRange ((xs.length:Int) - 1) (-1) (-1)=(List.range xs.length).map fun k=>xs.length - 1 - k:=by
  unfold sliceRange;have c:(if(-1:Int) > 0 then(if(xs.length:Int) - 1 < -1 then(-1 - ((xs.length:Int) - 1)+-1 - 1) / -1 else 0) else(if(xs.length:Int) - 1 > -1 then((xs.length:Int) - 1 - -1 - -1 - 1) / (- -1) else 0)).toNat=xs.length:=by
   rw[zR (by decide),show(- -1:Int)=1 from rfl,Int.ediv_one]
   cases xs.length with
   |zero=>rfl
   |succ k =>
    rw[show((k+1:Nat):Int) - 1=k from Int.add_sub_cancel (k:Int) 1,zT (Int.lt_of_lt_of_le (by decide) (Int.natCast_nonneg k)),show(k:Int) - -1 - -1 - 1=((k+1:Nat):Int) by rw[Int.sub_neg,Int.sub_neg,Int.add_sub_cancel];rfl];rfl
  simp only[c];exact map_congr_left fun k hk=>by have:=List.mem_range.1 hk;omega
 show((sliceRange ((xs.toArray.size:Int) - 1) (-1) (-1)).filterMap (xs.toArray[·]?)).toArray=_;rw[size_toArray,e]
 congr 1
 refine ext_getElem? fun i=>?_;rw[zne (f:=fun j=>xs.getD j .none) fun j hj=>by
  obtain⟨k,hk,rfl⟩:=yQ.1 hj;have:=List.mem_range.1 hk;have h2:xs.length - 1 - k < xs.length:=Nat.lt_of_le_of_lt (Nat.sub_le _ _) (Nat.sub_lt (Nat.zero_lt_of_lt this) Nat.one_pos);rw[List.getElem?_toArray,List.getD_eq_getElem?_getD,zM h2];rfl,map_map,List.getElem?_map]
 by_cases hi:i < xs.length
 ·have h2:xs.length - 1 - i < xs.length:=Nat.lt_of_le_of_lt (Nat.sub_le _ _) (Nat.sub_lt (Nat.zero_lt_of_lt hi) Nat.one_pos)
  rw[List.getElem?_range hi,List.getElem?_reverse hi,Option.map_some,Function.comp,List.getD_eq_getElem?_getD,zM h2];rfl
 ·rw[List.getElem?_eq_none (by rw[length_range];exact Nat.le_of_not_lt hi),List.getElem?_eq_none (by rw[length_reverse];exact Nat.le_of_not_lt hi)];rfl
section
variable {am:Amb}{sk:List Env}{A:Around}{π:List Addr}{s:Shared}{Hc:H}
theorem zpp {Q:Value→Shared→Prop}{E:Value→Shared→Prop}(hr:HR am sk π Hc s.heap) (ha:VR am π s.heap a x) (hi':litems Hc a=some vs)
  (h:∀ y s1 s',Step (Fs sk) π s π s1→HR am sk π Hc s1.heap→vs.reverse.length≤1000000→NewL am π s1 vs.reverse y s'→Q y s') :
  wpAny am.M A (newFields "slice" [.none,.none,.int (-1) t]) (fun i s₁=>wpAny am.M A (subscriptTail value slice x i) Q E s₁) E s:=by
 refine hold fun z k_=>?_;obtain⟨l,xs,rfl,hl,hz,hv⟩:=zao hr ha hi';refine k_ ?_;have e:=hv.len;unfold newFields;refine wpAny_newObj_type ?_;have k:∀ b o,s.heap.get? b=some o→(s.heap.push { cls:=.type "slice",data:=.fields #[.none,.none,.int (-1) t] }).get? b=some o:=fun b o q=>Heap.get?_push_of_some _ q;refine zbX (s:={ s with heap:=s.heap.push { cls:=.type "slice",data:=.fields #[.none,.none,.int (-1) t] } }) (hl.push _).typeIs list_getitem_lookup
  (wpAny_getItem_list_slice (hl.push _) (Heap.IsSliceOf.new ..) .none .none (.int (-1) t) (by decide) ?_ (by rw[size_toArray,e];exact zaN hz))
 rw[zlo];have n:=NewL.push (am:=am) (π:=π) (s:={ s with heap:=s.heap.push { cls:=.type "slice",data:=.fields #[.none,.none,.int (-1) t] } }) (o:={ cls:=.type "list",data:=.seq (List.toArray xs.reverse) }) (n:=0) (tk:=s.toks) (hv.reverse.keeps k) rfl rfl rfl
 exact h _ _ _ (Step.keeps (tk:=s.toks) k) (hr.keeps k) (by rw[length_reverse];exact hz) n
end
section
variable {am:Amb}{n:Nat}{q:Bool}{F:Fn}{c:Ck}
theorem zoU (ha:EJ am n q F c a v):FJ am n q F c (.rev a) (.Subscript v (.Slice none none (some (.UnaryOp .USub (.Constant (.int 1) k pc) pu)) p') p):=fun {cx ρ A res π Hc s} B st=>by
 rw[zpZ];have hs:OptJ am n q F c (some (.neg 1)) (some (.UnaryOp .USub (.Constant (.int 1) k pc) pu)):=znk;generalize Expr.UnaryOp .USub (.Constant (.int 1) k pc) pu=y at *
 refine JF.rule (T:=fun Q E s=>wpAny am.M A (eval v cx.env) (fun x s₀=>wpAny am.M A (valueOrNone (evalOpt (some y) cx.env)) (fun d s₂=>wpAny am.M A (newFields "slice" [.none,.none,d]) (fun i s₃=>wpAny am.M A (subscriptTail v (.Slice none none (some y) p') x i) Q E s₃) E s₂) E s₀) E s)
  (JF.bind (fun x=>PT.seq _ _ fun a=>PT.seq _ _ fun i=>PT.wp _ _) (ha B st) fun x v' H1 π1 s1 u hs1 hr1 hv1=>?_) fun Q E h=>?_
 ·have st1:=st.step hs1 hr1
  refine JF.bind (r:=evO q F ρ (some (.neg 1)) H1) (g:=fun u h=>R.opt ((litems h v').map fun vs=>V.l vs.reverse) h) (fun a=>PT.seq _ _ fun i=>PT.wp _ _) (hs.ev B st1) fun z w H2 π2 s2 e2 hs2 hr2 hv2=>?_
  cases e2
  obtain⟨t,rfl⟩:∃ t,z=.int (-1) t:=hv2
  cases hi':litems H1 v' with
  |none=>exact .inl rfl
  |some vs=>exact .inr (zpp (am:=am.at res) hr2 (hv1.step hs2) hi' fun y s1 s' h1 h2 h3 h4=>FrP.new rfl h1 h2 h3 h4)
 ·have e:eval (.Subscript v (.Slice none none (some y) p') p) cx.env=(eval v cx.env >>= fun o=>holding [o] (pure .none >>= fun a=>holding [a] (pure .none) >>= fun b=>holding [a,b] (valueOrNone (evalOpt (some y) cx.env)) >>= fun d=>newFields "slice" [a,b,d]) >>= fun i=>standAt p >>= fun u=>subscriptTail v (.Slice none none (some y) p') o i):=rfl
  rw[e];refine yX (yV h (fun o s0 h0=>?_) fun u u x=>x);refine yX (yU ?_);refine yX (yW ?_);refine yX (yU (yW ?_));refine yX (yU (yV h0 (fun d s2 h2=>?_) fun u u x=>x));exact yV h2 (fun i s3 h3=>yX (wpAny_standAt h3)) fun u u x=>x
end
theorem zbR (g:Nat→Option V) (h:V.mapRefs g vs=some ws):ws.length=vs.length:=by
 induction vs generalizing ws with
 |nil=>cases h;rfl
 |cons v vs ih =>
  obtain⟨v',_,j⟩:=Option.bind_eq_some_iff.1 h;obtain⟨ws',h2,rfl⟩:=Option.map_eq_some_iff.1 j;exact congrArg Nat.succ (ih h2)
section
variable {am:Amb}{π δ:List Addr}{h:Heap}
mutual
theorem VR.mapRef {g:Nat→Option V}(hg:∀ i a w,(π++δ)[i]?=some a→g i=some w→VR am π h w (.ref a)) :
  ∀ {v v':V}{x:Value},VR am (π++δ) h v x→V.mapRef g v=some v'→VR am π h v' x
 |.uu,_,_,e,_=>e.elim
 |.none,_,_,e,k=>by cases k;exact e
 |.bool _,_,_,e,k=>by cases k;exact e
 |.int _,_,_,e,k=>by cases k;exact e
 |.str _,_,_,e,k=>by cases k;exact e
 |.tup vs,_,x,e,k=>by
  obtain⟨ws,j,rfl⟩:=Option.map_eq_some_iff.1 k;refine hold fun z k_=>?_;obtain⟨a,xs,h1,h2,h3,h4,h5⟩:=e;refine k_ ?_;exact⟨a,xs,h1,⟨fun hm=>h2.1 (mem_append_left _ hm),h2.2⟩,h3,by rw[zbR g j];exact h4,VRs.mapRefs hg h5 j⟩
 |.l vs,_,x,e,k=>by
  obtain⟨ws,j,rfl⟩:=Option.map_eq_some_iff.1 k;refine hold fun z k_=>?_;obtain⟨a,xs,h1,h2,h3,h4,h5⟩:=e;refine k_ ?_;exact⟨a,xs,h1,⟨fun hm=>h2.1 (mem_append_left _ hm),h2.2⟩,h3,by rw[zbR g j];exact h4,VRs.mapRefs hg h5 j⟩
 |.ref i,_,x,e,k=>by
  obtain⟨a,rfl,h2⟩:=e;exact hg i a _ h2 k
 |.exc _,_,_,e,_=>e.elim
theorem VRs.mapRefs {g:Nat→Option V}(hg:∀ i a w,(π++δ)[i]?=some a→g i=some w→VR am π h w (.ref a)) :
  ∀ {vs ws:List V}{xs:List Value},VRs am (π++δ) h vs xs→V.mapRefs g vs=some ws→VRs am π h ws xs
 |[],_,_,e,k=>by cases k;exact e
 |v::vs,ws,xs,e,k=>by
  refine hold fun z k_=>?_;obtain⟨v',k1,j⟩:=Option.bind_eq_some_iff.1 k;obtain⟨ws',k2,rfl⟩:=Option.map_eq_some_iff.1 j;obtain⟨x,xs',rfl,h1,h2⟩:=e;refine k_ ?_;exact⟨x,xs',rfl,VR.mapRef hg h1 k1,VRs.mapRefs hg h2 k2⟩
end
set_option tactic.hygienic true in
theorem VR.frzAt {sk:List Env}{H':H}(hr:HR am sk (π++δ) H' h) (hres:∀ a∈δ,a ∉ am.res) :
  ∀ (k:Nat) (i:Nat) (a:Addr) (w:V),(π++δ)[i]?=some a→Mine.Internal.frzAt k π.length H' i=some w→VR am π h w (.ref a):=by
 have low:∀ i a,(π++δ)[i]?=some a→i < π.length→VR am π h (.ref i) (.ref a):=fun i a h1 h2=>by
  rw[List.getElem?_append_left h2] at h1;exact⟨a,rfl,h1⟩
 intro k
 induction k with
 |zero =>
  intro i a w h1 h2;rw[zoR] at h2
  split at h2
  ·cases h2;exact low i a h1 ‹_›
  ·cases h2
 |succ k ih =>
  intro i a w h1 h2;rw[zeE] at h2
  split at h2
  ·cases h2;exact low i a h1 ‹_›
  ·rename_i hi
   split at h2
   ·rename_i vs hv
    simp only[Option.map_eq_some_iff] at h2;obtain⟨ws,h2,rfl⟩:=h2;refine hold fun z k_=>?_;obtain⟨xs,h3,h4,h5⟩:=(hr.cell i _ a hv h1).list;refine k_ ?_;have hd:a∈δ:=by
     rw[List.getElem?_append_right (by omega)] at h1
     exact mem_of_getElem? h1
    have hn:=hr.nodup;rw[nodup_append] at hn;exact⟨a,xs,rfl,⟨fun hm=>hn.2.2 a hm a hd rfl,hres a hd⟩,h3.is,by rw[zbR _ h2];exact h4,VRs.mapRefs ih h5 h2⟩
   ·cases h2
mutual
theorem VR.cut:∀ {v:V}{x x₀:Value},VR am (π++δ) h v x→VR am π h₀ v x₀→VR am π h v x
 |.uu,_,_,e,_=>e
 |.none,_,_,e,_=>e
 |.bool _,_,_,e,_=>e
 |.int _,_,_,e,_=>e
 |.str _,_,_,e,_=>e
 |.tup vs,x,x₀,e,f=>by
  refine hold fun z k_=>?_;obtain⟨a,xs,h1,h2,h3,h4,h5⟩:=e;refine k_ ?_;refine hold fun z k_=>?_;obtain⟨_,ys,_,_,_,_,f5⟩:=f;refine k_ ?_;exact⟨a,xs,h1,⟨fun hm=>h2.1 (mem_append_left _ hm),h2.2⟩,h3,h4,VRs.cut h5 f5⟩
 |.l vs,x,x₀,e,f=>by
  refine hold fun z k_=>?_;obtain⟨a,xs,h1,h2,h3,h4,h5⟩:=e;refine k_ ?_;refine hold fun z k_=>?_;obtain⟨_,ys,_,_,_,_,f5⟩:=f;refine k_ ?_;exact⟨a,xs,h1,⟨fun hm=>h2.1 (mem_append_left _ hm),h2.2⟩,h3,h4,VRs.cut h5 f5⟩
 |.ref i,x,x₀,e,f=>by
  obtain⟨a,h1,h2⟩:=e;obtain⟨b,_,f2⟩:=f;rw[List.getElem?_append_left (List.getElem?_eq_some_iff.mp f2).1] at h2;exact⟨a,h1,h2⟩
 |.exc _,_,_,e,_=>e
theorem VRs.cut:∀ {vs:List V}{xs xs₀:List Value},VRs am (π++δ) h vs xs→VRs am π h₀ vs xs₀→VRs am π h vs xs
 |[],_,_,e,_=>e
 |v::vs,xs,xs₀,e,f=>by
  refine hold fun z k_=>?_;obtain⟨x,xs',rfl,h1,h2⟩:=e;refine k_ ?_;refine hold fun z k_=>?_;obtain⟨y,ys',rfl,f1,f2⟩:=f;refine k_ ?_;exact⟨x,xs',rfl,VR.cut h1 f1,VRs.cut h2 f2⟩
end
theorem HR.cut {sk:List Env}{Hc H':H}{h₀:Heap}(hr:HR am sk (π++δ) H' h) (hr₀:HR am sk π Hc h₀) (ht:H'.take Hc.length=Hc):HR am sk π Hc h:=by
 refine⟨hr.base,hr.frames,hr₀.len,hr₀.nodup,hr.res,fun a ha=>hr.off a (mem_append_left _ ha),fun i c a h1 h2=>?_⟩;have hi:i < Hc.length:=(List.getElem?_eq_some_iff.mp h1).1;have h3:H'[i]?=some c:=by
  have:=congrArg (fun l=>l[i]?) ht;simp only[List.getElem?_take,hi,if_true] at this;rw[this];exact h1
 have h4:(π++δ)[i]?=some a:=by rw[List.getElem?_append_left (by rw[hr₀.len];exact hi)];exact h2
 obtain⟨o,xs,e0,e1,e2,e3⟩:=hr.cell i c a h3 h4;obtain⟨_,ys,_,_,_,f3⟩:=hr₀.cell i c a h1 h2;exact⟨o,xs,e0,e1,e2,e3.cut f3⟩
end
theorem Step.less {Fs π π':List Addr}{s s':Shared}(x:Step Fs π s π' s'):Step Fs π s π s':=⟨x.same,x.ext,[],by simp,by simp⟩
set_option tactic.hygienic true in
theorem JAt.pcall {am:Amb}{sk:List Env}{A:Around}{π:List Addr}{s:Shared}{Hc:H}{m:Sem Value}{r:R V}(hr:HR am sk π Hc s.heap) (h:JAt am sk A m r (VR am) π s):JAt am sk A m (Mine.Internal.pcall Hc r) (VR am) π s:=by
 rcases h with rfl|h
 ·exact .inl rfl
 ·cases r with
  |bad=>exact .inl rfl
  |err c H' =>
   simp only[Mine.Internal.pcall]
   split
   ·rename_i ht
    refine .inr (yV h (fun a s' h=>?_) fun e s' h=>?_)
    ·obtain⟨_,_,_,h,_⟩:=h;cases h
    ·refine hold fun z k_=>?_
     obtain⟨c',H'',π',e',C,fl,h1,h2,h3,h4,h5,h6⟩:=h;refine k_ ?_
     cases h1
     obtain⟨δ,rfl,hδ⟩:=h4.grow;exact⟨c,Hc,π,e',C,fl,rfl,h2,h3,h4.less,h5.cut hr ht,h6⟩
   ·exact .inl rfl
  |ok v H' =>
   simp only[Mine.Internal.pcall]
   split
   ·rename_i ht
    cases hf:frz Hc.length H' v with
    |none=>exact .inl rfl
    |some w =>
     refine .inr (yV h (fun a s' h=>?_) fun e s' h=>?_)
     ·refine hold fun z k_=>?_
      obtain⟨b,H'',π',h1,h2,h3,h4⟩:=h;refine k_ ?_
      cases h1
      obtain⟨δ,rfl,hδ⟩:=h2.grow;refine⟨w,Hc,π,rfl,h2.less,h3.cut hr ht,?_⟩;rw[←hr.len] at hf;exact VR.mapRef (VR.frzAt h3 (fun a ha hm=>by
       obtain⟨o,ho,_⟩:=hr.res a hm;rw[hδ a ha] at ho;cases ho) 4) h4 hf
     ·obtain⟨_,_,_,_,_,_,h,_⟩:=h;cases h
   ·exact .inl rfl
section
variable {am:Amb}{n:Nat}{q:Bool}{F:Fn}{c:Ck}
theorem spl1 {Q:List Value→Shared→Prop}{E:Value→Shared→Prop}(h:wpAny M A (eval y env) (fun v s₁=>Q [v] s₁) E s):wpAny M A (spliced (zam [y] env)) Q E s :=
 Calls.spliced_cons (yV h (fun z z h=>Calls.spliced_nil h) fun z z x=>x)
theorem spl2 {Q:List Value→Shared→Prop}{E:Value→Shared→Prop}(h:wpAny M A (eval y env) (fun v s₁=>wpAny M A (eval z env) (fun w s₂=>Q [v,w] s₂) E s₁) E s):wpAny M A (spliced (zam [y,z] env)) Q E s :=
 Calls.spliced_cons (yV h (fun u u h=>spl1 h) fun u u x=>x)
noncomputable def bfVal:Bf→Value
 |.len=>.builtin "len"|.all=>.builtin "all"|.any=>.builtin "any"|.sorted=>.builtin "sorted"|.min=>.builtin "min"|.sum=>.builtin "sum"
 |.list=>.type "list"|.tuple=>.type "tuple"|.int=>.type "int"|.str=>.type "str"|.listRev=>.type "list"|.listRange=>.type "list"
theorem zhE (f:Bf):(bfName f,bfVal f)∈bTab:=by cases f<;>exact zbI (by kernel_rfl)
theorem Hd.quiet {A:Around}{π Fs:List Addr}{h:Heap}(x:Hd true A π Fs h):A.handled=none:=x
theorem zrK {f:Bf}{am:Amb}{sk:List Env}{A:Around}{π:List Addr}{s:Shared}{Hc:H}{a:V}{x:Value}{n:Nat}(as:AS n sk A) (hf:f.ready=true) (h0:f≠.listRev∧f≠.listRange) (hq:f.walks=true→A.handled=none) (hr:HR am sk π Hc s.heap) (ha:VR am π s.heap a x) :
  JAt am sk A (PySem.call (bfVal f) [x]) (R.opt (bf f Hc a) Hc) (VR am) π s:=by
 cases f with
 |len=>exact zp2 hr ha
 |list=>exact zoi hr ha
 |tuple=>exact zlv hr ha
 |int=>exact zp5 hr ha
 |all=>exact zp8 (hq rfl) hr ha
 |listRev=>exact absurd rfl h0.1
 |sorted=>exact zjE as hr ha
 |sum=>exact zp0 (hq rfl) hr ha
 |listRange=>exact absurd rfl h0.2
 |_=>cases hf
set_option tactic.hygienic true in
theorem zr6 (h0:f≠.listRev∧f≠.listRange) (hx:c.glob (bfName f)=true) (hy:isStar y=false) (ha:EJ am n q F c a y):EJ am n q F c (.bf f a) (.Call (.Name (bfName f) p) [y] [] p'):=fun {cx ρ A res π Hc s} B st=>by
 simp -iota only[zju]
 split
 ·exact .inl rfl
 ·rename_i hq
  simp only[Bool.or_eq_true,Bool.and_eq_true,Bool.not_eq_true',not_or,not_and,Bool.not_eq_false] at hq;refine JT.at (T:=fun Q E s=>wpAny am.M A (eval y cx.env) (fun v s₁=>wpAny am.M A (PySem.call (bfVal f) [v]) Q E s₁) E s) (JT.bind (fun z=>PT.wp _ _) (ha B st) fun x v H1 π1 s1 z hs1 hr1 hv1=>JAt.pt ?_)
   fun Q E h=>zaq B st.hr hx (zhE f) (by simpa using hy) (spl1 h)
  refine zrK B.as hq.2 h0 (fun hw=>?_) hr1 hv1
  cases q with
  |false=>exact absurd hw (by simpa using hq.1)
  |true=>exact Hd.quiet st.hd
theorem zko (hx:c.glob (bfName .list)=true) (hy:isStar y=false) (ha:EJ am n q F c a y):FJ am n q F c (.bf .list a) (.Call (.Name (bfName .list) p) [y] [] p'):=fun {cx ρ A res π Hc s} B st=>by
 have e:evE q F ρ (.bf .list a) Hc=(evE q F ρ a Hc).bind fun x h=>R.opt (bf .list h x) h:=by
  simp only[zju,Bf.ready,Bf.walks];simp
 rw[e];refine JF.rule (T:=fun Q E s=>wpAny am.M A (eval y cx.env) (fun v s₁=>wpAny am.M A (PySem.call (.type "list") [v]) Q E s₁) E s) (JF.bind (fun z=>PT.wp _ _) (ha B st) fun x v H1 π1 s1 z hs1 hr1 hv1=>?_)
   fun Q E h=>zaq B st.hr hx (zhE .list) (by simpa using hy) (spl1 h)
 unfold bf;dsimp only
 cases hi:items H1 v with
 |none=>exact .inl rfl
 |some vs =>
  obtain⟨xs,hz⟩:∃ xs:List Value,vs.length≤1000000:=⟨[],by
   rcases zb3 hr1 hv1 hi with⟨l,xs,h⟩
   rcases h with⟨_,h⟩
   first|exact h.2.1|exact h.1|omega⟩
  exact .inr (ziU (am:=am.at res) hr1 hv1 hi fun y s' h=>FrP.new rfl (.refl ..) hr1 hz h)
set_option tactic.hygienic true in
theorem znf (hx:c.glob (bfName .list)=true) (hx2:c.glob "reversed"=true) (hy:isStar y=false) (ha:EJ am n q F c a y) :
  FJ am n q F c (.bf .listRev a) (.Call (.Name (bfName .listRev) p) [.Call (.Name "reversed" p2) [y] [] p2'] [] p'):=fun {cx ρ A res π Hc s} B st=>by
 simp -iota only[zju]
 split
 ·exact .inl rfl
 ·rename_i hq
  have hq':q=true:=by cases q<;>simp[Bf.walks] at hq ⊢
  subst hq';have hh:=Hd.quiet st.hd;refine JF.rule (T:=fun Q E s=>wpAny am.M A (eval y cx.env) (fun v s₁=>wpAny am.M A (PySem.call (.type "reversed") [v]) (fun i s₂=>wpAny am.M A (PySem.call (.type "list") [i]) Q E s₂) E s₁) E s)
   (JF.bind (fun u=>PT.seq _ _ fun u=>PT.wp _ _) (ha B st) fun x v H1 π1 s1 u hs1 hr1 hv1=>?_)
   fun Q E h=>zaq B st.hr hx (zhE .listRev) (fun z hz=>by rw[zK.mp hz];rfl) (spl1 (zaq B st.hr hx2 (zbI (by kernel_rfl)) (by simpa using hy) (spl1 h)))
  unfold bf;dsimp only
  cases hi:litems H1 v with
  |none=>exact .inl rfl
  |some vs =>
   refine hold fun u k_=>?_;obtain⟨l,xs,_,_,hz,_⟩:=zao hr1 hv1 hi;refine k_ ?_;exact .inr (zhK (am:=am.at res) hh hr1 hv1 hi fun y s' h=>FrP.new rfl (.refl ..) hr1 (by simpa using hz) h)
end
section
variable {am:Amb}{n:Nat}{q:Bool}{F:Fn}{c:Ck}
noncomputable def lonly (o:Option V):Option V:=match o with
 |some (.l vs)=>some (.l vs)
 |_=>Option.none
theorem zjC (ha:EJ am n q F c a l) (hb:EJ am n q F c b r)
  (key:∀ {cx:Cx}{A:Around}{res π:List Addr}{H2:H}{s:Shared}{v w:V}{x y:Value},HR (am.at res) cx.sk π H2 s.heap→VR (am.at res) π s.heap v x→VR (am.at res) π s.heap w y→JF (am.at res) cx.sk (fun Q E s=>wpAny am.M A (binaryOp (bopM op) x y) Q E s) (R.opt (lonly (pyBin op H2 v w)) H2) π s):EJ am n q F c (.own (.bin op a b)) (.BinOp l (bopM op) r p):=fun {cx ρ A res π Hc s} B st=>by
 have e:evE q F ρ (.own (.bin op a b)) Hc=((evE q F ρ a Hc).bind fun x h=>(evE q F ρ b h).bind fun y h=>R.opt (lonly (pyBin op h x y)) h).bind fun x h=>match x with|.l vs=>.ok (.ref h.length) (h++[.list vs])|_=>.bad:=by
  simp -iota only[zjw,zkX,zlk]
  cases evE q F ρ a Hc with
  |ok v h =>
   simp only[R.bind_ok]
   cases evE q F ρ b h with
   |ok w h =>
    simp only[R.bind_ok]
    cases pyBin op h v w with
    |none=>rfl
    |some u=>cases u<;>rfl
   |_=>rfl
  |_=>rfl
 rw[e];exact JF.cell (T:=fun Q E s=>wpAny am.M A (eval l cx.env) (fun v s₁=>wpAny am.M A (eval r cx.env) (fun w s₂=>wpAny am.M A (binaryOp (bopM op) v w) Q E s₂) E s₁) E s)
  (JF.bind (fun z=>PT.seq _ _ fun z=>PT.wp _ _) (ha B st) fun x v H1 π1 s1 z hs1 hr1 hv1=>JF.bind (fun z=>PT.wp _ _) (hb B (st.step hs1 hr1)) fun y w H2 π2 s2 z hs2 hr2 hv2=>key hr2 (hv1.step hs2) hv2)
  fun Q E h=>wpAny_BinOp h
set_option tactic.hygienic true in
theorem zod (ha:EJ am n q F c a l) (hb:EJ am n q F c b r):EJ am n q F c (.own (.bin .mul a b)) (.BinOp l .Mult r p):=zjC (op:=.mul) ha hb fun {cx A res π H2 s v w x y} hr hv hw=>by
 show JF _ _ _ (R.opt (lonly (pyMul H2 v w)) H2) _ _
 rcases zc1 H2 v w with h|⟨i,k⟩|⟨k,h⟩
 ·rw[h];exact .inl rfl
 ·refine .inl ?_
  show R.opt (lonly (if i.natAbs < 9223372036854775808∨k.natAbs < 9223372036854775808 then some (V.int (i * k)) else Option.none)) H2=.bad
  split<;>rfl
 ·rw[zrh] at hw
  obtain⟨u,rfl⟩:=hw;rw[h]
  split
  ·rename_i hk
   cases hi:litems H2 v with
   |none=>exact .inl rfl
   |some vs =>
    simp only[Option.bind_some,mkL]
    split
    ·rename_i hle
     exact .inr (zcQ (am:=am.at res) hr hv hi ⟨hk.2,hk.1⟩ hle fun y s' h=>FrP.new rfl (.refl ..) hr hle h)
    ·exact .inl rfl
  ·exact .inl rfl
set_option tactic.hygienic true in
theorem zoe (ha:EJ am n q F c a l) (hb:EJ am n q F c b r):EJ am n q F c (.own (.bin .add a b)) (.BinOp l .Add r p):=zjC (op:=.add) ha hb fun {cx A res π H2 s v w x y} hr hv hw=>by
 show JF _ _ _ (R.opt (lonly (pyAdd H2 v w)) H2) _ _
 rcases zc2 H2 v w with h|⟨i,k⟩|⟨i,k⟩|⟨vs,ws,la,lb,h⟩
 ·rw[h];exact .inl rfl
 ·exact .inl rfl
 ·first
  |exact .inl rfl
  |refine .inl ?_
   show R.opt (lonly (mkT (i++k))) H2=.bad;unfold mkT
   split<;>rfl
 ·rw[h]
  unfold mkL
  split
  ·rename_i hle
   exact .inr (zcR (am:=am.at res) hr hv hw la lb hle fun y s' h=>FrP.new rfl (.refl ..) hr hle h)
  ·exact .inl rfl
theorem zrm (B:Base am n q F c cx ρ A) (hr:HR (am.at res) cx.sk π Hc s.heap){Q:Value→Shared→Prop}{E:Value→Shared→Prop}(hp:tyPl t=true) (hk:ckTy c t x=true) (h:Q (tyVal t) s) :
  wpAny am.M A (eval x cx.env) Q E s:=by
 obtain⟨p,rfl,hk'⟩:=zeM hk;refine znu B hr hk' ?_ h
 cases t<;>first|exact noB hp|exact zbI (by kernel_rfl)
theorem zg0 (hk:ckTys c ts xs=true):∀ x∈xs,isStar x=false:=by
 induction ts generalizing xs with
 |nil=>cases xs with
  |nil=>exact fun z h=>(not_mem_nil h).elim
  |cons _ _=>exact noB hk
 |cons t ts ih=>cases xs with
  |nil=>exact noB hk
  |cons x xs =>
   have hk:=yK.1 hk;intro y hy
   rcases zN.mp hy with rfl|hy
   ·obtain⟨p,rfl,_⟩:=zeM hk.1;rfl
   ·exact ih hk.2 y hy
theorem zhO (h:tyPl t=true):t.plain=true:=by cases t<;>first|rfl|exact noB h
theorem zkv (hx:c.glob "isinstance"=true) (hp:tyPl t=true) (hk:ckTy c t x=true) (hy:isStar y=false) (ha:EJ am n q F c a y) :
  EJ am n q F c (.isinst a [t]) (.Call (.Name "isinstance" p) [y,x] [] p'):=fun {cx ρ A res π Hc s} B st=>by
 simp -iota only[zll];refine JT.at (T:=fun Q E s=>wpAny am.M A (eval y cx.env) (fun v s₁=>wpAny am.M A (eval x cx.env) (fun w s₂=>wpAny am.M A (PySem.call (.builtin "isinstance") [v,w]) Q E s₂) E s₁) E s)
  (JT.bind (fun u=>PT.seq _ _ fun u=>PT.wp _ _) (ha B st) fun z v H1 π1 s1 u hs1 hr1 hv1=>?_)
  fun Q E h=>zaq B st.hr hx (zbI (by kernel_rfl)) (by intro z hz;rcases zN.mp hz with rfl|hz;exact hy;exact zg0 (c:=c) (ts:=[t]) (xs:=[x]) (yK.2 ⟨hk,rfl⟩) z hz) (spl2 h)
 refine JT.rule (JAt.pt (zp3 (A:=A) (am:=am.at res) B.ok.K hr1 hv1 (zhO hp))) fun Q E h=>?_;exact zrm B hr1 hp hk h
theorem zo3 (hx:c.glob (Str.ofString f)=true) (hf:f∈c.fns) (h:AllJ am n q F c es (x::xs)) :
  EJ am n q F c (.call k f es) (.Call (.Name (Str.ofString f) p) (x::xs) [] p'):=fun {cx ρ A res π Hc s} B st=>by
 simp -iota only[za2];obtain⟨a,fa⟩:=B.ck.fns f hf;refine hold fun z k_=>?_;obtain⟨ga,o,fd,ho,hd⟩:=id fa;refine k_ ?_;refine JAt.seqP (m:=spliced (zam (x::xs) cx.env)) (f:=fun vs=>PySem.call (.ref a) vs []) (P:=fun z s₁=>s₁.heap.get? a=some o∧o.data=.func fd) (fun Q E h'=>?_) (h.args B st) fun ys vs H1 π1 s1 z hs1 hr1 hv1=>⟨⟨hr1.base a o ho,hd⟩,?_⟩
 ·refine wpAny_Call_Name_kw (zca B st.hr hx ga ?_)
  rw[zae _ h.stars];exact Calls.callWith_function (o:=o) (fd:=fd) (Calls.evalArgs_plain h')
 ·have J:=B.fn.call res q f a vs ys cx.sk A π1 H1 s1 fa B.as hr1 (st.hd.step hs1) (.inl hv1)
  cases k with
  |true=>exact J
  |false=>exact JAt.pcall hr1 J
end
theorem PL.update (pl:PL h l xs) (f:Array Value→Array Value):PL (h.update l (Obj.mapSeq f)) l (f (List.toArray xs)).toList:=by
 refine hold fun z k_=>?_;obtain⟨o,n,ho,hc,hdi,hd⟩:=pl;refine k_ ?_;obtain⟨n',hd'⟩:=Obj.data_mapSeq hd f;refine⟨_,n',Heap.get?_update_self _ ho (Obj.isFreed_of_seq hd'),(Obj.cls_mapSeq ..).trans hc,?_,by simpa using hd'⟩
 refine hold fun z k_=>?_;obtain⟨c,d,dt,sl⟩:=o;refine k_ ?_;simp only at hd hdi;subst hd hdi
 rfl
theorem zbi {h h' base:Heap}{l:Addr}(k:∀ b o,b≠l→h.get? b=some o→h'.get? b=some o) (hl:∃ o,h'.get? l=some o∧∀ us,o.data≠.fields us)
  {st:List Env}(x:h.FunFrames base st):h'.FunFrames base st:=by
 induction st with
 |nil=>trivial
 |cons e st ih =>
  refine hold fun z k_=>?_;obtain⟨h1,⟨L,o,h2,h3,h4,h5⟩,h6⟩:=x;refine k_ ?_;refine⟨h1,?_,ih h6⟩
  by_cases hL:L=l
  ·subst hL
   obtain⟨o',h7,h8⟩:=hl;exact⟨L,o',h2,h3,h7,h8⟩
  ·exact⟨L,o,h2,h3,k L o hL h4,h5⟩
theorem zbD {π:List Addr}{i:Nat}{l:Addr}(h:π[i]?=some l):l∈π:=mem_of_getElem? h
theorem zm1 {π:List Addr}(hn:π.Nodup){i j:Nat}{l:Addr}(h1:π[i]?=some l) (h2:π[j]?=some l):i=j:=by
 exact(List.getElem?_inj (List.getElem?_eq_some_iff.mp h1).1 hn).mp (h1.trans h2.symm)
theorem HR.put {am:Amb}{sk:List Env}{π:List Addr}{Hc:H}{s:Shared}(hr:HR am sk π Hc s.heap){i:Nat}{l:Addr}(hi:π[i]?=some l){vs:List V}{xs:List Value}(hz:vs.length≤1000000){h':Heap}{tk:Nat}
  (k:∀ b o,b≠l→s.heap.get? b=some o→h'.get? b=some o) (pl:PL h' l xs) (hv:VRs am π s.heap vs xs) :
  Step (Fs sk) π s π { s with heap:=h',toks:=tk }∧HR am sk π (Hc.set i (.list vs)) h':=by
 have hl:=zbD hi;have nf:∃ o,h'.get? l=some o∧∀ us,o.data≠.fields us:=by
  refine hold fun z k_=>?_;obtain⟨o,n,ho,_,_,hd⟩:=pl;refine k_ ?_;exact⟨o,ho,fun us q=>by rw[hd] at q;cases q⟩
 have st:Step (Fs sk) π s π { s with heap:=h',toks:=tk }:=by
  refine⟨⟨h',tk,rfl⟩,⟨fun a o e h1 z=>k a o (fun q=>h1 (q ▸ hl)) e,fun a o e h1=>⟨o.slots,k a o (fun q=>h1 (q ▸ hl)) e⟩,fun a o e=>?_⟩,[],by simp,by simp⟩
  by_cases ha:a=l
  ·subst ha;obtain⟨o,ho,_⟩:=nf;exact⟨o,ho⟩
  ·exact⟨o,k a o ha e⟩
 refine⟨st,⟨fun a o e=>?_,zbi k nf hr.frames,by simp[hr.len],hr.nodup,fun a ha=>?_,hr.off,fun j c a h1 h2=>?_⟩⟩
 ·exact k a o (fun q=>by subst q;rw[(hr.off a hl).1] at e;cases e) (hr.base a o e)
 ·by_cases hq:a=l
  ·subst hq;exact nf
  ·obtain⟨o,ho,hd⟩:=hr.res a ha
   exact⟨o,k a o hq ho,hd⟩
 ·by_cases hj:j=i
  ·subst hj
   have hlt:j < Hc.length:=by rw[←hr.len];exact(List.getElem?_eq_some_iff.mp hi).1
   rw[List.getElem?_set_self hlt] at h1
   cases h1
   rw[hi] at h2;cases h2
   exact .ofList pl hz (hv.step st)
  ·rw[List.getElem?_set_ne (Ne.symm hj)] at h1
   have hne:a≠l:=fun q=>hj (zm1 hr.nodup (q ▸ h2) hi);exact(hr.cell j c a h1 h2).via st.via fun o e z=>⟨o.slots,k a o hne e⟩
theorem PT.and {γ:Type}{P:Shared→Prop}{T:PT γ}(h:PT.Mono T):PT.Mono (fun Q E s=>P s∧T Q E s):=fun Q Q' E E' s h1 h2 x=>⟨x.1,h Q Q' E E' s h1 h2 x.2⟩
section
variable {am:Amb}{sk:List Env}{A:Around}{π:List Addr}{s:Shared}{Hc:H}
set_option tactic.hygienic true in
theorem zbF (hr:HR am sk π Hc s.heap) (ha:VR am π s.heap a x) (hc:lcell Hc a=true) :
  ∃ i l vs xs,a=.ref i∧x=.ref l∧π[i]?=some l∧Hc[i]?=some (.list vs)∧PL s.heap l xs∧vs.length≤1000000∧VRs am π s.heap vs xs:=by
 cases a with
 |ref i =>
  simp only[lcell] at hc;obtain⟨l,rfl,hl⟩:=ha
  split at hc
  ·rename_i vs hv
   refine hold fun z k_=>?_;obtain⟨xs,h1,h2,h3⟩:=(hr.cell i _ l hv hl).list;refine k_ ?_;exact⟨i,l,vs,xs,rfl,rfl,hl,hv,h1,h2,h3⟩
  ·cases hc
 |_=>simp[lcell] at hc
theorem zaW {f:List V→Option (V × List V)}(h:lcell Hc a=false):onList Hc a f=.bad:=by
 cases a with
 |ref i =>
  simp only[lcell,onList] at h ⊢
  cases hq:Hc[i]? with
  |none=>rfl
  |some c=>cases c with
   |list vs=>rw[hq] at h;cases h
   |dict es=>rfl
 |_=>rfl
set_option tactic.hygienic true in
theorem zjJ (hr:HR am sk π Hc s.heap) (ha:VR am π s.heap a x) (hb:VR am π s.heap b y) :
  JAt am sk A (PySem.call (.builtin "list.append") [x,y]) (onList Hc a fun vs=>some (.none,vs++[b])) (VR am) π s:=by
 cases hc:lcell Hc a with
 |false=>exact .inl (zaW hc)
 |true =>
  refine hold fun z k_=>?_;obtain⟨i,l,vs,xs,rfl,rfl,hi,hH,pl,hz,hv⟩:=zbF hr ha hc;refine k_ ?_;simp only[onList,hH]
  split
  ·rename_i hle
   refine hold fun z k_=>?_;obtain⟨o,n,ho,hcl,hdi,hd⟩:=id pl;refine k_ ?_;refine .inr (wpAny_call_entry slot_list_append pl.is.typeIs entry_list_append ?_ (args_list_append _ _));show wpAny _ _ (updateSeq l (·.push y) >>= fun z=>ret .none) _ _ s;refine yX ?_;have e:=hv.len;refine wpAny_updateSeq ho hd (yW ⟨.none,rfl,?_⟩) (hz:=by rw[size_toArray,e];exact zaN hz)
   have pl':=pl.update (·.push y);have hp:=HR.put (tk:=s.toks) hr hi hle (xs:=xs++[y]) (h':=s.heap.update l (Obj.mapSeq (·.push y))) (fun b o h1 h2=>(Heap.SameBut.update ..).extBut b o h1 h2) (by simpa using pl') (hv.append (.single hb))
   exact⟨.none,_,π,rfl,hp.1,hp.2,rfl⟩
  ·exact .inl rfl
end
section
variable {am:Amb}{n:Nat}{q:Bool}{F:Fn}{c:Ck}
theorem zgR (h:okBase o=true):attributeBase o name env (eval o env)=eval o env:=by
 cases o<;>first|rfl|exact noB h
set_option tactic.hygienic true in
theorem zdR {e:PE}{o a:PE}{v y:Expr}{name:Str}{id:String}{p p':Pos}{g:V→V→H→R V}(hb:okBase v=true) (hl:(p.endLine == p'.line)=true) (hy:isStar y=false) (slot:Slot "list" name id) (hty:typeOf (.builtin id)=pure (.type "method_descriptor"))
  (ho:EJ am n q F c o v) (ha:EJ am n q F c a y) (he:∀ ρ Hc,evE q F ρ e Hc=(evE q F ρ o Hc).bind fun x h=>if lcell h x then(evE q F ρ a h).bind fun y h=>g x y h else .bad)
  (op:∀ {res:List Addr}{sk:List Env}{A:Around}{π:List Addr}{s:Shared}{Hc:H}{a b:V}{x y:Value},AS n sk A→HR (am.at res) sk π Hc s.heap→VR (am.at res) π s.heap a x→VR (am.at res) π s.heap b y→JAt (am.at res) sk A (PySem.call (.builtin id) [x,y]) (g a b Hc) (VR (am.at res)) π s) :
  EJ am n q F c e (.Call (.Attribute v name p) [y] [] p'):=fun {cx ρ A res π Hc s} B st=>by
 rw[he];have hst:∀ z∈[y],isStar z=false:=by simpa using hy
 refine JT.at (T:=fun Q E s=>wpAny am.M A (eval v cx.env) (fun ov s₁=>(s₁.TypeIs ov "list"∧(∀ a,ov=.ref a→∃ ob,s₁.heap.get? a=some ob∧ob.dict=none))∧wpAny am.M A (eval y cx.env) (fun w s₂=>wpAny am.M A (PySem.call (.builtin id) [ov,w]) Q E s₂) E s₁) E s)
  (JT.bind (fun t=>PT.and (PT.seq _ _ fun t=>PT.wp _ _)) (ho B st) fun x u H1 π1 s1 t hs1 hr1 hv1=>?_) fun Q E h=>?_
 ·split
  ·rename_i hc
   refine hold fun t k_=>?_;obtain⟨i,l,vs,xs,rfl,rfl,hi,hH,pl,hz,hv⟩:=zbF hr1 hv1 hc;refine k_ ?_;have J:JT (am.at res) cx.sk (fun Q E s=>wpAny am.M A (eval y cx.env) (fun w s₂=>wpAny am.M A (PySem.call (.builtin id) [.ref l,w]) Q E s₂) E s) ((evE q F ρ a H1).bind fun y h=>g (.ref i) y h) (VR (am.at res)) π1 s1 :=
    JT.bind (fun t=>PT.wp _ _) (ha B (st.step hs1 hr1)) fun w u H2 π2 s2 t hs2 hr2 hv2=>JAt.pt (op B.as hr2 (hv1.step hs2) hv2)
   exact J.rule fun Q E h=>⟨⟨pl.is.typeIs,fun a e=>by cases e;obtain⟨o,n,ho,_,hd,_⟩:=pl;exact⟨o,ho,hd⟩⟩,h⟩
  ·exact .inl rfl
 ·refine wpAny_Call_method (T:="list") (id:=id) (zgR hb) (by rw[zae _ hst];rfl) hl PySem.F.plainAttrs_list slot hty (yV h (fun ov s₁ h₁=>⟨h₁.1.1,h₁.1.2,?_⟩) fun t t x=>x)
  rw[zae _ hst];exact Calls.callWith_builtin rfl (Calls.evalArgs_plain (spl1 h₁.2))
theorem zkw {o a:PE}{v y:Expr}{p p':Pos}(hb:okBase v=true) (hl:(p.endLine == p'.line)=true) (hy:isStar y=false) (ho:EJ am n q F c o v) (ha:EJ am n q F c a y) :
  EJ am n q F c (.append o a) (.Call (.Attribute v "append" p) [y] [] p') :=
 zdR (id:="list.append") (g:=fun x y h=>onList h x fun vs=>some (.none,vs++[y])) hb hl hy PySem.F.slot_list_append PySem.F.type_list_append ho ha (fun ρ Hc=>by rw[zlj]) fun z hr h1 h2=>zjJ hr h1 h2
end
section
variable {am:Amb}{sk:List Env}{A:Around}{π:List Addr}{s:Shared}{Hc:H}
theorem zlx (hr:HR am sk π Hc s.heap) (ha:VR am π s.heap a x) :
  JAt am sk A (PySem.call (.builtin "list.clear") [x]) (onList Hc a fun z=>some (.none,[])) (VR am) π s:=by
 cases hc:lcell Hc a with
 |false=>exact .inl (zaW hc)
 |true =>
  refine hold fun z k_=>?_;obtain⟨i,l,vs,xs,rfl,rfl,hi,hH,pl,hz,hv⟩:=zbF hr ha hc;refine k_ ?_;simp only[onList,hH];rw[zT (by simp)]
  refine hold fun z k_=>?_;obtain⟨o,n,ho,hcl,hdi,hd⟩:=id pl;refine k_ ?_;refine .inr (wpAny_call_entry PySem.F.slot_list_clear pl.is.typeIs PySem.F.entry_list_clear ?_ (PySem.F.args_list_clear_1 _));show wpAny _ _ (Builtin.List.listItems (.ref l) >>= fun old=>updateSeq l (fun z=>#[]) >>= fun z=>letGo old.toList.reverse >>= fun z=>ret .none) _ _ s;refine yX (wpAny_listItems ho hd ?_);refine yX ?_
  have e:=hv.len;refine wpAny_updateSeq ho hd ?_ (hz:=by rw[size_toArray,e];exact zaN hz)
  refine yX (wpAny_letGo ?_);refine yW ⟨.none,rfl,?_⟩;have pl':=pl.update (fun z=>#[]);have hp:=HR.put (tk:=s.toks) hr hi (vs:=[]) (by simp) (xs:=[]) (h':=s.heap.update l (Obj.mapSeq (fun z=>#[]))) (fun b o h1 h2=>(Heap.SameBut.update ..).extBut b o h1 h2) (by simpa using pl') rfl
  exact⟨.none,_,π,rfl,hp.1,hp.2,rfl⟩
end
section
variable {am:Amb}{n:Nat}{q:Bool}{F:Fn}{c:Ck}
set_option tactic.hygienic true in
theorem ziv {e:PE}{o:PE}{v:Expr}{name:Str}{id:String}{p p':Pos}{g:V→H→R V}(hb:okBase v=true) (hl:(p.endLine == p'.line)=true) (slot:Slot "list" name id) (hty:typeOf (.builtin id)=pure (.type "method_descriptor"))
  (ho:EJ am n q F c o v) (he:∀ ρ Hc,evE q F ρ e Hc=(evE q F ρ o Hc).bind fun x h=>if lcell h x then g x h else .bad)
  (op:∀ {res:List Addr}{sk:List Env}{A:Around}{π:List Addr}{s:Shared}{Hc:H}{a:V}{x:Value},AS n sk A→HR (am.at res) sk π Hc s.heap→VR (am.at res) π s.heap a x→JAt (am.at res) sk A (PySem.call (.builtin id) [x]) (g a Hc) (VR (am.at res)) π s) :
  EJ am n q F c e (.Call (.Attribute v name p) [] [] p'):=fun {cx ρ A res π Hc s} B st=>by
 rw[he];have hst:∀ z∈([]:List Expr),isStar z=false:=by simp
 refine JT.at (T:=fun Q E s=>wpAny am.M A (eval v cx.env) (fun ov s₁=>(s₁.TypeIs ov "list"∧(∀ a,ov=.ref a→∃ ob,s₁.heap.get? a=some ob∧ob.dict=none))∧wpAny am.M A (PySem.call (.builtin id) [ov]) Q E s₁) E s)
  (JT.bind (fun y=>PT.and (PT.wp _ _)) (ho B st) fun x u H1 π1 s1 y hs1 hr1 hv1=>?_) fun Q E h=>?_
 ·split
  ·rename_i hc
   refine hold fun y k_=>?_;obtain⟨i,l,vs,xs,rfl,rfl,hi,hH,pl,hz,hv⟩:=zbF hr1 hv1 hc;refine k_ ?_;have J:JT (am.at res) cx.sk (fun Q E s=>wpAny am.M A (PySem.call (.builtin id) [.ref l]) Q E s) (g (.ref i) H1) (VR (am.at res)) π1 s1:=JAt.pt (op B.as hr1 hv1);exact J.rule fun Q E h=>⟨⟨pl.is.typeIs,fun a e=>by cases e;obtain⟨o,n,ho,_,hd,_⟩:=pl;exact⟨o,ho,hd⟩⟩,h⟩
  ·exact .inl rfl
 ·refine wpAny_Call_method (T:="list") (id:=id) (zgR hb) (by rw[zae _ hst];rfl) hl PySem.F.plainAttrs_list slot hty (yV h (fun ov s₁ h₁=>⟨h₁.1.1,h₁.1.2,?_⟩) fun y y x=>x)
  rw[zae _ hst];exact Calls.callWith_builtin rfl (evalArgs_nil3 h₁.2)
theorem zmt {o:PE}{v:Expr}{p p':Pos}(hb:okBase v=true) (hl:(p.endLine == p'.line)=true) (ho:EJ am n q F c o v):EJ am n q F c (.clear o) (.Call (.Attribute v "clear" p) [] [] p') :=
 ziv (id:="list.clear") (g:=fun x h=>onList h x fun z=>some (.none,[])) hb hl PySem.F.slot_list_clear PySem.F.type_list_clear ho (fun ρ Hc=>by
  show(evE q F ρ o Hc).bind _=_
  congr 1
  funext x h
  cases e:lcell h x with
  |true=>rfl
  |false=>exact zaW e) fun z hr h1=>zlx hr h1
end
noncomputable def popG (Hc:H) (a b:V):R V:=match b with
 |.int k=>onList Hc a fun vs=>(place vs.length k).bind fun j=>(vs[j]?).map fun v=>(v,vs.eraseIdx j)
 |_=>.bad
theorem zge (h:place n k=some j):seqIndex? k n=some j:=by
 unfold place at h;unfold seqIndex?
 by_cases h0:0≤k
 ·rw[zT h0] at h
  by_cases h1:k < n
  ·rw[zT h1] at h
   simp only[zR (Int.not_lt.2 h0)];rw[zT (by rw[Bool.and_eq_true];exact⟨zW h0,zW h1⟩)];exact h
  ·rw[zR h1] at h;cases h
 ·rw[zR h0] at h
  have hk:=Int.not_le.1 h0
  by_cases h1:0≤k+n
  ·rw[zT h1] at h
   simp only[zT hk];rw[zT (by rw[Bool.and_eq_true];exact⟨zW h1,zW (Int.lt_of_lt_of_le (Int.add_lt_add_right hk _) (Int.le_of_eq (Int.zero_add _)))⟩)];exact h
  ·rw[zR h1] at h;cases h
section
variable {am:Amb}{sk:List Env}{A:Around}{π:List Addr}{s:Shared}{Hc:H}
theorem zlw (hr:HR am sk π Hc s.heap) (ha:VR am π s.heap a x) (hb:VR am π s.heap b y):JAt am sk A (PySem.call (.builtin "list.pop") [x,y]) (popG Hc a b) (VR am) π s:=by
 unfold popG
 cases b with
 |int k =>
  simp only
  cases hc:lcell Hc a with
  |false=>exact .inl (zaW hc)
  |true =>
   obtain⟨i,l,vs,xs,rfl,rfl,hi,hH,pl,hz,hv⟩:=zbF hr ha hc;simp only[onList,hH];obtain⟨t,rfl⟩:=hb
   cases hj:place vs.length k with
   |none=>exact .inl (by simp)
   |some j =>
    cases hw:vs[j]? with
    |none=>exact .inl (by simp[hw])
    |some v =>
     obtain⟨w,hx,hvw⟩:=hv.get j v hw;have le:(vs.eraseIdx j).length≤1000000:=zX (List.length_eraseIdx_le ..) hz;simp only[Option.bind_some,hw,Option.map_some,zT le];obtain⟨o,n,ho,hcl,hdi,hd⟩:=id pl;have hlen:=hv.len;refine .inr (wpAny_call_entry PySem.F.slot_list_pop pl.is.typeIs PySem.F.entry_list_pop ?_ (PySem.F.args_list_pop_2 _ _));unfold Builtin.«list.pop»
     refine yX ?_;show wpAny _ _ (pure (Value.ref l,[Value.int k t])) _ _ s;refine yW ?_;show wpAny _ _ (asIndex (.int k t) >>= _) _ _ s;refine yX (wpAny_of_eq (a:=k) rfl ?_);have pb:=zbN hj hz;show wpAny _ _ (if(!Builtin.List.listFitsIndex k)=true then _ else _) _ _ s;rw[zR (by unfold Builtin.List.listFitsIndex;rw[zW pb.1,zW pb.2];decide)]
     show wpAny _ _ (Builtin.List.listItems (.ref l) >>= _) _ _ s;refine yX (wpAny_listItems ho hd ?_);have ne:xs≠[]:=fun q=>by subst q;simp at hx
     show wpAny _ _ (if(List.toArray xs).isEmpty=true then _ else _) _ _ s;rw[zR (by simpa using ne)]
     have ei:((seqIndex? k (List.toArray xs).size).bind fun k=>Option.map (fun x=>(k,x)) (List.toArray xs)[k]?)=some (j,w):=by
      rw[show(List.toArray xs).size=vs.length by simpa using hlen,zge hj]
      simp[hx]
     show wpAny _ _ (match ((seqIndex? k (List.toArray xs).size).bind fun k=>Option.map (fun x=>(k,x)) (List.toArray xs)[k]?) with|some (k,x)=>_|none=>_) _ _ s
     rw[ei];show wpAny _ _ (updateSeq l (·.eraseIdxIfInBounds j) >>= fun z=>ret w) _ _ s;refine yX ?_;refine wpAny_updateSeq ho hd (yW ⟨w,rfl,?_⟩) (hz:=by rw[size_toArray,hlen];exact zaN hz) (_hz':=by exact zX (size_eraseIdxIfInBounds_le _ _) (by rw[size_toArray,hlen];exact Nat.le_succ_of_le (zaN hz)))
     have pl':=pl.update (·.eraseIdxIfInBounds j);have hp:=HR.put (tk:=s.toks) hr hi le (xs:=xs.eraseIdx j) (h':=s.heap.update l (Obj.mapSeq (·.eraseIdxIfInBounds j))) (fun b o h1 h2=>(Heap.SameBut.update ..).extBut b o h1 h2) (by simpa using pl') (hv.eraseIdx j)
     exact⟨v,_,π,rfl,hp.1,hp.2,hvw.step hp.1⟩
 |_=>exact .inl rfl
end
section
variable {am:Amb}{n:Nat}{q:Bool}{F:Fn}{c:Ck}
theorem zmq (hb:okBase v=true) (hl:(p.endLine == p'.line)=true) (hy:isStar y=false) (ho:EJ am n q F c o v) (ha:EJ am n q F c a y) :
  EJ am n q F c (.popAt o a) (.Call (.Attribute v "pop" p) [y] [] p') :=
 zdR (id:="list.pop") (g:=fun x y h=>popG h x y) hb hl hy PySem.F.slot_list_pop PySem.F.type_list_pop ho ha (fun ρ Hc=>by rw[zpW];rfl) fun z hr h1 h2=>zlw hr h1 h2
end
section
variable {am:Amb}{sk:List Env}{A:Around}{π:List Addr}{s:Shared}{Hc:H}
theorem HR.grow (hr:HR am sk π Hc s.heap) (hl:s.heap.get? l=none) (k:∀ b o,s.heap.get? b=some o→h'.get? b=some o) (hc:CellAt am (π++[l]) h' c l) :
  OkP am sk (VR am) π s (.ok (.ref Hc.length) (Hc++[c])) (.ref l) { s with heap:=h',toks:=tk }:=by
 have hp:=zaJ hr hl;have hr':=hr.keeps k;have st:Step (Fs sk) π s (π++[l]) { s with heap:=h',toks:=tk } :=
  ⟨⟨h',tk,rfl⟩,Ext.of_keeps k,[l],rfl,fun a ha=>by rw[zK.mp ha];exact hl⟩
 refine⟨_,_,π++[l],rfl,st,⟨hr'.base,hr'.frames,by simp[hr.len],?_,hr'.res,fun a ha=>?_,fun i c' a hi ha=>?_⟩,?_⟩
 ·rw[nodup_append]
  exact⟨hr.nodup,by simp,fun a ha b hb=>by rw[zK.mp hb];exact fun q=>hp (q ▸ ha)⟩
 ·rcases zP.mp ha with ha|ha
  ·exact hr.off a ha
  ·rw[zK.mp ha];exact⟨zai hr.base hl,zbj hr hl⟩
 ·by_cases hlt:i < Hc.length
  ·rw[List.getElem?_append_left hlt] at hi
   rw[List.getElem?_append_left (by rw[hr.len];exact hlt)] at ha
   exact(hr.cell i c' a hi ha).via st.via fun o e z=>⟨o.slots,k a o e⟩
  ·have hi':i=Hc.length:=by
    have:=(List.getElem?_eq_some_iff.mp hi).1;rw[zQ] at this;exact Nat.le_antisymm (Nat.le_of_lt_succ this) (Nat.le_of_not_lt hlt)
   subst hi';simp only[List.getElem?_concat_length,Option.some.injEq] at hi;rw[←hr.len] at ha;simp only[List.getElem?_concat_length,Option.some.injEq] at ha;subst hi ha;exact hc
 ·rw[zkT]
  exact⟨l,rfl,by rw[←hr.len];simp⟩
theorem HR.putD {i:Nat}{d:Addr}{c:Cell}{h':Heap}{tk:Nat}(hr:HR am sk π Hc s.heap) (hi:π[i]?=some d) (k:∀ b o,b≠d→s.heap.get? b=some o→h'.get? b=some o) (ho:∃ o,h'.get? d=some o∧∀ us,o.data≠.fields us)
  (hc:Step (Fs sk) π s π { s with heap:=h',toks:=tk }→CellAt am π h' c d) :
  Step (Fs sk) π s π { s with heap:=h',toks:=tk }∧HR am sk π (Hc.set i c) h':=by
 have hl:=zbD hi;have st:Step (Fs sk) π s π { s with heap:=h',toks:=tk }:=by
  refine⟨⟨h',tk,rfl⟩,⟨fun a o e h1 z=>k a o (fun q=>h1 (q ▸ hl)) e,fun a o e h1=>⟨o.slots,k a o (fun q=>h1 (q ▸ hl)) e⟩,fun a o e=>?_⟩,[],by simp,by simp⟩
  by_cases ha:a=d
  ·subst ha;obtain⟨o,ho,_⟩:=ho;exact⟨o,ho⟩
  ·exact⟨o,k a o ha e⟩
 refine⟨st,⟨fun a o e=>?_,zbi k ho hr.frames,by simp[hr.len],hr.nodup,fun a ha=>?_,hr.off,fun j c' a h1 h2=>?_⟩⟩
 ·exact k a o (fun q=>by subst q;rw[(hr.off a hl).1] at e;cases e) (hr.base a o e)
 ·by_cases hq:a=d
  ·subst hq;exact ho
  ·obtain⟨o,ho,hd⟩:=hr.res a ha
   exact⟨o,k a o hq ho,hd⟩
 ·by_cases hj:j=i
  ·subst hj
   have hlt:j < Hc.length:=by rw[←hr.len];exact(List.getElem?_eq_some_iff.mp hi).1
   rw[List.getElem?_set_self hlt] at h1
   cases h1
   rw[hi] at h2;cases h2
   exact hc st
  ·rw[List.getElem?_set_ne (Ne.symm hj)] at h1
   have hne:a≠d:=fun q=>hj (zm1 hr.nodup (q ▸ h2) hi);exact(hr.cell j c' a h1 h2).via st.via fun o e z=>⟨o.slots,k a o hne e⟩
set_option tactic.hygienic true in
theorem zeI (ha:VR am π s.heap a x) (hc:dcell Hc a=true):∃ i d es,a=.ref i∧x=.ref d∧π[i]?=some d∧Hc[i]?=some (.dict es):=by
 cases a with
 |ref i =>
  simp only[dcell] at hc;obtain⟨l,rfl,hl⟩:=ha
  split at hc
  ·rename_i es hv
   exact⟨i,l,es,rfl,rfl,hl,hv⟩
  ·cases hc
 |_=>simp[dcell] at hc
section
variable {es:List (V × V)}{d:Addr}{o:Obj}{arr:Array DictEntry}{ep:Nat}{xs:List Value}
theorem DC.line (D:DC am π s.heap es d o arr ep xs):arr.size≤sizeLine:=by
 rw[D.size];have:=D.len;rw[zb5] at this;have:=zbP
 omega
theorem DC.push (D:DC am π s.heap es d o arr ep xs) (hr:HR am sk π Hc s.heap) (hi:π[i]?=some d) (hb:VR am π s.heap b y) (hz:VR am π s.heap c z) (hk:keyFit b es=true) (hn:dfind b es=none) (hle:es.length≤1000) :
  Step (Fs sk) π s π { s with heap:=s.heap.update d (Obj.mapDictKeys (·.push ⟨hashV b,y,z⟩)),toks:=tk }∧HR am sk π (Hc.set i (.dict (es++[(b,c)]))) (s.heap.update d (Obj.mapDictKeys (·.push ⟨hashV b,y,z⟩))):=by
 have hd':=Obj.data_mapDictKeys D.data (·.push ⟨hashV b,y,z⟩);have hg':=Heap.get?_update_self (Obj.mapDictKeys (·.push ⟨hashV b,y,z⟩)) D.ho (Obj.isFreed_of_dict hd');have xl:xs.length=2 * es.length:=by rw[D.vr.len];exact zb5 es
 refine HR.putD (c:=.dict (es++[(b,c)])) hr hi (fun b o h1 h2=>(Heap.SameBut.update ..).extBut b o h1 h2) ⟨_,hg',fun us q=>by rw[hd'] at q;cases q⟩ fun st=>?_
 obtain⟨ne,ho,cls,di,da,ar,vr,gd,ag,ln⟩:=D;refine⟨_,xs++[y,z],hg',⟨ne_of_beq_false ne,_,_,?_,?_,hd',?_,ziw gd (zqL hk) hn,by rw[zQ,ag];rfl⟩,?_,?_⟩
 ·obtain⟨c0,di,dt,sl⟩:=o;simp only at da;subst da;exact cls
 ·obtain⟨c0,di,dt,sl⟩:=o;simp only at da;subst da;assumption
 ·rw[Array.toList_push,ar,zkt es xs b c _ _ xl]
 ·show((es++[(b,c)]).flatMap fun e=>[e.1,e.2]).length≤_
  rw[zb5,zQ,length_singleton];exact zX (Nat.mul_le_mul_left 2 (Nat.succ_le_succ hle)) (by decide)
 ·show VRs am π _ ((es++[(b,c)]).flatMap fun e=>[e.1,e.2]) _
  rw[List.flatMap_append];refine VRs.append (vr.step st) ?_;show VRs am π _ [b,c] [y,z];exact⟨_,_,rfl,hb.step st,_,_,rfl,hz.step st,rfl⟩
theorem DC.put (D:DC am π s.heap es d o arr ep xs) (hr:HR am sk π Hc s.heap) (hi:π[i]?=some d) (hz:VR am π s.heap c z) (hj:es[j]?=some (b,v0)) :
  Step (Fs sk) π s π { s with heap:=s.heap.update d (Obj.mapDict (·.modify j fun e=>{ e with val:=z })),toks:=tk }∧HR am sk π (Hc.set i (.dict (es.set j (b,c)))) (s.heap.update d (Obj.mapDict (·.modify j fun e=>{ e with val:=z }))):=by
 have hd':=Obj.data_mapDict D.data (·.modify j fun e=>{ e with val:=z })
 have hg':=Heap.get?_update_self (Obj.mapDict (·.modify j fun e=>{ e with val:=z })) D.ho (Obj.isFreed_of_dict hd')
 refine HR.putD (c:=.dict (es.set j (b,c))) hr hi (fun b o h1 h2=>(Heap.SameBut.update ..).extBut b o h1 h2) ⟨_,hg',fun us q=>by rw[hd'] at q;cases q⟩ fun st=>?_
 obtain⟨ne,ho,cls,di,da,ar,vr,gd,ag,ln⟩:=D;obtain⟨xs',r',e'⟩:=zmn (hz.step st) (vr.step st) hj;have km:(es.set j (b,c)).map (·.1)=es.map (·.1):=by
  have e:(es.map (·.1))[j]?=some b:=by rw[List.getElem?_map,hj];rfl
  obtain⟨_,e⟩:=List.getElem?_eq_some_iff.1 e;rw[List.map_set];show(es.map (·.1)).set j b=_;rw[←e,List.set_getElem_self]
 refine⟨_,xs',hg',⟨ne_of_beq_false ne,_,_,?_,?_,hd',?_,⟨?_,fun e he=>?_⟩,by rw[length_set];exact ag⟩,?_,r'⟩
 ·obtain⟨c0,di,dt,sl⟩:=o;simp only at da;subst da;exact cls
 ·obtain⟨c0,di,dt,sl⟩:=o;simp only at da;subst da;assumption
 ·rw[Array.toList_modify,ar,e']
 ·rw[km];exact gd.1
 ·have:e.1∈es.map (·.1):=by rw[←km];exact yQ.2 ⟨e,he,rfl⟩
  obtain⟨e0,h0,q⟩:=yQ.1 this;rw[←q];exact gd.2 e0 h0
 ·show((es.set j (b,c)).flatMap fun e=>[e.1,e.2]).length≤_
  rw[zb5,length_set,← zb5];exact ln
theorem zhL {Q:PUnit→Shared→Prop}{E:Value→Shared→Prop}(hu:A.units < cLine) (hr:HR am sk π Hc s.heap) (hi:π[i]?=some d) (D:DC am π s.heap es d o arr ep xs) (hk:keyFit b es=true) (hb:VR am π s.heap b y) (hc:VR am π s.heap c w) (hle:es.length≤1000)
  (h:∀ s',Step (Fs sk) π s π s'→HR am sk π (Hc.set i (.dict (dput b c es))) s'.heap→Q () s'):wpAny am.M A (dictSet d y w) Q E s:=by
 obtain⟨m,hh⟩:=zgz (A:=A) hk hb hu;unfold dictSet
 try with_reducible refine yU ?_
 refine yX (hh ?_);unfold dictSetHashed
 try with_reducible refine yU ?_
 refine yX (zgA (s:={ s with toks:=s.toks+m }) D hk hb hu (fun e=>?_) fun j v e=>?_)
 ·have p:=D.push (tk:=s.toks+m) hr hi hb hc hk e hle
  rw[←dput_new e] at p;exact yX (wpAny_rule (wpAny_updateDictKeys (hz:=D.line) (s:={ s with toks:=s.toks+m }) D.ho D.data (h _ p.1 p.2)))
 ·have p:=D.put (tk:=s.toks+m) hr hi hc e
  rw[←zmv D.good.1 e] at p;exact yX (wpAny_rule (yX (wpAny_updateDict (s:={ s with toks:=s.toks+m }) D.ho D.data (wpAny_point (h _ p.1 p.2)))))
theorem znt {Q:Unit→Shared→Prop}{E:Value→Shared→Prop}(as:AS n sk A) (hr:HR am sk π Hc s.heap) (ha:VR am π s.heap a x) (hb:VR am π s.heap b y) (hc:VR am π s.heap c w) (he:dcell Hc a=true) (hs:seti Hc a b c=some H')
  (h:∀ s',Step (Fs sk) π s π s'→HR am sk π H' s'.heap→Q () s'):wpAny am.M A (setItem x y w) Q E s:=by
 obtain⟨i,d,es,rfl,rfl,hi,hH⟩:=zeI ha he;obtain⟨o,arr,ep,xs,D⟩:=(hr.cell i _ d hH hi).dict;have hu:A.in1.units < cLine:=as.uk (k:=1) (by decide)
 simp only[seti,hH] at hs
 cases hk:keyFit b es with
 |false=>rw[hk] at hs;cases hs
 |true =>
  rw[hk,Bool.true_and] at hs
  by_cases hle:es.length≤1000
  ·rw[zT (zW hle)] at hs
   cases hs
   unfold setItem
   try with_reducible refine yU ?_
   refine yX (wpAny_sequenceKey D.typeIs (by decide) ?_)
   refine yX (wpAny_callSpecial?_slot (name:=Str.ofString "__setitem__") D.typeIs slot_dict_setitem
    (wpAny_call_entry slot_dict_setitem D.typeIs entry_dict_setitem ?_ (args_dict_setitem _ _ _)))
   show wpAny _ _ (Builtin.Dict.notOrdered "__setitem__" ⟨[.ref d,y,w],[]⟩ >>= _) _ _ s;refine yX (wpAny_notOrdered_dict D.typeIs ?_);show wpAny _ _ (dictSet d y w >>= _) _ _ s;exact yX (zhL hu hr hi D hk hb hc hle fun s' h1 h2=>yW ⟨.none,rfl,yW (h s' h1 h2)⟩)
  ·rw[zR fun q=>hle (zV q)] at hs;cases hs
end
theorem zjF {n:Nat}{a b c:V}{x y z:Value}(as:AS n sk A) (hr:HR am sk π Hc s.heap) (ha:VR am π s.heap a x) (hb:VR am π s.heap b y) (hz:VR am π s.heap c z) (hd:dcell Hc a=true) :
  JAt am sk A (PySem.call (.builtin "dict.setdefault") [x,y,z]) (setDef Hc a b c) (VR am) π s:=by
 obtain⟨i,d,es,rfl,rfl,hi,hc⟩:=zeI ha hd;unfold setDef onDict;simp only[hc]
 cases hk:keyFit b es with
 |false=>exact .inl rfl
 |true =>
  rw[zT rfl];obtain⟨o,arr,ep,xs,D⟩:=(hr.cell i _ d hc hi).dict;have hu:A.in1.units < cLine:=as.uk (k:=1) (by decide)
  obtain⟨m,hh⟩:=zgz (A:=A.in1) hk hb hu;have go:∀ {Q:Value→Shared→Prop}{E:Value→Shared→Prop},(∀ v u,dfind b es=some v→VR am π s.heap v u→Q u { s with toks:=s.toks+m })→(dfind b es=none→Q z { s with heap:=s.heap.update d (Obj.mapDictKeys (·.push ⟨hashV b,y,z⟩)),toks:=s.toks+m })→wpAny am.M A (PySem.call (.builtin "dict.setdefault") [.ref d,y,z]) Q E s:=by
   intro Q E h1 h2;refine wpAny_call_entry PySem.F.slot_dict_setdefault D.typeIs PySem.F.entry_dict_setdefault ?_ (PySem.F.args_dict_setdefault_3 _ _ _);unfold Builtin.«dict.setdefault»
   refine yX ?_;unfold Builtin.Dict.keyAndDefault;refine yX (wpAny_notOrdered_dict D.typeIs ?_);show wpAny _ _ (pure (d,y,some z)) _ _ s;refine yW ?_;show wpAny _ _ (if(d == sysModules)=true then _ else(dictSetDefault d y z >>= _)) _ _ s;rw[zR (by rw[D.ne];exact Bool.false_ne_true)]
   refine yX ?_;unfold dictSetDefault
   try with_reducible refine yU ?_
   refine yX (hh (yX (zgA (s:={ s with toks:=s.toks+m }) D hk hb hu (fun e=>?_) fun j v e=>?_)))
   ·exact yX (wpAny_rule (yX (wpAny_updateDictKeys (hz:=D.line) (s:={ s with toks:=s.toks+m }) D.ho D.data (yW (yW ⟨_,rfl,h2 e⟩)))))
   ·obtain⟨x',u,e1,_,hu'⟩:=D.at e
    refine yX (wpAny_dictEntries (s:={ s with toks:=s.toks+m }) D.ho D.data ?_)
    rw[e1];exact yX (wpAny_rule (yW (yW ⟨_,rfl,h1 v u (zhw D.good.1 e) hu'⟩)))
  cases hf:dfind b es with
  |none =>
   by_cases hle:es.length≤1000
   ·simp only[zT hle]
    refine .inr (go (fun v u e=>by rw[hf] at e;cases e) fun e=>?_)
    have p:=D.push (tk:=s.toks+m) hr hi hb hz hk e hle;exact⟨c,_,π,rfl,p.1,p.2,hz.step p.1⟩
   ·simp only[zR hle];exact .inl rfl
  |some v=>exact .inr (go (fun v' u e hv=>by rw[hf] at e;cases e;exact OkP.tok hr hv) fun e=>by rw[hf] at e;cases e)
end
section
variable {am:Amb}{n:Nat}{q:Bool}{F:Fn}{c:Ck}
theorem ziu:EJ am n q F c .newDict (.Dict [] [] p):=fun {cx ρ A res π Hc s} B st=>by
 show JAt _ _ _ _ (R.ok (V.ref Hc.length) (Hc++[Cell.dict []])) _ _ _;refine .inr (wpAny_Dict_empty ?_);have k:∀ b o',s.heap.get? b=some o'→(s.heap.push { cls:=.type "dict",data:=.dict #[] }).get? b=some o':=fun z z e=>Heap.get?_push_of_some _ e;have lt:mainGlobals < s.heap.objs.size:=(HR.gns B.ok st.hr).lt;refine HR.grow (tk:=s.toks) st.hr (zat _) k ⟨_,[],Heap.get?_push_size _ rfl,⟨?_,_,_,rfl,rfl,rfl,rfl,⟨.nil,fun z h=>nomatch h⟩,rfl⟩,by decide,rfl⟩
 exact Nat.ne_of_gt (Nat.lt_of_le_of_lt (by decide) lt)
theorem zfj {f:Nat→List (V × V)→R V}(hc:dcell h x=false):onDict h x y f=.bad:=by
 cases x with
 |ref i =>
  simp only[dcell] at hc;unfold onDict
  cases hq:h[i]? with
  |none=>simp only[hq]
  |some cc=>cases cc with
   |list vs=>simp only[hq]
   |dict es=>rw[hq] at hc;cases hc
 |_=>rfl
set_option tactic.hygienic true in
theorem zms {e o k d:PE}{v y z:Expr}{name:Str}{id:String}{p p':Pos}{g:H→V→V→V→R V}(hb:okBase v=true) (hl:(p.endLine == p'.line)=true) (hy:isStar y=false) (hz:isStar z=false) (slot:Slot "dict" name id) (hty:typeOf (.builtin id)=pure (.type "method_descriptor"))
  (ho:EJ am n q F c o v) (hk:EJ am n q F c k y) (hd:EJ am n q F c d z) (he:∀ ρ Hc,evE q F ρ e Hc=(evE q F ρ o Hc).bind fun x h=>if dcell h x then(evE q F ρ k h).bind fun y h=>(evE q F ρ d h).bind fun z h=>g h x y z else .bad)
  (hg:∀ h x y z,dcell h x=false→g h x y z=.bad)
  (op:∀ {res:List Addr}{sk:List Env}{A:Around}{π:List Addr}{s:Shared}{Hc:H}{a b c:V}{x y z:Value},AS n sk A→HR (am.at res) sk π Hc s.heap→VR (am.at res) π s.heap a x→VR (am.at res) π s.heap b y→VR (am.at res) π s.heap c z→dcell Hc a=true→JAt (am.at res) sk A (PySem.call (.builtin id) [x,y,z]) (g Hc a b c) (VR (am.at res)) π s) :
  EJ am n q F c e (.Call (.Attribute v name p) [y,z] [] p'):=fun {cx ρ A res π Hc s} B st=>by
 rw[he];have hst:∀ u∈[y,z],isStar u=false:=by
  intro u hu
  rcases zN.1 hu with rfl|hu
  ·exact hy
  ·rw[zK.1 hu];exact hz
 refine JT.at (T:=fun Q E s=>wpAny am.M A (eval v cx.env) (fun ov s₁=>(s₁.TypeIs ov "dict"∧(∀ a,ov=.ref a→∃ ob,s₁.heap.get? a=some ob∧ob.dict=none))∧wpAny am.M A (eval y cx.env) (fun w s₂=>wpAny am.M A (eval z cx.env) (fun u s₃=>wpAny am.M A (PySem.call (.builtin id) [ov,w,u]) Q E s₃) E s₂) E s₁) E s)
  (JT.bind (fun t=>PT.and (PT.seq _ _ fun t=>PT.seq _ _ fun t=>PT.wp _ _)) (ho B st) fun x u H1 π1 s1 t hs1 hr1 hv1=>?_) fun Q E h=>?_
 ·split
  ·rename_i hc
   obtain⟨i,l,es,rfl,rfl,hi,hH⟩:=zeI hv1 hc;obtain⟨o,arr,ep,xs,D⟩:=(hr1.cell i _ l hH hi).dict;have J:JT (am.at res) cx.sk (fun Q E s=>wpAny am.M A (eval y cx.env) (fun w s₂=>wpAny am.M A (eval z cx.env) (fun u s₃=>wpAny am.M A (PySem.call (.builtin id) [.ref l,w,u]) Q E s₃) E s₂) E s) ((evE q F ρ k H1).bind fun y h=>(evE q F ρ d h).bind fun z h=>g h (.ref i) y z) (VR (am.at res)) π1 s1 :=
    JT.bind (fun t=>PT.seq _ _ fun t=>PT.wp _ _) (hk B (st.step hs1 hr1)) fun w u H2 π2 s2 t hs2 hr2 hv2 =>
     JT.bind (fun t=>PT.wp _ _) (hd B ((st.step hs1 hr1).step hs2 hr2)) fun w' u' H3 π3 s3 t hs3 hr3 hv3=>by
      cases hc3:dcell H3 (.ref i) with
      |true=>exact JAt.pt (op B.as hr3 ((hv1.step hs2).step hs3) (hv2.step hs3) hv3 hc3)
      |false=>exact .inl (hg _ _ _ _ hc3)
   exact J.rule fun Q E h=>⟨⟨D.typeIs,fun a e=>by cases e;exact⟨_,D.ho,D.dict⟩⟩,h⟩
  ·exact .inl rfl
 ·refine wpAny_Call_method (T:="dict") (id:=id) (zgR hb) (by rw[zae _ hst];rfl) hl PySem.F.plainAttrs_dict slot hty (yV h (fun ov s₁ h₁=>⟨h₁.1.1,h₁.1.2,?_⟩) fun t t x=>x)
  rw[zae _ hst];exact Calls.callWith_builtin rfl (Calls.evalArgs_plain (spl2 h₁.2))
theorem zku (hb:okBase v=true) (hl:(p.endLine == p'.line)=true) (hy:isStar y=false) (hz:isStar z=false) (ho:EJ am n q F c o v) (hk:EJ am n q F c k y) (hd:EJ am n q F c d z) :
  EJ am n q F c (.setdef o k d) (.Call (.Attribute v "setdefault" p) [y,z] [] p') :=
 zms (g:=setDef) hb hl hy hz PySem.F.slot_dict_setdefault PySem.F.type_dict_setdefault ho hk hd (fun u u=>rfl) (fun u u u u h=>zfj h) fun as hr h1 h2 h3 hc=>zjF as hr h1 h2 h3 hc
end
inductive ItR (am:Amb) (sk:List Env) (A:Around) (h₀:Heap) (π:List Addr) (h:Heap) (b:List V × Watch):Value→Prop
 |mk (I:Addr) (h1:h₀.get? I=none) (h2:am.B.get? I=none) (h3:∀ R h',(∀ a∈R,a∈am.res∨h.get? a=none)→(∀ b o,h.get? b=some o→h'.get? b=some o)→∃ Sx,Iter (am.at R) sk A I b.2 b.1 Sx∧Sx 0 π h'):ItR am sk A h₀ π h b (.ref I)
section
variable {am:Amb}{sk:List Env}{A:Around}{π:List Addr}{s:Shared}{Hc:H}
theorem zdk (hr:HR am sk π Hc s.heap){a:Addr}(h:s.heap.get? a=none):am.B.get? a=none:=zai hr.base h
theorem zdL {h:Heap}{a b:Addr}{o:Obj}(h1:h.get? a=none) (h2:h.get? b=some o):b≠a:=fun q=>by subst q;rw[h1] at h2;cases h2
theorem zol {am:Amb}{R:List Addr}{h:Heap}{a:Addr}{o:Obj}(hR:∀ a∈R,a∈am.res∨h.get? a=none) (ho:h.get? a=some o) (ha:a ∉ am.res):a ∉ R:=fun q=>by
 rcases hR a q with z|z
 ·exact ha z
 ·rw[ho] at z;cases z
theorem zrn {am:Amb}{R π:List Addr}{h:Heap}(hR:∀ a∈R,a∈am.res∨h.get? a=none):Via am (am.at R) π π h h:=⟨fun a o ho z h1 h2=>⟨⟨o.slots,ho⟩,h1,zol hR ho h2⟩,fun z z e=>e⟩
theorem zoG (hf:o.isFreed=false) (hr:HR am sk π Hc s.heap)
  (f:∀ R h',(∀ a∈R,a∈am.res∨(s.heap.push o).get? a=none)→(∀ b o',s.heap.get? b=some o'→(s.heap.push o).get? b=some o')→(∀ b o',(s.heap.push o).get? b=some o'→h'.get? b=some o')→s.heap.objs.size ∉ π→s.heap.objs.size ∉ Fs sk→s.heap.objs.size ∉ R→h'.get? s.heap.objs.size=some o →
   ∃ Sx,Iter (am.at R) sk A s.heap.objs.size wt vs Sx∧Sx 0 π h') :
  OkP am sk (ItR am sk A s.heap) π s (.ok (vs,wt) Hc) (.ref s.heap.objs.size) { s with heap:=s.heap.push o,toks:=tk } :=
 have hI:=zat s.heap;have k:=fun b o' (q:s.heap.get? b=some o')=>Heap.get?_push_of_some o q;have hp:=Heap.get?_push_size s.heap hf
 OkP.keeps hr k ⟨_,hI,zdk hr hI,fun R h' hR kk=>f R h' hR k kk (zaJ hr hI) (zbj hr hI) (zol hR hp (zaG hr hI)) (kk _ _ hp)⟩
theorem zpB (It:∀ {am:Amb}{I:Addr},Iter am sk A I none vs (SqS am sk I l vs T T')) (hr:HR am sk π Hc s.heap) (hl:l ∉ π∧l ∉ am.res) (h1:IsSq T s.heap l xs) (hv:VRs am π s.heap vs xs) :
  OkP am sk (ItR am sk A s.heap) π s (.ok (vs,none) Hc) (.ref s.heap.objs.size) { s with heap:=s.heap.push { cls:=.type T',data:=.fields #[.ref l,.int 0 0] } } :=
 zoG rfl hr fun R h' hR k kk i1 i2 i3 i4=>let ⟨o,ho,r⟩:=h1;⟨_,It,⟨i1,i2,⟨_,i4,rfl,rfl⟩,⟨hl.1,i3,zol hR (k _ _ ho) hl.2⟩,xs,⟨o,kk _ _ (k _ _ ho),r⟩,((hv.keeps k).via (zrn hR)).keeps kk⟩⟩
theorem zoj {a:V}{x:Value}(hh:A.handled=none) (hr:HR am sk π Hc s.heap) (ha:VR am π s.heap a x) :
  JAt am sk A (pyIter x) (R.opt (iterOf Hc a) Hc) (ItR am sk A s.heap) π s:=by
 cases a with
 |l vs =>
  refine hold fun z k_=>?_;obtain⟨l,xs,rfl,hl,h1,hz,hv⟩:=ha;refine k_ ?_;exact .inr (wpAny_pyIter_list h1 (zpB (Iter.lst hh) hr hl h1 hv))
 |tup vs =>
  refine hold fun z k_=>?_;obtain⟨l,xs,rfl,hl,h1,hz,hv⟩:=ha;refine k_ ?_;exact .inr (wpAny_pyIter_tuple h1 (zpB (Iter.tup hh) hr hl h1 hv))
 |ref i =>
  obtain⟨l,rfl,hi⟩:=ha;simp only[iterOf]
  cases hH:Hc[i]? with
  |none=>exact .inl rfl
  |some cc =>
   have hc:=hr.cell i cc l hH hi
   cases cc with
   |dict es=>exact .inl rfl
   |list vs =>
    refine hold fun z k_=>?_;obtain⟨xs,h1,hz,hv⟩:=hc.list;refine k_ ?_;exact .inr (wpAny_pyIter_list h1.is (zoG rfl hr fun R h' hR k kk i1 i2 i3 i4=>⟨_,Iter.cell hh,⟨i1,⟨i2,i3⟩,l,hi,⟨_,i4,rfl,rfl⟩⟩⟩))
 |_=>exact .inl rfl
theorem zny (n:Int):upto n=(List.range n.toNat).map fun(i:Nat)=>V.int (0+(i:Int) * 1):=by
 unfold upto;congr 1;funext i;rw[Int.mul_one,Int.zero_add]
theorem range_at {a c:Int}{k:Nat}(hh:A.handled=none) (hr:HR am sk π Hc s.heap){o:Obj}(ho:o={ cls:=.type "range_iterator",data:=.fields #[rawInt a,rawInt (k:Int),rawInt c] }){tk:Nat} :
  OkP am sk (ItR am sk A s.heap) π s (.ok ((List.range k).map (fun(i:Nat)=>V.int (a+(i:Int) * c)),none) Hc) (.ref s.heap.objs.size) { s with heap:=s.heap.push o,toks:=tk }:=by
 subst ho;have e1:(a+((0:Nat):Int) * c)=a:=by rw[Int.natCast_zero,Int.zero_mul,Int.add_zero]
 exact zoG rfl hr fun R h' hR k kk i1 i2 i3 i4=>⟨_,Iter.range hh a c _,⟨i1,⟨i2,i3⟩,by rw[e1,Int.natCast_zero,Int.sub_zero];exact i4⟩⟩
theorem ItR.less (k:∀ b o,h₀.get? b=some o→∃ o',h₁.get? b=some o') (e:ItR am sk A h₁ π h b x):ItR am sk A h₀ π h b x:=by
 obtain⟨I,h2,h3,r⟩:=e;refine⟨I,?_,h3,r⟩
 cases hq:h₀.get? I with
 |none=>rfl
 |some o=>obtain⟨o',h6⟩:=k I o hq;rw[h2] at h6;cases h6
theorem OkP.itLess (k:∀ b o,h₀.get? b=some o→∃ o',h₁.get? b=some o') (e:OkP am sk (ItR am sk A h₁) π s r x s'):OkP am sk (ItR am sk A h₀) π s r x s':=by
 refine hold fun z k_=>?_;obtain⟨b,H',π',h1,h2,h3,h4⟩:=e;refine k_ ?_;exact⟨b,H',π',h1,h2,h3,h4.less k⟩
theorem ziT {k:Int}{t:Tok}(hh:A.handled=none) (hr:HR am sk π Hc s.heap) (hk:-1000000≤k∧k≤1000000){E:Value→Shared→Prop} :
  wpAny am.M A (PySem.call (.type "range") [.int k t]) (fun x s₁=>wpAny am.M A (pyIter x) (OkP am sk (ItR am sk A s.heap) π s (.ok (upto k,none) Hc)) E s₁) E s:=by
 refine call_range_1 ?_;refine wpAny_pyIter_range (IsRange.new ..) (small_one (by decide) (by decide) (Int.le_trans (by decide) hk.1) (Int.lt_of_le_of_lt hk.2 (by decide))) ?_
 have hsz:Builtin.Range.rangeSize 0 k 1=(k.toNat:Int):=by rw[rangeSize_nat,Int.sub_zero]
 rw[zny];have k1:∀ b o,s.heap.get? b=some o→(s.heap.push { cls:=.type "range",data:=.fields #[.int 0 s.toks,.int k t,.int 1 (s.toks+1)] }).get? b=some o:=fun b o q=>Heap.get?_push_of_some _ q;refine OkP.step (Step.keeps (tk:=s.toks+1+1) k1) (OkP.itLess (fun b o q=>⟨o,k1 b o q⟩) (range_at (s:={ s with heap:=s.heap.push { cls:=.type "range",data:=.fields #[.int 0 s.toks,.int k t,.int 1 (s.toks+1)] },toks:=s.toks+1+1 }) (tk:=s.toks+1+1) hh (hr.keeps k1) ?_))
 rw[hsz]
end
section
variable {am:Amb}{n:Nat}{F:Fn}{c:Ck}
def ItJ (am:Amb) (n:Nat) (F:Fn) (c:Ck) (it:PIt) (x:Expr):Prop:=∀ {cx:Cx}{ρ:List V}{A:Around}{res π:List Addr}{Hc:H}{s:Shared},Base am n true F c cx ρ A→St (am.at res) true cx ρ π Hc A s →
 JT (am.at res) cx.sk (fun Q E s=>wpAny am.M A (eval x cx.env) (fun xv s₁=>wpAny am.M A (pyIter xv) Q E s₁) E s) (evIt true F ρ it Hc) (ItR (am.at res) cx.sk A s.heap) π s
theorem zqy {e:PE}{x:Expr}(h:EJ am n true F c e x):ItJ am n F c (.seq e) x:=fun {cx ρ A res π Hc s} B st=>by
 simp only[zn5,];exact JT.bind (fun z=>PT.wp _ _) (h B st) fun y v H1 π1 s1 z hs1 hr1 hv1=>JAt.pt ((zoj (Hd.quiet st.hd) hr1 hv1).mono fun z z z z e=>e.less hs1.ext.alive)
set_option tactic.hygienic true in
theorem zj6 {e:PE}{y:Expr}{p p':Pos}(hx:c.glob "range"=true) (hy:isStar y=false) (h:EJ am n true F c e y):ItJ am n F c (.range1 e) (.Call (.Name "range" p) [y] [] p'):=fun {cx ρ A res π Hc s} B st=>by
 simp -iota only[zn5,zsn];refine JT.rule (T:=fun Q E s=>wpAny am.M A (eval y cx.env) (fun v s₁=>wpAny am.M A (PySem.call (.type "range") [v]) (fun xv s₂=>wpAny am.M A (pyIter xv) Q E s₂) E s₁) E s)
  (JT.bind (fun u=>PT.seq _ _ fun u=>PT.wp _ _) (h B st) fun z v H1 π1 s1 u hs1 hr1 hv1=>?_) fun Q E h=>zaq B st.hr hx (zbI (by kernel_rfl)) (by simpa using hy) (spl1 h)
 cases v with
 |int k =>
  obtain⟨t,rfl⟩:=hv1;dsimp only
  split
  ·rename_i hk;exact .inr (yV (ziT (Hd.quiet st.hd) hr1 hk) (fun u u h=>yV h (fun u u h=>h.itLess hs1.ext.alive) fun u u h=>h) fun u u h=>h)
  ·exact .inl rfl
 |_=>exact .inl rfl
end
section
variable {am:Amb}{sk:List Env}{A:Around}{π:List Addr}{s:Shared}{Hc:H}
theorem zgX:∀ {n b:Nat}{xs:List Value},xs.length=n→(∀ i v,xs[i]?=some v→∃ t,v=Value.int (((b+i:Nat):Int)) t)→VRs am π h ((List.range' b n).map fun i:Nat=>V.int (i:Int)) xs
 |0,b,xs,e,_=>eq_nil_of_length_eq_zero e
 |n+1,b,[],e,_=>nomatch e
 |n+1,b,x::xs,e,hx=>by
  rw[List.range'_succ,yY];refine⟨x,xs,rfl,hx 0 x rfl,zgX (Nat.succ.inj e) fun i v hv=>?_⟩;rw[Nat.add_assoc,Nat.add_comm 1 i];exact hx (i+1) v hv
theorem zeY {Q:Value→Shared→Prop}{E:Value→Shared→Prop}(hh:A.handled=none) (hk:-1000000≤k∧k≤1000000) (h:∀ y s',NewL am π s (upto k) y s'→Q y s') :
  wpAny am.M A (call (.type "range") [.int k t]) (fun y s'=>wpAny am.M A (call (.type "list") [y]) Q E s') E s:=by
 refine call_range_1 ?_;have hsz:Builtin.Range.rangeSize 0 k 1=(k.toNat:Int):=by rw[rangeSize_nat,Int.sub_zero]
 have hkn:k.toNat≤1000000:=Int.toNat_le.2 hk.2;refine call_list_range (s:={ s with heap:=s.heap.push { cls:=.type "range",data:=.fields #[.int 0 s.toks,.int k t,.int 1 (s.toks+1)] },toks:=s.toks+1+1 }) hh (IsRange.new ..) (small_one (by decide) (by decide) (Int.le_trans (by decide) hk.1) (Int.lt_of_le_of_lt hk.2 (by decide))) hsz (zX hkn (by decide)) fun h' tk acc' c' kp hn hacc=>?_
 have k':∀ b o,s.heap.get? b=some o→h'.get? b=some o:=fun b o q=>kp b o (Heap.get?_push_of_some _ q);have hnew:s.heap.get? (s.heap.push { cls:=.type "range",data:=.fields #[.int 0 s.toks,.int k t,.int 1 (s.toks+1)] }).objs.size=none:=by
  cases q:s.heap.get? (s.heap.push { cls:=.type "range",data:=.fields #[.int 0 s.toks,.int k t,.int 1 (s.toks+1)] }).objs.size with
  |none=>rfl
  |some o =>
   have h5:=Heap.lt_size q;simp only[Heap.size_push] at h5;exact absurd h5 (Nat.not_lt.mpr (Nat.le_succ _))
 have hv:VRs am π s.heap (upto k) acc'.toList:=by
  unfold upto;rw[List.range_eq_range'];refine zgX (by rw[Array.length_toList];exact hacc.1) fun i v hv=>?_
  obtain⟨t',e⟩:=hacc.2 i v (by rw[←Array.getElem?_toList];exact hv)
  exact⟨t',by rw[e,Int.zero_add,Int.mul_one,Nat.zero_add]⟩
 exact h _ _ ⟨_,acc'.toList,h',tk,rfl,rfl,k',hnew,⟨_,c',by rw[Array.toArray_toList];exact hn,rfl,rfl,rfl⟩,(hv.held hnew).keeps k'⟩
end
section
variable {am:Amb}{n:Nat}{q:Bool}{F:Fn}{c:Ck}
set_option tactic.hygienic true in
theorem zhp (hx:c.glob (bfName .list)=true) (hx2:c.glob "range"=true) (hy:isStar y=false) (ha:EJ am n q F c a y) :
  FJ am n q F c (.bf .listRange a) (.Call (.Name (bfName .listRange) p) [.Call (.Name "range" p2) [y] [] p2'] [] p'):=fun {cx ρ A res π Hc s} B st=>by
 rw[zju]
 split
 ·exact .inl rfl
 ·rename_i hq
  have hq':q=true:=by cases q<;>simp[Bf.walks] at hq ⊢
  subst hq';have hh:=Hd.quiet st.hd;refine JF.rule (T:=fun Q E s=>wpAny am.M A (eval y cx.env) (fun v s₁=>wpAny am.M A (PySem.call (.type "range") [v]) (fun i s₂=>wpAny am.M A (PySem.call (.type "list") [i]) Q E s₂) E s₁) E s)
   (JF.bind (fun u=>PT.seq _ _ fun u=>PT.wp _ _) (ha B st) fun x v H1 π1 s1 u hs1 hr1 hv1=>?_)
   fun Q E h=>zaq B st.hr hx (zhE .listRange) (fun z hz=>by rw[zK.mp hz];rfl) (spl1 (zaq B st.hr hx2 (zbI (by kernel_rfl)) (by simpa using hy) (spl1 h)))
  unfold bf;dsimp only
  cases v with
  |int k =>
   simp only[VR] at hv1;obtain⟨t,rfl⟩:=hv1;dsimp only
   split
   ·rename_i hk
    exact .inr (zeY (am:=am.at res) hh hk fun y s' h=>FrP.new rfl (.refl ..) hr1 (by unfold upto;rw[zJ,length_range];exact Int.toNat_le.2 hk.2) h)
   ·exact .inl rfl
  |_=>exact .inl rfl
end
section
variable {am:Amb}{sk:List Env}{A:Around}{π:List Addr}{Hc:H}{s:Shared}
theorem ziS {j k c:Int}{t u v:Tok}{m:Nat}(hh:A.handled=none) (hr:HR am sk π Hc s.heap) (hk:-1000000≤j∧j≤1000000∧-1000000≤k∧k≤1000000) (hc:c≠0) (hb:-1≤c∧c≤1000000) (hm:m≤2000000) (hsz:Builtin.Range.rangeSize j k c=(m:Int)){E:Value→Shared→Prop} :
  wpAny am.M A (PySem.call (.type "range") [.int j t,.int k u,.int c v]) (fun x s₁=>wpAny am.M A (pyIter x) (OkP am sk (ItR am sk A s.heap) π s (.ok ((List.range m).map (fun(i:Nat)=>V.int (j+(i:Int) * c)),none) Hc)) E s₁) E s:=by
 refine call_range_3 hc ?_ (.inl (PyProof.noPylong_small (by omega)))
 refine wpAny_pyIter_range (IsRange.new ..) ?_ ?_
 ·have f:∀ {i:Int},-1000001≤i→i≤2000001→Builtin.Range.rangeFitsLong i=true:=fun h1 h2=>by
   unfold Builtin.Range.rangeFitsLong;rw[zW (Int.le_trans (by decide) h1),zW (Int.lt_of_le_of_lt h2 (by decide))];rfl
  unfold Builtin.Range.small;rw[hsz,f (Int.le_trans (by decide) hk.1) (Int.le_trans hk.2.1 (by decide)),f (Int.le_trans (by decide) hk.2.2.1) (Int.le_trans hk.2.2.2 (by decide)),f (Int.le_trans (by decide) hb.1) (Int.le_trans hb.2 (by decide)),f (Int.le_trans (by decide) (Int.natCast_nonneg m)) (Int.le_trans (Int.ofNat_le.2 hm) (by decide)),show(if c > 0 then Builtin.Range.rangeFitsLong (k+(c - 1)) else Builtin.Range.rangeFitsLong (k+(c+1)))=true by split<;>exact f (by omega) (by omega),Bool.or_true];rfl
 have k1:∀ b o,s.heap.get? b=some o→(s.heap.push { cls:=.type "range",data:=.fields #[.int j t,.int k u,.int c v] }).get? b=some o:=fun b o q=>Heap.get?_push_of_some _ q;refine OkP.step (Step.keeps (tk:=s.toks) k1) (OkP.itLess (fun b o q=>⟨o,k1 b o q⟩) (range_at (s:={ s with heap:=s.heap.push { cls:=.type "range",data:=.fields #[.int j t,.int k u,.int c v] } }) (tk:=s.toks) hh (hr.keeps k1) ?_))
 rw[hsz]
theorem znQ (j k:Int) (hc:0 < c):Builtin.Range.rangeSize j k c=(((k - j+c - 1).fdiv c).toNat:Int):=by
 unfold Builtin.Range.rangeSize;rw[zT hc,Int.fdiv_eq_ediv_of_nonneg _ (Int.le_of_lt hc)]
 by_cases h:j < k
 ·rw[zT h,show k - j+c - 1=(k - j - 1)+1 * c by omega,Int.add_mul_ediv_right _ _ (Int.ne_of_gt hc)]
  have:=Int.ediv_nonneg (a:=k - j - 1) (b:=c) (by omega) (Int.le_of_lt hc)
  omega
 ·rw[zR h]
  have:(k - j+c - 1) / c < 1:=Int.ediv_lt_of_lt_mul hc (by omega)
  omega
theorem zq5 (hk:-1000000≤j∧j≤1000000∧-1000000≤k∧k≤1000000) (hd:0 < d):((k - j+d - 1).fdiv d).toNat≤2000000:=by
 rw[Int.fdiv_eq_ediv_of_nonneg _ (Int.le_of_lt hd)];refine Int.toNat_le.2 (Int.le_of_lt_add_one (Int.ediv_lt_of_lt_mul hd ?_))
 omega
end
section
variable {am:Amb}{n:Nat}{F:Fn}{c:Ck}
theorem spl3 {Q:List Value→Shared→Prop}{E:Value→Shared→Prop}(h:wpAny M A (eval y env) (fun v s₁=>wpAny M A (eval z env) (fun u s₂=>wpAny M A (eval w env) (fun x s₃=>Q [v,u,x] s₃) E s₂) E s₁) E s):wpAny M A (spliced (zam [y,z,w] env)) Q E s :=
 Calls.spliced_cons (yV h (fun t t h=>Calls.spliced_cons (yV h (fun t t h=>Calls.spliced_cons (yV h (fun t t h=>Calls.spliced_nil h) fun t t x=>x)) fun t t x=>x)) fun t t x=>x)
theorem zj5 {e f g:PE}{y z w:Expr}{p p':Pos}(hx:c.glob "range"=true) (hs:∀ a∈[y,z,w],isStar a=false) (h:EJ am n true F c e y) (h':EJ am n true F c f z) (h'':EJ am n true F c g w):ItJ am n F c (.range3 e f g) (.Call (.Name "range" p) [y,z,w] [] p'):=fun {cx ρ A res π Hc s} B st=>by
 simp -iota only[zsc];refine JT.rule (T:=fun Q E s=>wpAny am.M A (eval y cx.env) (fun v s₁=>wpAny am.M A (eval z cx.env) (fun w' s₁=>wpAny am.M A (eval w cx.env) (fun u s₁=>wpAny am.M A (PySem.call (.type "range") [v,w',u]) (fun xv s₂=>wpAny am.M A (pyIter xv) Q E s₂) E s₁) E s₁) E s₁) E s)
  (JT.bind (fun m=>PT.seq _ _ fun m=>PT.seq _ _ fun m=>PT.seq _ _ fun m=>PT.wp _ _) (h B st) fun u v H1 π1 s1 m hs1 hr1 hv1=>JT.bind (fun m=>PT.seq _ _ fun m=>PT.seq _ _ fun m=>PT.wp _ _) (h' B (st.step hs1 hr1)) fun u2 v2 H2 π2 s2 m hs2 hr2 hv2 =>
   JT.bind (fun m=>PT.seq _ _ fun m=>PT.wp _ _) (h'' B ((st.step hs1 hr1).step hs2 hr2)) fun u3 v3 H3 π3 s3 m hs3 hr3 hv3=>?_)
  fun Q E h=>zaq B st.hr hx (zbI (by kernel_rfl)) hs (spl3 h)
 have hv1':=(hv1.step hs2).step hs3;have hv2':=hv2.step hs3
 cases v with
 |int j=>cases v2 with
  |int k=>cases v3 with
   |int d =>
    obtain⟨t,rfl⟩:=hv1';obtain⟨t2,rfl⟩:=hv2';obtain⟨t3,rfl⟩:=hv3;dsimp only
    by_cases hk:-1000000≤j∧j≤1000000∧-1000000≤k∧k≤1000000
    ·rw[zT hk]
     unfold rng3
     by_cases hp:0 < d∧d≤1000000
     ·rw[zT hp,fromBy]
      exact .inr (yV (ziS (Hd.quiet st.hd) hr3 hk (Int.ne_of_gt hp.1) ⟨Int.le_trans (by decide) (Int.le_of_lt hp.1),hp.2⟩ (zq5 hk hp.1) (znQ j k hp.1)) (fun m m h=>yV h (fun m m h=>h.itLess ((hs1.trans hs2).trans hs3).ext.alive) fun m m h=>h) fun m m h=>h)
     ·rw[zR hp];exact .inl rfl
    ·exact .inl (zR hk)
   |_=>exact .inl rfl
  |_=>exact .inl rfl
 |_=>exact .inl rfl
end
theorem zcv (outer names:List (Str × NameKind)) (y:Str):(relab outer names).lookup y=(names.lookup y).map fun k=>if(k == .free&&outer.lookup y == some .cell)=true then .cell else k:=by
 induction names with
 |nil=>rfl
 |cons p r ih =>
  obtain⟨n,k⟩:=p;show List.lookup y ((if(k == NameKind.free&&outer.lookup n == some .cell)=true then(n,NameKind.cell) else(n,k))::relab outer r)=_
  cases hy:y == n with
  |true =>
   have hy':=eq_of_beq hy;subst hy'
   by_cases hc:(k == .free&&outer.lookup y == some .cell)=true
   ·rw[zT hc,lookup_cons,lookup_cons,hy];exact congrArg some (zT hc).symm
   ·rw[zR hc,lookup_cons,lookup_cons,hy];exact congrArg some (zR hc).symm
  |false =>
   by_cases hc:(k == .free&&outer.lookup n == some .cell)=true
   ·rw[zT hc,lookup_cons,lookup_cons,hy];exact ih
   ·rw[zR hc,lookup_cons,lookup_cons,hy];exact ih
theorem zaz {α β:Type} [BEq α] [LawfulBEq α] {l:List (α × β)}{x:α}{v:β}(h:l.lookup x=some v):(x,v)∈l:=by
 induction l with
 |nil=>exact no h
 |cons p l ih =>
  rw[lookup_cons] at h
  cases hx:x == p.1 with
  |true=>rw[hx] at h;cases h;rw[eq_of_beq hx];exact zZ
  |false=>rw[hx] at h;exact zY _ (ih h)
theorem zbe (hk:env.scope.kind=.function):(relabel scope env).names=relab env.scope.names scope.names:=by
 unfold relabel relab;simp only
 congr 1
 funext p
 obtain⟨n,k⟩:=p;simp only[hk,Env.kindOf,beq_self_eq_true,Bool.and_true]
theorem ziy (names:List (Str × NameKind)) (acc:List (Str × Addr)) (h1:∀ p∈names,p.2=.free→∃ c,env.cells.lookup p.1=some c) (h2:∀ y c,acc.lookup y=some c→env.cells.lookup y=some c) :
  ∃ cl,(forIn names acc fun(p:Str × NameKind) (cs:List (Str × Addr))=>(if p.2 == .free then do let c ← cellOf env p.1;pure (ForInStep.yield ((p.1,c)::cs)) else pure (ForInStep.yield cs):Sem (ForInStep (List (Str × Addr)))))=(pure cl:Sem (List (Str × Addr))) ∧
   (∀ y c,cl.lookup y=some c→env.cells.lookup y=some c)∧(∀ p∈names,p.2=.free→∃ c,cl.lookup p.1=some c)∧(∀ y c,acc.lookup y=some c→∃ c',cl.lookup y=some c'):=by
 induction names generalizing acc with
 |nil=>exact⟨acc,rfl,h2,fun z h=>(not_mem_nil h).elim,fun y c h=>⟨c,h⟩⟩
 |cons p names ih =>
  rw[List.forIn_cons]
  by_cases hp:p.2=.free
  ·obtain⟨c,hc⟩:=h1 p zZ hp
   have hcell:cellOf env p.1=pure c:=by unfold cellOf;rw[hc]
   have hb:(p.2 == NameKind.free)=true:=by simp[hp]
   simp only[hb,if_true,hcell,pure_bind];obtain⟨cl,e1,e2,e3,e4⟩:=ih ((p.1,c)::acc) (fun q hq=>h1 q (zY _ hq)) (fun y c' h=>by
    rw[lookup_cons] at h
    cases hx:y == p.1 with
    |true=>rw[hx] at h;cases h;rw[eq_of_beq hx];exact hc
    |false=>rw[hx] at h;exact h2 y c' h)
   refine⟨cl,e1,e2,fun q hq hqf=>?_,fun y c' h=>?_⟩
   ·rcases zN.mp hq with rfl|hq
    ·exact e4 q.1 c (by simp[lookup_cons])
    ·exact e3 q hq hqf
   ·cases hx:y == p.1 with
    |true=>exact e4 y c (by rw[lookup_cons,hx])
    |false=>exact e4 y c' (by rw[lookup_cons,hx];exact h)
  ·have hb:(p.2 == NameKind.free)=false:=by simpa using hp
   simp only[hb,Bool.false_eq_true,if_false,pure_bind];refine hold fun z k_=>?_;obtain⟨cl,e1,e2,e3,e4⟩:=ih acc (fun q hq=>h1 q (zY _ hq)) h2;refine k_ ?_;refine⟨cl,e1,e2,fun q hq hqf=>?_,e4⟩
   rcases zN.mp hq with rfl|hq
   ·exact absurd hqf hp
   ·exact e3 q hq hqf
theorem zgM (h:∀ p∈scope.names,p.2=.free→∃ c,env.cells.lookup p.1=some c) :
  ∃ cl,closureFor scope env=pure cl∧(∀ y c,cl.lookup y=some c→env.cells.lookup y=some c)∧∀ p∈scope.names,p.2=.free→∃ c,cl.lookup p.1=some c:=by
 refine hold fun z k_=>?_;obtain⟨cl,e1,e2,e3,_⟩:=ziy scope.names [] h (by simp)
 refine k_ ?_;refine⟨cl,?_,e2,e3⟩;exact(congrArg (fun t:Sem (List (Str × Addr))=>t >>= fun cs=>pure cs) e1).trans (pure_bind _ _)
section
variable {am:Amb}{π:List Addr}{h:Heap}
theorem ExcAt.held (e:ExcAt am h c a):ExcAt (am.hold l) h c a:=e
theorem SR.held (hl:h.get? l=none) (e:SR am π h v x):SR (am.hold l) π h v x:=by
 rcases e with e|⟨c,a,h1,h2,h3,h4⟩
 ·exact .inl (e.held hl)
 ·exact .inr ⟨c,a,h1,h2,h3,h4⟩
theorem ER.held (hl:h.get? l=none) (e:ER am cx ρ π h):ER (am.hold l) cx ρ π h :=
 ⟨e.ns,e.locOff,e.cellOff,e.apart,fun x i v h1 h2 h3 h4=>let ⟨v',h5,h6⟩:=e.var x i v h1 h2 h3 h4;⟨v',h5,h6.held hl⟩⟩
theorem HR.freed {sk:List Env}{Hc:H}{h':Heap}{C:Addr}(hr:HR am sk π Hc h) (hC:C∈am.res) (hB:am.B.get? C=none) (hπ:C ∉ π) (p:Poke C h h') (ho:∃ o,h'.get? C=some o∧∀ us,o.data≠.fields us):HR am sk π Hc h':=by
 refine⟨fun b o e=>p b o (fun q=>by subst q;rw[hB] at e;cases e) (hr.base b o e),zbi (fun b o h1 h2=>p b o h1 h2) ho hr.frames,hr.len,hr.nodup,fun a ha=>?_,hr.off,fun i c a h1 h2=>?_⟩
 ·by_cases hq:a=C
  ·subst hq;exact ho
  ·obtain⟨o,h1,h2⟩:=hr.res a ha
   exact⟨o,p a o hq h1,h2⟩
 ·have hne:a≠C:=fun q=>hπ (q ▸ zbD h2)
  obtain⟨o,xs,e0,e1,e2,e3⟩:=hr.cell i c a h1 h2;exact⟨o,xs,p _ _ hne e0,e1,e2,e3.free fun b o hb e=>p b o (fun q=>hb (q ▸ hC)) e⟩
theorem HR.out {sk:List Env}{Hc:H}{h':Heap}{C:Addr}(hr:HR (am.hold C) sk π Hc h) (hC:C ∉ am.res) (hB:am.B.get? C=none) (hπ:C ∉ π) (hF:C ∉ Fs sk) (p:Poke C h h'):HR am sk π Hc h':=by
 have fr:∀ {st:List Env},h.FunFrames am.B st→(∀ a∈Fs st,a≠C)→h'.FunFrames am.B st:=by
  intro st
  induction st with
  |nil=>intro _ _;trivial
  |cons e st ih =>
   rintro⟨h1,⟨L,o,h2,h3,h4,h5⟩,h6⟩ hn
   refine⟨h1,⟨L,o,h2,h3,p L o (hn L ?_) h4,h5⟩,ih h6 fun a ha=>hn a ?_⟩
   ·simp[h2]
   ·simp only[Fs,filterMap_cons,h2,zN];exact .inr ha
 refine⟨fun b o e=>p b o (fun q=>by subst q;have e':am.B.get? b=some o:=e;rw[hB] at e';cases e') (hr.base b o e),fr hr.frames (fun a ha q=>hF (q ▸ ha)),hr.len,hr.nodup,fun a ha=>?_,hr.off,fun i c a h1 h2=>?_⟩
 ·obtain⟨o,h1,h2⟩:=hr.res a (zY _ ha)
  exact⟨o,p a o (fun q=>hC (q ▸ ha)) h1,h2⟩
 ·have hne:a≠C:=fun q=>hπ (q ▸ zbD h2)
  obtain⟨o,xs,e0,e1,e2,e3⟩:=hr.cell i c a h1 h2;exact⟨o,xs,p _ _ hne e0,e1,e2,(e3.free fun b o hb e=>p b o (fun q=>hb (q ▸ zZ)) e).reserve.2⟩
theorem PL.at (pl:PL h l xs) (k:∀ o,h.get? l=some o→h'.get? l=some o):PL h' l xs:=let ⟨o,n,ho,r⟩:=pl;⟨o,n,k o ho,r⟩
theorem Ns.at {l:Addr}{m:Str→Option Value}{h':Heap}(hn:h.Ns l m) (k:∀ o,h.get? l=some o→h'.get? l=some o):h'.Ns l m:=let ⟨o,es,ep,ho,r⟩:=hn;⟨o,es,ep,k o ho,r⟩
theorem Ns.nf {m:Str→Option Value}(hn:h.Ns l m):∃ o,h.get? l=some o∧∀ us,o.data≠.fields us:=let ⟨o,es,ep,ho,hd,_⟩:=hn;⟨o,ho,fun us q=>by rw[hd] at q;cases q⟩
theorem PL.nf (pl:PL h l xs):∃ o,h.get? l=some o∧∀ us,o.data≠.fields us:=let ⟨o,n,ho,_,_,hd⟩:=pl;⟨o,ho,fun us q=>by rw[hd] at q;cases q⟩
structure ScC (c:Ck) (x:Str) (scope:Scope):Prop where
 kind:scope.kind=.function
 cell:∀ p∈scope.names,p.2≠.cell
 loc:∀ p∈scope.names,p.2=.local→(p.1=x∨p.1=(".0":Str))∧scope.names.lookup p.1=some .local
 free:∀ p∈scope.names,p.2=.free→c.names.lookup p.1=some .cell∨c.names.lookup p.1=some .free
 xl:scope.names.lookup x=some .local
 ctx:c.ctx.lookup (".0":Str)=none
theorem nor {α:Type} [BEq α] [LawfulBEq α] {a b:α}{c:Bool}(h:(a != b||c)=true) (e:a=b):c=true:=(Bool.or_eq_true_iff.mp h).resolve_left fun z=>bne_iff_ne.mp z e
theorem or2 {α:Type} [BEq α] [LawfulBEq α] {x y a b:α}(h:(x == a||y == b)=true):x=a∨y=b:=(Bool.or_eq_true_iff.mp h).imp eq_of_beq eq_of_beq
theorem zjj {c:Ck}{x:Str}{scope:Scope}(h:zcY c x scope=true):ScC c x scope :=
 have a:=List.all_eq_true.mp (ar (al (al (al h))))
 ⟨eq_of_beq (al (al (al (al h)))),fun p hp=>bne_iff_ne.mp (ar (a p hp)),fun p hp e=>have z:=nor (al (al (a p hp))) e;⟨or2 (al z),eq_of_beq (ar z)⟩,
  fun p hp e=>or2 (nor (by rw[←Bool.or_assoc];exact ar (al (a p hp))) e),eq_of_beq (ar (al (al h))),eq_of_beq (ar h)⟩
theorem zoZ {c:Ck}{cx:Cx}{ρ:List V}{x:Str}{i:Nat}{scope:Scope}{cl:List (Str × Addr)}{C:Addr}{m:Str→Option Value}{v:V}{v':Value}(e:ER am cx ρ π h) (hkf:cx.env.scope.kind=.function) (hnames:cx.env.scope.names=c.names) (hctx:cx.ctx=c.ctx) (hs:ScC c x scope)
  (hi:c.ctx.all (fun p=>p.2 != i)=true) (hcl1:∀ y d,cl.lookup y=some d→cx.env.cells.lookup y=some d) (hcl2:∀ p∈scope.names,p.2=.free→∃ d,cl.lookup p.1=some d) (hC:C ∉ π) (hn:h.Ns C m) (hm:m x=some v') (hv:VR am π h v v') :
  ER am ⟨compEnvC scope cl C cx.env,cx.sk,(x,i)::cx.ctx⟩ (ρ.set i v) π h:=by
 refine⟨⟨m,hn⟩,hC,fun y d hd=>?_,fun y z d h1 h2=>e.apart y z d (hcl1 _ _ h1) (hcl1 _ _ h2),fun y j w h1 h2 h3 h4=>?_⟩
 ·refine hold fun t k_=>?_
  obtain⟨a1,_,u,a3⟩:=e.cellOff y d (hcl1 y d hd);refine k_ ?_;refine⟨a1,fun q=>?_,u,a3⟩;have hq:d=C:=q;subst hq;refine hold fun t k_=>?_;obtain⟨o,es,ep,ho,hd',_⟩:=hn;refine k_ ?_;obtain⟨o2,ho2,hd2⟩:=a3;rw[ho] at ho2;cases ho2;rw[hd'] at hd2;cases hd2
 ·have hkind:∀ y,Env.kindOf (compEnvC scope cl C cx.env) y=(scope.names.lookup y).map fun k=>if(k == .free&&c.names.lookup y == some .cell)=true then .cell else k:=by
   intro y;show(relabel scope cx.env).names.lookup y=_;rw[zbe hkf,zcv,hnames]
  by_cases hy:y=x
  ·subst hy
   rw[lookup_cons] at h1;simp only[beq_self_eq_true,Option.some.injEq] at h1;subst h1;have hlt:i < ρ.length:=by have:=(List.getElem?_eq_some_iff.mp h2).1;simpa using this
   rw[List.getElem?_set_self hlt] at h2
   cases h2
   exact⟨v',.inl ⟨by rw[hkind,hs.xl];rfl,m,hn,hm⟩,.inl hv⟩
  ·have hb:(y == x)=false:=beq_eq_false_iff_ne.mpr hy
   have h1':c.ctx.lookup y=some j:=by rw[lookup_cons,hb] at h1;rw[←hctx];exact h1
   have hj:j≠i:=by
    have:=zaz h1';simp only[all_eq_true,bne_iff_ne,ne_eq] at hi;exact hi _ this
   rw[List.getElem?_set_ne (Ne.symm hj)] at h2;unfold Vis at h4;simp only[hkind] at h4
   cases hl:scope.names.lookup y with
   |none=>rw[hl] at h4;simp at h4
   |some k =>
    have hmem:=zaz hl
    by_cases hkl:k=.local
    ·subst hkl
     rcases(hs.loc _ hmem rfl).1 with q|q
     ·exact absurd q hy
     ·simp only at q;rw[q,hs.ctx] at h1';cases h1'
    ·by_cases hkf':k=.free
     ·subst hkf'
      obtain⟨d,hd⟩:=hcl2 _ hmem rfl;have hcell:=hcl1 y d hd;have hout:cx.env.kindOf y=some .cell∨cx.env.kindOf y=some .free:=by
       unfold Env.kindOf;rw[hnames];exact hs.free _ hmem rfl
      obtain⟨u,h5,h6⟩:=e.var y j w (by rw[hctx];exact h1') h2 h3 (by unfold Vis;rcases hout with q|q;exact .inr (.inl q);exact .inr (.inr q))
      refine⟨u,.inr ⟨?_,d,hd,?_⟩,h6⟩
      ·rw[hkind,hl];simp only[Option.map_some];split<;>simp
      ·rcases h5 with⟨q,_⟩|⟨_,d',h7,h8⟩
       ·rcases hout with q'|q'<;>rw[q'] at q<;>cases q
       ·rw[hcell] at h7;cases h7;exact h8
     ·rw[hl] at h4
      have hkc:k≠.cell:=hs.cell _ hmem;have hb2:(k == NameKind.free)=false:=by simpa using hkf'
      simp only[Option.map_some,hb2,Bool.false_and,Bool.false_eq_true,if_false,Option.some.injEq] at h4
      rcases h4 with q|q|q
      ·exact absurd q hkl
      ·exact absurd q hkc
      ·exact absurd q hkf'
end
structure LoopEnd (am:Amb) (sk:List Env) (π:List Addr) (s:Shared) (rs:List V) (Hf:H) (D C:Addr) (s':Shared):Prop where
 freshD:s.heap.get? D=none
 freshC:s.heap.get? C=none
 ne:D≠C
 resD:D ∉ am.res
 resC:C ∉ am.res
 baseD:am.B.get? D=none
 baseC:am.B.get? C=none
 fsD:D ∉ Fs sk
 fsC:C ∉ Fs sk
 rest:∃ π' xs m,Step (Fs sk) π s π' s'∧HR ((am.hold D).hold C) sk π' Hf s'.heap∧PL s'.heap D xs∧VRs ((am.hold D).hold C) π' s'.heap rs xs∧s'.heap.Ns C m∧D ∉ π'∧C ∉ π'
section
variable {am:Amb}{n:Nat}{F:Fn}{c:Ck}
def CJ (am:Amb) (n:Nat) (F:Fn) (c:Ck) (cond:Option PE) (ifs:List Expr):Prop:=∀ {cx:Cx}{ρ:List V}{A:Around}{res π:List Addr}{Hc:H}{s:Shared},Base am n true F c cx ρ A→St (am.at res) true cx ρ π Hc A s →
 JAt (am.at res) cx.sk A (forIn ifs true fun c r=>if r=true then do let ok ← isTrue c cx.env (eval c cx.env);pure (ForInStep.yield ok) else pure (ForInStep.yield r)) (tr (evC true F ρ cond Hc)) BR π s
theorem zo9:CJ am n F c none []:=fun {cx ρ A res π Hc s} B st=>by
 simp only[zsg,zsf];exact .inr (wpAny_tests_nil (OkP.here st.hr rfl))
theorem zo8 (h:TJ am n true F c e x):CJ am n F c (some e) [x]:=fun {cx ρ A res π Hc s} B st=>by
 simp only[zsg,zsf];exact(h B st).rule fun Q E h=>wpAny_tests_one h
theorem noErr {am:Amb}{sk:List Env}{β:Type}{π:List Addr}{s:Shared}{b:β}{Hc:H}{x:Value}{s':Shared}{P:Prop}(h:ErP am sk π s (.ok b Hc) x s'):P:=by
 obtain⟨_,_,_,_,_,_,h,_⟩:=h;cases h
theorem JAt.okAt {am:Amb}{sk:List Env}{A:Around}{α β:Type}{Rel:List Addr→Heap→β→α→Prop}{π:List Addr}{s:Shared}{m:Sem α}{r:R β}{b:β}{Hc:H}{Q:α→Shared→Prop}{E:Value→Shared→Prop}(h:JAt am sk A m r Rel π s) (hr:r=.ok b Hc)
  (k:∀ a π' s',Step (Fs sk) π s π' s'→HR am sk π' Hc s'.heap→Rel π' s'.heap b a→Q a s'):wpAny am.M A m Q E s:=by
 subst hr
 rcases h with h|h
 ·cases h
 ·refine yV h (fun a s' h=>?_) fun e s' h=>noErr h
  refine hold fun z k_=>?_;obtain⟨b',H',π',h1,h2,h3,h4⟩:=h;refine k_ ?_
  cases h1
  exact k a π' s' h2 h3 h4
theorem zgn {h:Heap}{a I:Addr}{o:Obj}{us:Array Value}(h1:∃ o,h.get? a=some o∧∀ us,o.data≠.fields us) (h2:h.get? I=some o) (h3:o.data=.fields us):a≠I:=fun q=>by
 subst q;obtain⟨o',h4,h5⟩:=h1;rw[h2] at h4;cases h4
 exact h5 us h3
theorem ziV {Q:Value→Shared→Prop}{E:Value→Shared→Prop}(pl:PL s.heap l xs) (hz:xs.length≤1000000)
  (h:PL (s.heap.update l (Obj.mapSeq (·.push y))) l (xs++[y])→Poke l s.heap (s.heap.update l (Obj.mapSeq (·.push y)))→Q .none { s with heap:=s.heap.update l (Obj.mapSeq (·.push y)) }) :
  wpAny am.M A (PySem.call (.builtin "list.append") [.ref l,y]) Q E s:=by
 refine hold fun z k_=>?_;obtain⟨o,n,ho,hcl,hdi,hd⟩:=id pl;refine k_ ?_;refine wpAny_call_entry slot_list_append pl.is.typeIs entry_list_append ?_ (args_list_append _ _);show wpAny _ _ (updateSeq l (·.push y) >>= fun z=>ret .none) _ _ s;refine yX ?_;refine wpAny_updateSeq ho hd (yW ⟨.none,rfl,?_⟩) (hz:=by rw[size_toArray];exact zaN hz)
 have pl':=pl.update (·.push y);exact h (by simpa using pl') fun b o h1 h2=>(Heap.SameBut.update ..).extBut b o h1 h2
theorem zeL {fe fc:V→H→R V}(e:compL w fe fc [] h=.ok ws Hf):w.ok h=true∧ws=[]∧h=Hf:=by
 simp only[zgK,zgL] at e
 split at e
 ·cases e;exact⟨by assumption,rfl,rfl⟩
 ·cases e
theorem zdD {fe fc:V→H→R V}(e:compL w fe fc (v::vs) h=.ok ws Hf) :
  w.ok h=true∧∃ tb h3,tr (fc v h)=.ok tb h3∧(tb=false→compL w fe fc vs h3=.ok ws Hf)∧(tb=true→∃ x h4 ws',fe v h3=.ok x h4∧compL w fe fc vs h4=.ok ws' Hf∧ws=x::ws'):=by
 simp only[zgK,zgL] at e
 split at e
 ·refine⟨by assumption,?_⟩
  cases hcd:fc v h with
  |bad=>rw[hcd] at e;cases e
  |err _ _=>rw[hcd] at e;cases e
  |ok bv h3 =>
   rw[hcd] at e;simp only[R.bind_ok] at e
   cases htb:truthy bv with
   |none=>rw[htb] at e;cases e
   |some tb =>
    rw[htb] at e;refine⟨tb,h3,by simp[tr,htb],?_⟩
    cases tb with
    |false=>exact⟨fun z=>e,fun q=>absurd q (by simp)⟩
    |true =>
     refine⟨fun q=>absurd q (by simp),fun z=>?_⟩
     dsimp only at e
     cases hel:fe v h3 with
     |bad=>rw[hel] at e;cases e
     |err _ _=>rw[hel] at e;cases e
     |ok x h4 =>
      rw[hel] at e;simp only[R.bind_ok] at e
      cases hrest:compL w fe fc vs h4 with
      |bad=>rw[hrest] at e;cases e
      |err _ _=>rw[hrest] at e;cases e
      |ok ws' h5=>rw[hrest] at e;simp only[R.bind_ok] at e;cases e;exact⟨x,h4,ws',rfl,hrest,rfl⟩
 ·cases e
structure CS (am:Amb) (sk:List Env) (π:List Addr) (s:Shared) (Sx:Nat→List Addr→Heap→Prop) (D C:Addr) (j:Nat) (π':List Addr) (H':H) (us:List V) (xs:List Value) (m:Str→Option Value) (s':Shared):Prop where
 st:Step (Fs sk) π s π' s'
 hr:HR am sk π' H' s'.heap
 sx:Sx j π' s'.heap
 pl:PL s'.heap D xs
 vr:VRs am π' s'.heap us xs
 ns:s'.heap.Ns C m
 dp:D ∉ π'
 cp:C ∉ π'
theorem CS.step {am:Amb}{sk:List Env}{A:Around}{I:Addr}{wt:Watch}{vs:List V}{π:List Addr}{s:Shared}{Sx:Nat→List Addr→Heap→Prop}{D C:Addr}{j:Nat}{π':List Addr}{H':H}{us:List V}{xs:List Value}{m:Str→Option Value}{s':Shared}(x:CS am sk π s Sx D C j π' H' us xs m s') (It:Iter am sk A I wt vs Sx) (fsD:D ∉ Fs sk) (fsC:C ∉ Fs sk)
  {π2:List Addr}{H2:H}{s2:Shared}(h:Step (Fs sk) π' s' π2 s2) (hr:HR am sk π2 H2 s2.heap):CS am sk π s Sx D C j π2 H2 us xs m s2 :=
 ⟨x.st.trans h,hr,It.stable _ _ _ _ _ x.sx h,x.pl.at fun o e=>h.ext.keep D o e x.dp fsD,x.vr.step h,Ns.at x.ns fun o e=>h.ext.keep C o e x.cp fsC,by obtain⟨o,ho,_⟩:=x.pl.nf;exact h.notin ho x.dp,by obtain⟨o,ho,_⟩:=Ns.nf x.ns;exact h.notin ho x.cp⟩
inductive CompInv (am:Amb) (sk:List Env) (π:List Addr) (s:Shared) (Sx:Nat→List Addr→Heap→Prop) (D C:Addr) (wt:Watch) (fe fc:V→H→R V) (vs rs:List V) (Hf:H) (k:Nat) (s':Shared):Prop
 |mk (j:Nat) (π':List Addr) (H':H) (us:List V) (xsD:List Value) (m:Str→Option Value) (ws:List V) (e:k=vs.length+1 - j) (hj:j≤vs.length) (cs:CS am sk π s Sx D C j π' H' us xsD m s') (hc:compL wt fe fc (vs.drop j) H'=.ok ws Hf) (hrs:us++ws=rs)
theorem zkD {elt:PE}{i:Nat}{cond:Option PE}{e iter:Expr}{x:Str}{px pos:Pos}{ifs:List Expr}{scope:Scope}{cl:List (Str × Addr)}{cx:Cx}{ρ:List V}{A:Around}{res π π1:List Addr}{Hc H1 Hf:H}{s s1:Shared}{vs rs:List V}{wt:Watch}{itv:Value}
  {RR:Value→Addr→Result→Shared→Prop}{E:Value→Shared→Prop}
  (B:Base am n true F c cx ρ A) (st:St (am.at res) true cx ρ π Hc A s) (hs1:Step (Fs cx.sk) π s π1 s1) (hr1:HR (am.at res) cx.sk π1 H1 s1.heap) (hit:ItR (am.at res) cx.sk A s.heap π1 s1.heap (vs,wt) itv)
  (hsc:ScC c x scope) (hi:c.ctx.all (fun p=>p.2 != i)=true) (helt:EJ am n true F (c.inner x i scope) elt e) (hcond:CJ am n F (c.inner x i scope) cond ifs)
  (hcl1:∀ y d,cl.lookup y=some d→cx.env.cells.lookup y=some d) (hcl2:∀ p∈scope.names,p.2=.free→∃ d,cl.lookup p.1=some d)
  (hcomp:compL wt (fun v h=>evE true F (ρ.set i v) elt h) (fun v h=>evC true F (ρ.set i v) cond h) vs H1=.ok rs Hf) (hlen:rs.length≤1000000)
  (hRR:∀ D C s',LoopEnd (am.at res) cx.sk π s rs Hf D C s'→RR (.ref D) C (.ok .next) s') :
  wpAny am.M A (newList []) (fun acc s₃=>wpAny am.M A (newFunctionEnv scope cx.env.globals cl [] cx.env.qual none .none (some cx.env)) (fun cenv s₄ =>
   codeAny am.M A (.compStart (.ListComp e [⟨.Name x px,iter,ifs,0⟩] scope pos) 0 itv acc { cenv with scope:=relabel scope cx.env }) (RR acc cenv.locals) s₄) E s₃) E s1:=by
 refine hold fun z k_=>?_;obtain⟨I,hI0,hIB,hItD⟩:=hit;refine k_ ?_;have hcell:=hsc.cell;refine wpAny_newObj_type (wpAny_newFunctionEnv hcell (by intro y hy;simp at hy) (fun h₁ hns₁ hsb₁=>?_) hsc.kind)
 dsimp only at hns₁ hsb₁ ⊢
 generalize hH2:s1.heap.push { cls:=.type "list",dict:=none,data:=.seq ([]:List Value).toArray }=H2 at hns₁ hsb₁ ⊢
 generalize hD:s1.heap.objs.size=D at *
 generalize hC:H2.objs.size=C at *
 have hCD:C=D+1:=by rw[←hC,← hH2,Heap.size_push,hD]
 have hDC:D≠C:=by rw[hCD];exact Nat.ne_of_lt (Nat.lt_succ_self D)
 have freshD1:s1.heap.get? D=none:=by rw[←hD];exact zat _
 have freshC1:s1.heap.get? C=none:=by
  cases hq:s1.heap.get? C with
  |none=>rfl
  |some o=>have h3:C < s1.heap.objs.size:=Heap.lt_size hq;rw[hD,hCD] at h3;exact absurd h3 (Nat.not_lt.mpr (Nat.le_succ _))
 have k1:∀ b o,s1.heap.get? b=some o→h₁.get? b=some o:=fun b o hb =>
  hsb₁.extBut b o (zdL freshC1 hb) (Heap.get?_push_of_some _ (hH2 ▸ Heap.get?_push_of_some _ hb))
 have fresh0:∀ a,s1.heap.get? a=none→s.heap.get? a=none:=fun a ha=>by
  cases hq:s.heap.get? a with
  |none=>rfl
  |some o=>obtain⟨o',h6⟩:=hs1.ext.alive a o hq;rw[ha] at h6;cases h6
 have plD:PL h₁ D []:=by
  have h2:H2.get? D=some { cls:=.type "list",dict:=none,data:=.seq ([]:List Value).toArray }:=by rw[←hH2,← hD];exact Heap.get?_push_size _ rfl
  exact⟨_,0,hsb₁.extBut D _ hDC (Heap.get?_push_of_some _ h2),rfl,rfl,rfl⟩
 let am':Amb:=((am.at res).hold D).hold C
 have hr2:HR am' cx.sk π1 H1 h₁:=(hr1.held (h':=h₁) freshD1 k1 plD.nf |> fun z=>by
  have a1:HR ((am.at res).hold D) cx.sk π1 H1 H2:=hr1.held freshD1 (fun b o hb=>hH2 ▸ Heap.get?_push_of_some _ hb) (by
   have h2:H2.get? D=some { cls:=.type "list",dict:=none,data:=.seq ([]:List Value).toArray }:=by rw[←hH2,← hD];exact Heap.get?_push_size _ rfl
   exact⟨_,h2,fun us q=>by cases q⟩)
  have hCn:H2.get? C=none:=by rw[←hC];exact zat _
  exact a1.held hCn (fun b o hb=>hsb₁.extBut b o (zdL hCn hb) (Heap.get?_push_of_some _ hb)) (Ns.nf hns₁))
 obtain⟨Sx,It,hSx⟩:=hItD (C::D::res) h₁ (fun a ha=>by
  rcases zN.mp ha with rfl|ha
  ·exact .inr freshC1
  ·rcases zN.mp ha with rfl|ha
   ·exact .inr freshD1
   ·exact .inl ha) k1
 refine hold fun z k_=>?_;obtain⟨hI1,hI2,oI,usI,hIo,hId⟩:=It.own 0 π1 h₁ hSx;refine k_ ?_;have cellsOk:∀ v,(∀ c,v≠.exc c)→Base am n true F (c.inner x i scope) ⟨compEnvC scope cl C cx.env,cx.sk,(x,i)::cx.ctx⟩ (ρ.set i v) A:=fun v hv =>
  ⟨B.ok,B.fn,⟨by show(x,i)::cx.ctx=(x,i)::c.ctx;rw[B.ck.ctx],by show(relabel scope cx.env).names=relab c.names scope.names;rw[zbe B.cxk.kind,B.ck.names],B.ck.fns,B.ck.nums⟩,
   ⟨fun y hy=>by
     have hk:Env.kindOf (compEnvC scope cl C cx.env) y=(scope.names.lookup y).map fun k=>if(k == .free&&c.names.lookup y == some .cell)=true then .cell else k:=by
      show(relabel scope cx.env).names.lookup y=_;rw[zbe B.cxk.kind,zcv,B.ck.names]
     rw[hk] at hy
     cases hl:scope.names.lookup y with
     |none=>rw[hl] at hy;simp at hy
     |some k =>
      by_cases hf:k=.free
      ·subst hf;exact hcl2 _ (zaz hl) rfl
      ·have hb2:(k == NameKind.free)=false:=by simpa using hf
       rw[hl] at hy;simp only[Option.map_some,hb2,Bool.false_and,Bool.false_eq_true,if_false,Option.some.injEq] at hy
       rcases hy with q|q
       ·exact absurd q (hcell _ (zaz hl))
       ·exact absurd q hf,
    hsc.kind,B.cxk.globals,B.cxk.builtins,B.cxk.top⟩,B.as,fun z=>(B.ne rfl).set hv⟩
 have resD:D ∉ (am.at res).res:=zaG hr1 freshD1;have resC:C ∉ (am.at res).res:=zaG hr1 freshC1;have fsD:D ∉ Fs cx.sk:=zbj hr1 freshD1;have fsC:C ∉ Fs cx.sk:=zbj hr1 freshC1;have baseD:(am.at res).B.get? D=none:=zdk hr1 freshD1;have baseC:(am.at res).B.get? C=none:=zdk hr1 freshC1;have er0:ER am' cx ρ π s.heap:=(st.er.held (fresh0 D freshD1)).held (fresh0 C freshC1);have hxk:Env.kindOf (compEnvC scope cl C cx.env) x=some .local:=lookup_relabel_local hsc.xl
 have hp:((compEnvC scope cl C cx.env).scope.kind == .class||((compEnvC scope cl C cx.env).scope.kind == .module&&(compEnvC scope cl C cx.env).locals != (compEnvC scope cl C cx.env).globals))=false:=by
  simp[compEnvC,relabel,hsc.kind]
 have loop:∀ s₃:Shared,s₃={ s1 with heap:=h₁,toks:=s1.toks+([]:List (Str × Value)).length } →
   codeAny am.M A (.compLoop (.ListComp e [⟨.Name x px,iter,ifs,0⟩] scope pos) 0 (.ref I) (.ref D) (compEnvC scope cl C cx.env)) (RR (.ref D) C) s₃:=by
  rintro s₃ rfl
  refine hold fun z k_=>?_;obtain⟨Inv,toInv,ofInv⟩:∃ Inv:Nat→Shared→Prop,(∀ k s',CompInv am' cx.sk π s Sx D C wt (fun v h=>evE true F (ρ.set i v) elt h) (fun v h=>evC true F (ρ.set i v) cond h) vs rs Hf k s'→Inv k s')∧(∀ k s',Inv k s'→CompInv am' cx.sk π s Sx D C wt (fun v h=>evE true F (ρ.set i v) elt h) (fun v h=>evC true F (ρ.set i v) cond h) vs rs Hf k s'):=⟨_,fun z z h=>h,fun z z h=>h⟩
  refine k_ ?_;refine codeAny_compLoop_tests Inv ?_ (vs.length+1)
   (toInv _ _ ⟨0,π1,H1,[],[],_,rs,rfl,Nat.zero_le _,⟨hs1.trans (Step.keeps k1),hr2,hSx,plD,rfl,hns₁,zaJ hr1 freshD1,zaJ hr1 freshC1⟩,by simpa using hcomp,rfl⟩)
  intro k s' hi_;refine hold fun z k_=>?_;obtain⟨j,π',H',us,xsD,m,ws,rfl,hj,⟨hS,hR,hX,hP,hV,hN,hDπ,hCπ⟩,hc,hrs⟩:=ofInv k s' hi_;refine k_ ?_;refine hold fun z k_=>?_;obtain⟨i1,i2,oJ,uJ,hoJ,hdJ⟩:=It.own j π' s'.heap hX;refine k_ ?_;have hDI:D≠I:=zgn hP.nf hoJ hdJ;have hCI:C≠I:=zgn (Ns.nf hN) hoJ hdJ;refine hold fun z k_=>?_
  cases hv:vs[j]? with
  |none =>
   refine k_ ?_;have hjl:vs.length≤j:=by simpa using hv
   have hj':j=vs.length:=Nat.le_antisymm hj hjl;rw[drop_of_length_le hjl] at hc;refine hold fun z k_=>?_;obtain⟨hw,e1,e2⟩:=zeL hc;refine k_ ?_;refine It.done π' _ s' _ _ (hj' ▸ hX) hR hw fun h' tk p=>?_;refine hRR D C _ ⟨fresh0 D freshD1,fresh0 C freshC1,hDC,resD,resC,baseD,baseC,fsD,fsC,π',xsD,m,hS.poke hI0 p,e2 ▸ hR.poke p hoJ hdJ hIB,hP.at fun o e=>p D o hDI e,?_,Ns.at hN fun o e=>p C o hCI e,hDπ,hCπ⟩
   rw[←hrs,e1,append_nil];exact hV.upto (p.slots hoJ hdJ)
  |some v =>
   refine k_ ?_;have hjl:j < vs.length:=(List.getElem?_eq_some_iff.mp hv).1;have hdrop:vs.drop j=v::vs.drop (j+1):=by
    rw[drop_eq_getElem_cons hjl]
    congr 1
    exact(List.getElem?_eq_some_iff.mp hv).2
   rw[hdrop] at hc;refine hold fun z k_=>?_;obtain⟨hw,tb,h3,htr,hc0,hc1⟩:=zdD hc;refine k_ ?_;refine It.item j π' H' s' v _ _ hX hR hw hv fun x' h' tk p hvx hX'=>?_;dsimp only;have hN':h'.Ns C m:=Ns.at hN fun o e=>p C o hCI e;refine wpAny_assign_Name (wpAny_storeName_local hxk hN' (fun h₂ hn₂ hs₂=>?_) hp);have p2:Poke C h' h₂:=fun b o hb e=>hs₂.extBut b o hb e;have hCr:C∈am'.res:=zZ
   have hDr:D∈am'.res:=zY _ zZ;have f2:∀ b o,b ∉ am'.res→h'.get? b=some o→h₂.get? b=some o:=fun b o hb e=>p2 b o (fun q=>hb (q ▸ hCr)) e;have hR2:HR am' cx.sk π' H' h₂:=(hR.poke p hoJ hdJ hIB).freed hCr baseC hCπ p2 (Ns.nf hn₂);have c2:CS am' cx.sk π s Sx D C (j+1) π' H' us xsD _ { s' with heap:=h₂,toks:=tk+1 }:=⟨(hS.poke (tk:=tk) hI0 p).poke (fresh0 C freshC1) p2,hR2,It.free _ _ _ _ hX' f2,(hP.at fun o e=>p D o hDI e).at fun o e=>p2 D o hDC e,(hV.upto (p.slots hoJ hdJ)).free f2,hn₂,hDπ,hCπ⟩
   have hvx2:VR am' π' h₂ v x':=hvx.free f2;have er:ER am' ⟨compEnvC scope cl C cx.env,cx.sk,(x,i)::cx.ctx⟩ (ρ.set i v) π' h₂ :=
    zoZ (er0.step c2.st) B.cxk.kind B.ck.names B.ck.ctx hsc hi hcl1 hcl2 hCπ hn₂ (by simp) hvx2
   have stI:St am' true ⟨compEnvC scope cl C cx.env,cx.sk,(x,i)::cx.ctx⟩ (ρ.set i v) π' H' A { s' with heap:=h₂,toks:=tk+1 }:=⟨hR2,er,st.hd⟩
   have BI:=cellsOk v hvx.noexc;refine JAt.okAt (am:=am') (hcond (res:=C::D::res) BI stI) htr fun a π2 s3 hS3 hR3 hb=>?_;unfold BR at hb;subst hb;have c3:=c2.step It fsD fsC hS3 hR3
   cases tb with
   |false =>
    rw[zR (by simp)]
    exact⟨_,Nat.sub_lt_sub_left (Nat.lt_succ_of_lt hjl) (Nat.lt_succ_self j),toInv _ _ ⟨j+1,π2,h3,us,xsD,_,ws,rfl,hjl,c3,hc0 rfl,hrs⟩⟩
   |true =>
    rw[zT rfl];obtain⟨w,h4,ws',hel,hrest,rfl⟩:=hc1 rfl;refine JAt.okAt (am:=am') (helt (res:=C::D::res) BI (stI.step hS3 hR3)) hel fun y π3 s4 hS4 hR4 hvy=>?_;have c4:=c3.step It fsD fsC hS4 hR4;have hxl2:xsD.length≤1000000:=by
     rw[c4.vr.len];refine zX ?_ hlen;rw[←hrs,zQ];exact Nat.le_add_right ..
    refine ziV c4.pl hxl2 fun pl' p5=>?_;have f5:∀ b o,b ∉ am'.res→s4.heap.get? b=some o→(s4.heap.update D (Obj.mapSeq (·.push y))).get? b=some o:=fun b o hb e=>p5 b o (fun q=>hb (q ▸ hDr)) e;exact⟨_,Nat.sub_lt_sub_left (Nat.lt_succ_of_lt hjl) (Nat.lt_succ_self j),toInv _ _ ⟨j+1,π3,h4,us++[w],xsD++[y],_,ws',rfl,hjl,⟨c4.st.poke (tk:=s4.toks) (fresh0 D freshD1) p5,c4.hr.freed hDr baseD c4.dp p5 pl'.nf,It.free _ _ _ _ c4.sx f5,pl',(c4.vr.append (.single hvy)).free f5,Ns.at c4.ns fun o e=>p5 C o (Ne.symm hDC) e,c4.dp,c4.cp⟩,hrest,by rw[←hrs];simp⟩⟩
 exact codeAny_compStart_list (loop _ rfl) (It.self 0 π1 _ _ _ hSx (loop _ rfl))
end
theorem LoopEnd.fr {am:Amb}{sk:List Env}{π:List Addr}{s:Shared}{rs:List V}{Hf:H}{D C:Addr}{s':Shared}(e:LoopEnd am sk π s rs Hf D C s') (hlen:rs.length≤1000000){h':Heap}{tk:Nat}(p:Poke C s'.heap h') :
  FrP am sk π s (.ok (.l rs) Hf) (.ref D) { s' with heap:=h',toks:=tk }:=by
 refine hold fun y k_=>?_;obtain⟨π',xs,m,h1,h2,h3,h4,h5,h6,h7⟩:=e.rest;refine k_ ?_;have hCr:C∈((am.hold D).hold C).res:=zZ;refine⟨rs,Hf,π',D,xs,rfl,rfl,hlen,e.freshD,⟨h6,e.fsD,e.resD,e.baseD⟩,h1.poke e.freshC p,?_,h3.at fun o q=>p D o e.ne q,?_⟩
 ·refine h2.out ?_ e.baseC h7 e.fsC p
  simp only[Amb.hold,zN,not_or];exact⟨Ne.symm e.ne,e.resC⟩
 ·exact(h4.free fun b o hb q=>p b o (fun z=>hb (z ▸ hCr)) q).reserve.2
theorem zed (h:isSet iter=false) (env:Env) (x:Value):foldedSetIterable iter env x=pure x:=by
 cases iter<;>first|rfl|exact noB h.symm
section
variable {am:Amb}{n:Nat}{q:Bool}{F:Fn}{c:Ck}
noncomputable def itemsR (F:Fn) (ρ:List V) (elt:PE) (i:Nat) (it:PIt) (cond:Option PE) (Hc:H):R (List V):=(evIt true F ρ it Hc).bind fun vs h =>
 match compL vs.2 (fun v h=>evE true F (ρ.set i v) elt h) (fun v h=>evC true F (ρ.set i v) cond h) vs.1 h with
 |.ok r h=>if r.length≤1000000 then .ok r h else .bad
 |_=>.bad
theorem zl3 {ρ:List V}{elt:PE}{i:Nat}{it:PIt}{cond:Option PE}{Hc H1:H}{vs:List V}{wt:Watch}(hb:itemsR F ρ elt i it cond Hc≠.bad) (e:evIt true F ρ it Hc=.ok (vs,wt) H1) :
  ∃ rs Hf,compL wt (fun v h=>evE true F (ρ.set i v) elt h) (fun v h=>evC true F (ρ.set i v) cond h) vs H1=.ok rs Hf∧rs.length≤1000000∧itemsR F ρ elt i it cond Hc=.ok rs Hf:=by
 have sh:itemsR F ρ elt i it cond Hc=match compL wt (fun v h=>evE true F (ρ.set i v) elt h) (fun v h=>evC true F (ρ.set i v) cond h) vs H1 with
  |.ok r h=>if r.length≤1000000 then .ok r h else .bad
  |_=>.bad:=by unfold itemsR;rw[e];rfl
 rw[sh] at hb ⊢
 cases hc:compL wt (fun v h=>evE true F (ρ.set i v) elt h) (fun v h=>evC true F (ρ.set i v) cond h) vs H1 with
 |bad=>rw[hc] at hb;exact absurd rfl hb
 |err _ _=>rw[hc] at hb;exact absurd rfl hb
 |ok rs Hf =>
  rw[hc] at hb;dsimp only at *
  by_cases hl:rs.length≤1000000
  ·exact⟨rs,Hf,rfl,hl,zT hl⟩
  ·rw[zR hl] at hb;exact absurd rfl hb
theorem zba {ρ:List V}{elt:PE}{i:Nat}{it:PIt}{cond:Option PE}{Hc:H}:evE true F ρ (.comp elt i it cond) Hc=(itemsR F ρ elt i it cond Hc).bind fun rs h=>.ok (.l rs) h:=by
 rw[zpY,zR (by decide)]
 unfold itemsR
 cases evIt true F ρ it Hc with
 |ok b h =>
  rw[R.bind_ok,R.bind_ok]
  cases compL b.2 (fun v h=>evE true F (ρ.set i v) elt h) (fun v h=>evC true F (ρ.set i v) cond h) b.1 h with
  |ok r h =>
   dsimp only;unfold mkL
   by_cases hl:r.length≤1000000
   ·rw[zT hl,zT hl];rfl
   ·rw[zR hl,zR hl];rfl
  |_=>rfl
 |_=>rfl
theorem zhy {elt:PE}{i:Nat}{it:PIt}{cond:Option PE}{e iter:Expr}{x:Str}{px pos pos':Pos}{ifs:List Expr}{scope:Scope}(hset:isSet iter=false) (hsc:zcY c x scope=true) (hi:c.ctx.all (fun p=>p.2 != i)=true)
  (hit:ItJ am n F c it iter) (helt:EJ am n true F (c.inner x i scope) elt e) (hcond:CJ am n F (c.inner x i scope) cond ifs)
  {cx:Cx}{ρ:List V}{A:Around}{res π:List Addr}{Hc:H}{s:Shared}(B:Base am n true F c cx ρ A) (st:St (am.at res) true cx ρ π Hc A s) :
  itemsR F ρ elt i it cond Hc=.bad∨∀ {use:Option (Value→Sem Unit)}{Q:Value→Shared→Prop}{E:Value→Shared→Prop},
   (∀ c' H' y s',itemsR F ρ elt i it cond Hc=.err c' H'→ErP (am.at res) cx.sk π s (.err c' H':R V) y s'→E y s') →
   (∀ rs Hf D C s',itemsR F ρ elt i it cond Hc=.ok rs Hf→rs.length≤1000000→LoopEnd (am.at res) cx.sk π s rs Hf D C s'→compPost am.M A E use Q (.ref D) C (.ok .next) s') →
   wpAny am.M A (comprehension (.ListComp e [⟨.Name x px,iter,ifs,0⟩] scope pos) scope cx.env pos' (newList []) false (eval iter cx.env) use) Q E s:=by
 by_cases hb:itemsR F ρ elt i it cond Hc=.bad
 ·exact .inl hb
 refine .inr fun {use Q E} he hq=>?_;have hs:=zjj hsc;refine hold fun z k_=>?_;obtain⟨cl,hclos,hcl1,hcl2⟩:=zgM (scope:=scope) (env:=cx.env) (fun p hp hf=>B.cxk.clos p.1 (by
  unfold Env.kindOf;rw[B.ck.names];exact hs.free p hp hf))
 refine k_ ?_;have erp:∀ y s',ErP (am.at res) cx.sk π s (evIt true F ρ it Hc) y s'→E y s':=fun y s' h=>by
  obtain⟨c',H'',π',e',C,fl,hh,r2,r3,r4,r5,r6⟩:=h;exact he c' H'' y s' (by unfold itemsR;rw[hh];rfl) ⟨c',H'',π',e',C,fl,rfl,r2,r3,r4,r5,r6⟩
 rcases hit B st with hI|hI
 ·exact absurd (by unfold itemsR;rw[hI];rfl) hb
 refine wpAny_comprehension_free (use:=use) rfl (zed hset cx.env) hclos hs.kind (fun y hy hl=>(hs.loc y hy hl).2) (yV hI (fun xv s₁ h₁=>yV h₁ (fun itv s₂ h₂=>?_) erp) erp);refine hold fun z k_=>?_;obtain⟨⟨vs,wt⟩,H1,π1,e1,e2,e3,e4⟩:=h₂;obtain⟨rs,Hf,e5,e6,e7⟩:=zl3 hb e1;refine k_ ?_;exact zkD (RR:=fun acc C=>compPost am.M A E use Q acc C) B st e2 e3 e4 hs hi helt hcond hcl1 hcl2 e5 e6 fun D C s' le=>hq rs Hf D C s' e7 e6 le
theorem zoW {elt:PE}{i:Nat}{it:PIt}{cond:Option PE}{e iter:Expr}{x:Str}{px pos:Pos}{ifs:List Expr}{scope:Scope}(hset:isSet iter=false) (hsc:zcY c x scope=true) (hi:c.ctx.all (fun p=>p.2 != i)=true)
  (hit:q=true→ItJ am n F c it iter) (helt:q=true→EJ am n true F (c.inner x i scope) elt e) (hcond:q=true→CJ am n F (c.inner x i scope) cond ifs) :
  FJ am n q F c (.comp elt i it cond) (.ListComp e [⟨.Name x px,iter,ifs,0⟩] scope pos):=fun {cx ρ A res π Hc s} B st=>by
 cases q with
 |false=>exact .inl (by rw[zpY,zT (by decide)])
 |true =>
  rcases zhy (px:=px) (pos:=pos) (pos':=firstIterPos [⟨.Name x px,iter,ifs,0⟩] pos) hset hsc hi (fun B st=>hit rfl B st) (fun B st=>helt rfl B st) (fun B st=>hcond rfl B st) B st with h|h
  ·exact .inl (by rw[zba,h];rfl)
  ·refine .inr (h (use:=none) (fun c' H' y s' e z=>by rw[zba,e];exact z) fun rs Hf D C s' e hl le=>?_)
   refine hold fun u k_=>?_;obtain⟨π',xs,m,_,_,_,_,h5,_⟩:=le.rest;refine k_ ?_;refine⟨m,h5,fun h' sb=>?_⟩;rw[zba,e];exact le.fr hl (tk:=s'.toks) fun b o hb q=>sb.extBut b o hb q
theorem zgg {h h':Heap}{C:Addr}(e:zcs h C) (k:∀ b o,h.get? b=some o→h'.get? b=some o):zcs h' C:=by
 refine hold fun z k_=>?_;obtain⟨nm,qn,N,bs,bm,hdct,sn,sub,ab,col,dd,k0,k1,k2,k3,k5,mN,r1,r2,r3,r4⟩:=e;refine k_ ?_;exact⟨nm,qn,N,bs,bm,hdct,sn,sub,ab,col,dd,k0,k1,k2,k3,k5,mN,k _ _ r1,zbZ k r2,r3,r4.keeps k⟩
theorem zkp {prog:Program}{w:World}{A:Around}{E:Value→Shared→Prop}{Q:Option Value→Shared→Prop}{s:Shared}{K:Frag}{x D:Addr}{ox:Obj}(X:K.In s.heap) (I:InstAt s.heap x ox D none) (R:zcs s.heap D)
  (hga:findIn K (.ref D) "__getattribute__"=some (some (.builtin "BaseException.__getattribute__"))) (hgh:findIn K (.ref D) "__getattr__"=some none)
  (hf:findObj K D none "__class__"=some (.bind (.builtin "getset_descriptor.__get__") (.builtin "object.__class__"))) (hm:mroIn K D (.type "object")=some true)
  (h:Q (some (.ref D)) { s with toks:=s.toks+1 }):wpAny (model prog w) A (getAttr? (.ref x) "__class__") Q E s:=by
 refine hold fun z k_=>?_;obtain⟨hh,g,d,t,os⟩:=s;refine k_ ?_;refine hold fun z k_=>?_;obtain⟨nm,qn,N,bs,bm,hdct,sn,sub,ab,col,dd,k0,k1,k2,k3,k5,mN,r1,r2,r3,r4⟩:=R;refine k_ ?_;have L0:=I.type (M:=model prog w);have L1:=looks_findIn (M:=model prog w) X hga;have L2:=looks_findIn (M:=model prog w) X hgh;have L3:=looks_find (M:=model prog w) X I hf;have f3:=F.attrBase_ValueError.ga.bind (.ref x);unfold getAttr? getAttrBy? getAttrBy
 refine yX (wpAny_mkText (yX (wpAny_attempt (yU (yX (L0.at (yX (L1.at ?_))))))));have hx2:(Value.builtin "BaseException.__getattribute__" == Value.builtin "object.__getattribute__")=false:=by decide +kernel
 dsimp only;rw[zR (by rw[hx2];simp)]
 unfold getAttrByItsOwn hookBefore;refine yX ?_;rw[zT (show onTheHeap (Value.ref D)=true from rfl)];refine L2.at ?_;refine yX (wpAny_attempt (yU ?_));unfold callGetattribute;rw[zR (by simp)]
 unfold boundAndCalled;rw[f3];refine yX (yW ?_);refine wpAny_call (codeAny_call_builtin F.attrBase_ValueError.ga.plain F.entry_bexc_ga (wpAny_check_ga_own F.attrBase_ValueError r1 r4 I.1 I.2 ?_));unfold Builtin.«object.__getattribute__»
 refine yX (wpAny_of_eq (a:=(.ref x,[.str (Str.ofString "__class__") t])) rfl ?_);dsimp only;refine yX (wpAny_of_eq (a:=Str.ofString "__class__") rfl ?_);refine yX (L0.at (yX (L3.at ?_)));dsimp only;unfold Builtin.ObjectAttr.bindTo;dsimp only;refine yX (yU (wpAny_call (class_get (s:=⟨hh,g,d,t+1,os⟩) (ox:=ox) (od:=none) X I hm ?_)));refine yW ?_
 exact handed_on rfl (yW h)
set_option tactic.hygienic true in
theorem zdT {K:Frag}{D:Addr}(hc:(clsIn K D).isSome=true):∃ c d cd sl,K.lookup D=some ⟨c,d,.cls cd,sl⟩:=by
 unfold clsIn at hc
 split at hc
 ·rename_i ho;exact⟨_,_,_,_,ho⟩
 ·cases hc
theorem zlS {K:Frag}{x D:Addr}{ox:Obj}(hg:findIn K (.ref D) "__getattribute__"=some (some (.builtin "BaseException.__getattribute__"))∧findIn K (.ref D) "__getattr__"=some none) (hc:(clsIn K D).isSome=true) (ha:findIn K (.ref D) "__class__"=some (some (.builtin "object.__class__")))
  (hn:specialIn K (.builtin "object.__class__") "__get__"=some (some (.builtin "getset_descriptor.__get__"))) (htk:takesIn K (.builtin "object.__class__")=some true) (hm:mroIn K D (.type "object")=some true) :
  KitX K (.ref x) (.ref D) (fun h=>InstAt h x ox D none∧zcs h D) where
 ty:=fun y y y I=>I.1.type
 it:=fun y y X y=>by
  obtain⟨_,_,_,_,ho⟩:=zdT hc;intro A' Q' E' s' k q;unfold isType loadHead;exact yX (wpAny_loadPart (k _ _ (X _ _ ho)) (yW q))
 ne:=fun h tp dd its n sl X htp=>by
  refine Bool.eq_false_iff.mpr fun q=>?_;have e:D=tp:=Value.ref.inj (beq_iff_eq.mp q);subst e;obtain⟨_,_,_,_,ho⟩:=zdT hc;have z:=(X _ _ ho).symm.trans htp
  cases z
 ca:=fun {prog w A E Q s} X I k=>by
  have hf:findObj K D none "__class__"=some (.bind (.builtin "getset_descriptor.__get__") (.builtin "object.__class__")):=by
   obtain⟨cd,hc⟩:=Option.isSome_iff_exists.mp hc;unfold findObj;rw[hc,Option.bind_some,ha,Option.bind_some];show((specialIn K (.builtin "object.__class__") "__get__").bind _)=_;rw[hn,Option.bind_some];show((takesIn K (.builtin "object.__class__")).bind _)=_;rw[htk];rfl
  exact zkp X I.1 I.2 hg.1 hg.2 hf hm k
set_option tactic.hygienic true in
theorem zmr {i:Nat}{t:Ty}{x:Str}{y:Expr}{p p' p2:Pos}(hx:c.glob "isinstance"=true) (hv:c.var x i=true) (hk:ckTy c t y=true) :
  EJ am n q F c (.isexc i t) (.Call (.Name "isinstance" p) [.Name x p2,y] [] p'):=fun {cx ρ A res π Hc s} B st=>by
 simp -iota only[zrB]
 cases hρ:ρ[i]? with
 |none=>exact .inl rfl
 |some v =>
  cases v with
  |exc d =>
   simp only
   cases hb:isExc d t with
   |none=>exact .inl rfl
   |some b =>
    refine .inr (zaq (v:=.builtin "isinstance") B st.hr hx (zbI (by kernel_rfl)) (by
     intro z hz;rcases zN.mp hz with rfl|hz
     ·rfl
     ·exact zg0 (c:=c) (ts:=[t]) (xs:=[y]) (yK.2 ⟨hk,rfl⟩) z hz) (spl2 (ziP B st hv hρ (by simp) fun v' hs=>?_)))
    rcases hs with hs|⟨d',a,h1,rfl,h3,C,o,vs,h4,h5,h6,h7,h8,h9⟩
    ·exact hs.elim
    cases h1
    unfold isExc at hb
    split at hb
    ·rename_i hd
     have hdm:d∈zaf:=by simpa using hd
     obtain⟨C',X⟩:=B.ok.exc d hdm;have hCC:C'=C:=by have:=X.name.symm.trans h4;cases this;rfl
     subst hCC;have Z:=zlS (x:=a) (ox:=o) X.get X.cls X.find X.spec X.takes X.mro;have I:InstAt s.heap a o C' none∧zcs s.heap C':=⟨⟨h5,h6.1,by unfold notCls;rw[h7],by rw[h6.2];trivial⟩,zgg (B.ok.rs d hdm C' X.name) st.hr.base⟩
     obtain⟨pz,rfl,hk'⟩:=zeM hk
     clear hk
     have hk:=hk'
     cases t with
     |valueError =>
      cases hb
      exact znu B st.hr hk (zbI (by kernel_rfl)) (kia_one Z (B.ok.K.keeps st.hr.base) I X.val (by simp) fun tk=>OkP.tok st.hr rfl)
     |own d2 =>
      simp only at hb
      split at hb
      ·rename_i hd2
       cases hb
       have hdm2:d2∈zaf:=by simpa using hd2
       obtain⟨D,Y⟩:=B.ok.exc d2 hdm2;exact zca B st.hr hk Y.name (kia_one Z (B.ok.K.keeps st.hr.base) I (B.ok.sub d hdm d2 hdm2 C' D X.name Y.name) (by simp) fun tk=>OkP.tok st.hr rfl)
      ·cases hb
     |_=>cases hb
    ·cases hb
  |_=>exact .inl rfl
theorem zmu (hx:c.glob (Str.ofString f)=true) (hf:f∈c.fns) (hv:c.var x i=true) :
  EJ am n q F c (.callX f i) (.Call (.Name (Str.ofString f) p) [.Name x p2] [] p'):=fun {cx ρ A res π Hc s} B st=>by
 simp -iota only[zrA]
 cases hρ:ρ[i]? with
 |none=>exact .inl rfl
 |some v =>
  cases v with
  |exc d =>
   obtain⟨a,fa⟩:=B.ck.fns f hf;refine hold fun y k_=>?_;obtain⟨ga,o,fd,ho,hd⟩:=id fa;refine k_ ?_;have hq:q=false:=by
    cases q with
    |false=>rfl
    |true=>exact absurd rfl ((B.ne rfl) _ (mem_of_getElem? hρ) d)
   simp only;have J:∀ v',SR (am.at res) π s.heap (.exc d) v'→JAt (am.at res) cx.sk A (PySem.call (.ref a) [v'] []) (Mine.Internal.pcall Hc (F q f [.exc d] Hc)) (VR (am.at res)) π s:=fun v' hs=>by
    rcases hs with hs|⟨d',b,h1,rfl,h3,h4⟩
    ·exact hs.elim
    cases h1
    exact JAt.pcall st.hr (B.fn.call res q f a _ _ cx.sk A π Hc s fa B.as st.hr st.hd (.inr ⟨hq,d,b,rfl,rfl,h3,h4⟩))
   by_cases hbad:Mine.Internal.pcall Hc (F q f [.exc d] Hc)=.bad
   ·exact .inl hbad
   ·refine .inr (wpAny_Call_Name_kw (zca B st.hr hx ga ?_))
    rw[zae _ (fun z hz=>by rw[zK.mp hz];rfl)]
    refine Calls.callWith_function (o:=o) (fd:=fd) (Calls.evalArgs_plain (spl1 (ziP B st hv hρ (by simp) fun v' hs=>⟨⟨st.hr.base a o ho,hd⟩,?_⟩)))
    rcases J v' hs with h|h
    ·exact absurd h hbad
    ·exact h
  |_=>exact .inl rfl
end
section
variable {am:Amb}{n:Nat}{F:Fn}
def PJ (am:Amb) (n:Nat) (q:Bool) (F:Fn) (c:Ck) (e:PE) (x:Expr):Prop:=EJ am n q F c e x∧TJ am n q F c e x
theorem EJ.both (h:EJ am n q F c e x) (hp:zbY x=true):PJ am n q F c e x:=⟨h,h.test hp⟩
def OJ (am:Amb) (n:Nat) (q:Bool) (F:Fn) (c:Ck) (e:PE) (x:Expr):Prop:=freshE e=true→EJ am n q F c (.own e) x∧zbY x=true
theorem zmj (h:freshE (.bf f a)=true) (h2:f≠.listRange):f=.list∨f=.listRev:=by
 cases f<;>first|exact .inl rfl|exact .inr rfl|exact absurd rfl h2|exact noB h
def XJ (am:Amb) (n:Nat) (q:Bool) (F:Fn) (c:Ck) (e:PE) (x:Expr):Prop:=PJ am n q F c e x∧OJ am n q F c e x
theorem zqp   (h:ckE c (.none) x=true):XJ am n q F c (.none) x:=by
 refine za9 (G:=XJ am n q F c (.none)) h fun k p y=>?_;exact⟨EJ.both zo0 rfl,fun z=>by cases z⟩
theorem zqv  (h:ckE c (.bool b) x=true):XJ am n q F c (.bool b) x:=by
 refine za9 (G:=XJ am n q F c (.bool b)) h fun k p y=>?_;exact⟨EJ.both zo4 rfl,fun z=>by cases z⟩
theorem zrY  (h:ckE c (.int i) x=true):XJ am n q F c (.int i) x:=by
 refine za9 (G:=XJ am n q F c (.int i)) h fun k p y=>?_;exact⟨EJ.both zqS rfl,fun z=>by cases z⟩
theorem zrU  (h:ckE c (.str t) x=true):XJ am n q F c (.str t) x:=by
 refine za9 (G:=XJ am n q F c (.str t)) h fun k p y=>?_;exact⟨EJ.both zqQ rfl,fun z=>by cases z⟩
theorem zrS  (h:ckE c (.v i) x=true):XJ am n q F c (.v i) x:=by
 refine zaR (G:=XJ am n q F c (.v i)) h fun y p hh=>?_;exact⟨EJ.both (zqO hh) rfl,fun z=>by cases z⟩
theorem zqr  (h:ckE c (.glob g i) x=true):XJ am n q F c (.glob g i) x:=by
 refine zbC (G:=XJ am n q F c (.glob g i)) (al h) fun p y=>?_;exact⟨EJ.both (zo1 (al (ar h)) (by simpa using ar (ar h))) rfl,fun z=>by cases z⟩
theorem zr1 (Ia:∀ y,ckE c a y=true→XJ am n q F c a y) (Ib:∀ y,ckE c b y=true→XJ am n q F c b y) (h:ckE c (.bin op a b) x=true):XJ am n q F c (.bin op a b) x:=by
 refine zpf (G:=XJ am n q F c (.bin op a b)) h fun l r p hh=>?_;have ha:=(Ia _ (al hh)).1;have hb:=(Ib _ (ar hh)).1;refine⟨EJ.both (zqV (zW rfl) ha.1 hb.1) rfl,fun z=>?_⟩
 cases op with
 |mul=>exact⟨zod ha.1 hb.1,rfl⟩
 |add=>exact⟨zoe ha.1 hb.1,rfl⟩
 |_=>cases z
theorem zrX  (h:ckE c (.neg i) x=true):XJ am n q F c (.neg i) x:=by
 refine ziZ (G:=XJ am n q F c (.neg i)) h fun y p hh=>?_;refine za9 (G:=fun y=>XJ am n q F c (.neg i) (.UnaryOp .USub y p)) hh fun k p' u=>?_;exact⟨EJ.both znk rfl,fun z=>by cases z⟩
theorem zrW (Ia:∀ y,ckE c a y=true→XJ am n q F c a y) (h:ckE c (.not a) x=true):XJ am n q F c (.not a) x:=by
 refine ziZ (G:=XJ am n q F c (.not a)) h fun y p hh=>?_;have ha:=(Ia _ hh).1;exact⟨⟨zqR ha.1,zpu ha.2⟩,fun z=>by cases z⟩
theorem zr2 (Ies:∀ ys,ckEs c es ys=true→AllJ am n q F c es ys) (h:ckE c (.and es) x=true):XJ am n q F c (.and es) x:=by
 refine zhD (G:=XJ am n q F c (.and es)) h fun ys p hh=>?_;have ha:=Ies _ hh;exact⟨⟨zqW ha,zpw ha⟩,fun z=>by cases z⟩
theorem zst (Ies:∀ ys,ckEs c es ys=true→AllJ am n q F c es ys) (h:ckE c (.or es) x=true):XJ am n q F c (.or es) x:=by
 refine zhD (G:=XJ am n q F c (.or es)) h fun ys p hh=>?_;have ha:=Ies _ hh;exact⟨⟨zr5 ha,zro ha⟩,fun z=>by cases z⟩
theorem zr0 {q:Bool}{c:Ck}{op:Cop}{a b:PE}{x:Expr}(Ia:∀ y,ckE c a y=true→XJ am n q F c a y) (Ib:∀ y,ckE c b y=true→XJ am n q F c b y) (h:ckE c (.cmp op a b) x=true):XJ am n q F c (.cmp op a b) x:=by
 refine zkF (G:=XJ am n q F c (.cmp op a b)) h fun l os rs p hh=>?_;refine zal (G:=fun os=>XJ am n q F c (.cmp op a b) (.Compare l os rs p)) hh fun o hh=>?_;refine zal (G:=fun rs=>XJ am n q F c (.cmp op a b) (.Compare l [o] rs p)) hh fun r hh=>?_;have ha:=(Ia _ (al (ar hh))).1;have hb:=(Ib _ (al (ar (ar hh)))).1;have hs:=nt (ar (ar (ar hh)));exact⟨⟨zqU (al hh) hs ha.1 hb.1,zpv (al hh) hs ha.1 hb.1⟩,fun z=>by cases z⟩
theorem zqt {q:Bool}{c:Ck}{o1 o2:Cop}{a b d:PE}{x:Expr}(Ia:∀ y,ckE c a y=true→XJ am n q F c a y) (Ib:∀ y,ckE c b y=true→XJ am n q F c b y) (Id:∀ y,ckE c d y=true→XJ am n q F c d y) (h:ckE c (.cmp2 o1 o2 a b d) x=true):XJ am n q F c (.cmp2 o1 o2 a b d) x:=by
 refine zkF (G:=XJ am n q F c (.cmp2 o1 o2 a b d)) h fun l os rs p hh=>?_;refine zbl (G:=fun os=>XJ am n q F c (.cmp2 o1 o2 a b d) (.Compare l os rs p)) hh fun u1 u2 hh=>?_;refine zbl (G:=fun rs=>XJ am n q F c (.cmp2 o1 o2 a b d) (.Compare l [u1,u2] rs p)) hh fun r1 r2 hh=>?_;have g1:=al hh;have hh:=ar hh;have g2:=al hh;have hh:=ar hh;have ha:=(Ia _ (al hh)).1;have hh:=ar hh;have hb:=(Ib _ (al hh)).1
 have hh:=ar hh;have hd:=(Id _ (al hh)).1;have hs:=nt (ar hh);exact⟨⟨zo2 g1 g2 hs ha.1 hb.1 hd.1,znC g1 g2 hs ha.1 hb.1 hd.1⟩,fun z=>by cases z⟩
theorem zqq (Ies:∀ ys,ckEs c es ys=true→AllJ am n q F c es ys) (h:ckE c (.list es) x=true):XJ am n q F c (.list es) x:=by
 refine zlP (G:=XJ am n q F c (.list es)) h fun xs p hh=>?_;have ha:=Ies _ hh;exact⟨EJ.both (FJ.ej (zkn ha)) rfl,fun z=>⟨FJ.own (zkn ha),rfl⟩⟩
theorem zrT (Ies:∀ ys,ckEs c es ys=true→AllJ am n q F c es ys) (h:ckE c (.tup es) x=true):XJ am n q F c (.tup es) x:=by
 refine zd4 (G:=XJ am n q F c (.tup es)) h fun xs k p hh=>?_;exact⟨EJ.both (zqP (Ies _ hh)) rfl,fun z=>by cases z⟩
theorem zrZ (Ia:∀ y,ckE c a y=true→XJ am n q F c a y) (Ii:∀ y,ckE c i y=true→XJ am n q F c i y) (h:ckE c (.idx a i) x=true):XJ am n q F c (.idx a i) x:=by
 refine zcd (G:=XJ am n q F c (.idx a i)) h fun v s p hh=>?_;exact⟨EJ.both (zqT (Ia _ (al hh)).1.1 (Ii _ (ar hh)).1.1) rfl,fun z=>by cases z⟩
theorem zrV (Ia:∀ y,ckE c a y=true→XJ am n q F c a y) (h:ckE c (.rev a) x=true):XJ am n q F c (.rev a) x:=by
 refine zcd (G:=XJ am n q F c (.rev a)) h fun v s p hh=>?_;refine ze8 (G:=fun s=>XJ am n q F c (.rev a) (.Subscript v s p)) hh fun l u d p' hh=>?_;refine zb0 (G:=fun l=>XJ am n q F c (.rev a) (.Subscript v (.Slice l u d p') p)) (al hh) ?_;refine zb0 (G:=fun u=>XJ am n q F c (.rev a) (.Subscript v (.Slice none u d p') p)) (al (ar hh)) ?_;refine zbg (G:=fun d=>XJ am n q F c (.rev a) (.Subscript v (.Slice none none d p') p)) (ar (ar (ar hh))) fun e he=>?_
 refine ziZ (G:=fun e=>XJ am n q F c (.rev a) (.Subscript v (.Slice none none (some e) p') p)) he fun y pu he=>?_;refine za9 (G:=fun y=>XJ am n q F c (.rev a) (.Subscript v (.Slice none none (some (.UnaryOp .USub y pu)) p') p)) he fun k pc w=>?_;exact⟨EJ.both (FJ.ej (zoU (Ia _ (al (ar (ar hh)))).1.1)) rfl,fun z=>by cases z⟩
theorem zoA {q:Bool}{c:Ck}{a:PE}{lo hi:Option PE}{x:Expr}(Ia:∀ y,ckE c a y=true→XJ am n q F c a y) (Ilo:∀ y,ckO c lo y=true→OptJ am n q F c lo y) (Ihi:∀ y,ckO c hi y=true→OptJ am n q F c hi y) (h:ckE c (.slice a lo hi) x=true):XJ am n q F c (.slice a lo hi) x:=by
 refine zcd (G:=XJ am n q F c (.slice a lo hi)) h fun v s p hh=>?_;refine ze8 (G:=fun s=>XJ am n q F c (.slice a lo hi) (.Subscript v s p)) hh fun l u d p' hh=>?_;refine zb0 (G:=fun d=>XJ am n q F c (.slice a lo hi) (.Subscript v (.Slice l u d p') p)) (al hh) ?_;have ha:=(Ia _ (al (ar hh))).1;have hl:=Ilo _ (al (ar (ar hh)));have hu:=Ihi _ (ar (ar (ar hh)));exact⟨EJ.both (FJ.ej (zho ha.1 hl hu)) rfl,fun z=>⟨FJ.own (zho ha.1 hl hu),rfl⟩⟩
theorem zlY {q:Bool}{c:Ck}{a:PE}{ts:List Ty}{x:Expr}(Ia:∀ y,ckE c a y=true→XJ am n q F c a y) (h:ckE c (.isinst a ts) x=true):XJ am n q F c (.isinst a ts) x:=by
 refine zay (G:=XJ am n q F c (.isinst a ts)) h fun xs p p' hh=>?_;refine zbl (G:=fun xs=>XJ am n q F c (.isinst a ts) (.Call (.Name "isinstance" p) xs [] p')) hh fun y t hh=>?_;have h1:=al hh;have h2:=al (ar hh);have ha:=(Ia _ h2).1;have h3:=al (ar (ar hh));refine⟨EJ.both ?_ rfl,fun z=>by cases z⟩
 refine zal (G:=fun ts=>ts.all tyPl=true→EJ am n q F c (.isinst a ts) (.Call (.Name "isinstance" p) [y,t] [] p')) (ar (ar (ar hh))) (fun u h4 h3=>?_) h3;exact zkv h1 (al h3) h4 (zau h2) ha.1
theorem zoC {q:Bool}{c:Ck}{i:Nat}{t:Ty}{x:Expr}  (h:ckE c (.isexc i t) x=true):XJ am n q F c (.isexc i t) x:=by
 refine zay (G:=XJ am n q F c (.isexc i t)) h fun xs p p' hh=>?_;refine zbl (G:=fun xs=>XJ am n q F c (.isexc i t) (.Call (.Name "isinstance" p) xs [] p')) hh fun y t' hh=>?_;refine zaR (G:=fun y=>XJ am n q F c (.isexc i t) (.Call (.Name "isinstance" p) [y,t'] [] p')) (al (ar hh)) fun z p2 h2=>?_;exact⟨EJ.both (zmr (al hh) h2 (ar (ar hh))) rfl,fun z=>by cases z⟩
theorem zoE {q:Bool}{c:Ck}{f:String}{i:Nat}{x:Expr}  (h:ckE c (.callX f i) x=true):XJ am n q F c (.callX f i) x:=by
 refine zay (G:=XJ am n q F c (.callX f i)) h fun xs p p' hh=>?_;refine zal (G:=fun xs=>XJ am n q F c (.callX f i) (.Call (.Name (Str.ofString f) p) xs [] p')) hh fun y hh=>?_;refine zaR (G:=fun y=>XJ am n q F c (.callX f i) (.Call (.Name (Str.ofString f) p) [y] [] p')) (ar (ar hh)) fun z p2 h3=>?_;exact⟨EJ.both (zmu (al hh) (List.contains_iff_mem.mp (al (ar hh))) h3) rfl,fun z=>by cases z⟩
theorem zsu {q:Bool}{c:Ck}{f:Bf}{a:PE}{x:Expr}(Ia:∀ y,ckE c a y=true→XJ am n q F c a y) (h:ckE c (.bf f a) x=true):XJ am n q F c (.bf f a) x:=by
 refine zay (G:=XJ am n q F c (.bf f a)) h fun xs p p' hh=>?_;refine zal (G:=fun xs=>XJ am n q F c (.bf f a) (.Call (.Name (bfName f) p) xs [] p')) hh fun y hh=>?_;have h1:=al hh;have h2:=ar hh
 by_cases hr:f=.listRev
 ·subst hr
  refine zay (G:=fun y=>XJ am n q F c (.bf .listRev a) (.Call (.Name (bfName .listRev) p) [y] [] p')) h2 fun xs p2 p2' hh=>?_;refine zal (G:=fun xs=>XJ am n q F c (.bf .listRev a) (.Call (.Name (bfName .listRev) p) [.Call (.Name "reversed" p2) xs [] p2'] [] p')) hh fun y' hh=>?_;have ha:=(Ia _ (ar hh)).1;exact⟨EJ.both (FJ.ej (znf h1 (al hh) (zau (ar hh)) ha.1)) rfl,fun u=>⟨FJ.own (znf h1 (al hh) (zau (ar hh)) ha.1),rfl⟩⟩
 by_cases hr2:f=.listRange
 ·subst hr2
  refine zay (G:=fun y=>XJ am n q F c (.bf .listRange a) (.Call (.Name (bfName .listRange) p) [y] [] p')) h2 fun xs p2 p2' hh=>?_;refine zal (G:=fun xs=>XJ am n q F c (.bf .listRange a) (.Call (.Name (bfName .listRange) p) [.Call (.Name "range" p2) xs [] p2'] [] p')) hh fun y' hh=>?_;exact⟨EJ.both (FJ.ej (zhp h1 (al hh) (zau (ar hh)) (Ia _ (ar hh)).1.1)) rfl,fun u=>⟨FJ.own (zhp h1 (al hh) (zau (ar hh)) (Ia _ (ar hh)).1.1),rfl⟩⟩
 ·have h2':ckE c a y=true:=by cases f<;>first|exact h2|(exact absurd rfl hr)|(exact absurd rfl hr2)
  have ha:=(Ia _ h2').1;refine⟨EJ.both (zr6 ⟨hr,hr2⟩ h1 (zau h2') ha.1) rfl,fun z=>?_⟩
  rcases zmj z hr2 with hf|hf
  ·subst hf
   exact⟨FJ.own (zko h1 (zau h2') ha.1),rfl⟩
  ·exact(hr hf).elim
theorem zqs {q:Bool}{c:Ck}{elt:PE}{i:Nat}{it:PIt}{cond:Option PE}{x:Expr}(Ielt:∀ c y,ckE c elt y=true→XJ am n true F c elt y) (Iit:∀ y,ckIt c it y=true→ItJ am n F c it y) (Icond:∀ c ys,ckC c cond ys=true→CJ am n F c cond ys) (h:ckE c (.comp elt i it cond) x=true):XJ am n q F c (.comp elt i it cond) x:=by
 refine zm9 (G:=XJ am n q F c (.comp elt i it cond)) h fun e gs sc p hh=>?_;refine zkf (G:=fun gs=>XJ am n q F c (.comp elt i it cond) (.ListComp e gs sc p)) hh fun y iter ifs p' hh=>?_;have f:FJ am n q F c (.comp elt i it cond) (.ListComp e [⟨.Name y p',iter,ifs,0⟩] sc p):=fun {cx ρ A res π Hc s}=>by
  have h1:=al hh;have hh:=ar hh;have h2:=nt (al hh);have hh:=ar hh;have h3:=al hh;have hh:=ar hh;have h4:=al hh;have hh:=ar hh;exact zoW (q:=q) h2 h3 h4 (fun z=>Iit _ h1) (fun z=>(Ielt _ _ (al hh)).1.1) (fun z=>Icond _ _ (ar hh))
 exact⟨EJ.both (FJ.ej (fun {cx ρ A res π Hc s}=>f)) rfl,fun z=>⟨FJ.own (fun {cx ρ A res π Hc s}=>f),rfl⟩⟩
theorem zqu (Iargs:∀ ys,ckEs c args ys=true→AllJ am n q F c args ys) (h:ckE c (.call k f args) x=true):XJ am n q F c (.call k f args) x:=by
 refine zay (G:=XJ am n q F c (.call k f args)) h fun xs p p' hh=>?_;have ha:=Iargs _ (al (ar (ar hh)))
 cases xs with
 |nil=>cases args with
  |nil=>exact noB (ar (ar (ar hh)))
  |cons _ _=>exact ha.elim
 |cons y ys=>exact⟨EJ.both (zo3 (al hh) (List.contains_iff_mem.mp (al (ar hh))) ha) rfl,fun z=>by cases z⟩
theorem zlZ {q:Bool}{c:Ck}{o a:PE}{x:Expr}(Io:∀ y,ckE c o y=true→XJ am n q F c o y) (Ia:∀ y,ckE c a y=true→XJ am n q F c a y) (h:ckE c (.append o a) x=true):XJ am n q F c (.append o a) x:=by
 refine zcI (G:=XJ am n q F c (.append o a)) h fun v xs p p' h2 hh=>?_;refine zal (G:=fun xs=>XJ am n q F c (.append o a) (.Call (.Attribute v "append" p) xs [] p')) hh fun y hh=>?_;exact⟨EJ.both (zkw (al hh) h2 (nt (ar (ar (ar hh)))) (Io _ (al (ar hh))).1.1 (Ia _ (al (ar (ar hh)))).1.1) rfl,fun z=>by cases z⟩
theorem zoD {q:Bool}{c:Ck}{o:PE}{x:Expr}(Io:∀ y,ckE c o y=true→XJ am n q F c o y) (h:ckE c (.clear o) x=true):XJ am n q F c (.clear o) x:=by
 refine zcI (G:=XJ am n q F c (.clear o)) h fun v xs p p' h2 hh=>?_;refine zaI (G:=fun xs=>XJ am n q F c (.clear o) (.Call (.Attribute v "clear" p) xs [] p')) (ar (ar hh)) ?_;exact⟨EJ.both (zmt (al hh) h2 (Io _ (al (ar hh))).1.1) rfl,fun z=>by cases z⟩
theorem zoB (Io:∀ y,ckE c o y=true→XJ am n q F c o y) (Ia:∀ y,ckE c a y=true→XJ am n q F c a y) (h:ckE c (.popAt o a) x=true):XJ am n q F c (.popAt o a) x:=by
 refine zcI (G:=XJ am n q F c (.popAt o a)) h fun v xs p p' h2 hh=>?_;refine zal (G:=fun xs=>XJ am n q F c (.popAt o a) (.Call (.Attribute v "pop" p) xs [] p')) hh fun y hh=>?_;exact⟨EJ.both (zmq (al hh) h2 (nt (ar (ar (ar hh)))) (Io _ (al (ar hh))).1.1 (Ia _ (al (ar (ar hh)))).1.1) rfl,fun z=>by cases z⟩
theorem zlX (Io:∀ y,ckE c o y=true→XJ am n q F c o y) (Ia:∀ y,ckE c a y=true→XJ am n q F c a y) (Id:∀ y,ckE c d y=true→XJ am n q F c d y) (h:ckE c (.setdef o a d) x=true):XJ am n q F c (.setdef o a d) x:=by
 refine zcI (G:=XJ am n q F c (.setdef o a d)) h fun v xs p p' h2 hh=>?_;refine zbl (G:=fun xs=>XJ am n q F c (.setdef o a d) (.Call (.Attribute v "setdefault" p) xs [] p')) hh fun y z hh=>?_;exact⟨EJ.both (zku (al hh) h2 (nt (al (ar (ar (ar (ar hh)))))) (nt (ar (ar (ar (ar (ar hh)))))) (Io _ (al (ar hh))).1.1 (Ia _ (al (ar (ar hh)))).1.1 (Id _ (al (ar (ar (ar hh))))).1.1) rfl,fun z=>by cases z⟩
theorem zj0 {q:Bool}{c:Ck}{x:Expr}(h:ckE c .newDict x=true):XJ am n q F c .newDict x:=by
 refine zmx (G:=XJ am n q F c .newDict) h fun ks vs p hh=>?_;refine zaI (G:=fun ks=>XJ am n q F c .newDict (.Dict ks vs p)) (al hh) ?_;refine zaI (G:=fun vs=>XJ am n q F c .newDict (.Dict [] vs p)) (ar hh) ?_;exact⟨EJ.both ziu rfl,fun z=>by cases z⟩
mutual
theorem zac (q:Bool):∀ (c:Ck) (e:PE) (x:Expr),ckE c e x=true→XJ am n q F c e x
 |c,.none,x,h=>zqp  h
 |c,.bool b,x,h=>zqv  h
 |c,.int i,x,h=>zrY  h
 |c,.str t,x,h=>zrU  h
 |c,.v i,x,h=>zrS  h
 |c,.glob g i,x,h=>zqr  h
 |c,.bin op a b,x,h=>zr1 (zac q c a) (zac q c b) h
 |c,.neg i,x,h=>zrX  h
 |c,.not a,x,h=>zrW (zac q c a) h
 |c,.and es,x,h=>zr2 (zcn q c es) h
 |c,.or es,x,h=>zst (zcn q c es) h
 |c,.cmp op a b,x,h=>zr0 (zac q c a) (zac q c b) h
 |c,.cmp2 o1 o2 a b d,x,h=>zqt (zac q c a) (zac q c b) (zac q c d) h
 |c,.list es,x,h=>zqq (zcn q c es) h
 |c,.tup es,x,h=>zrT (zcn q c es) h
 |c,.idx a i,x,h=>zrZ (zac q c a) (zac q c i) h
 |c,.slice a lo hi,x,h=>zoA (zac q c a) (znn q c lo) (znn q c hi) h
 |c,.rev a,x,h=>zrV (zac q c a) h
 |c,.isinst a ts,x,h=>zlY (zac q c a) h
 |c,.isexc i t,x,h=>zoC  h
 |c,.callX f i,x,h=>zoE  h
 |c,.bf f a,x,h=>zsu (zac q c a) h
 |c,.comp elt i it cond,x,h=>zqs (fun c=>zac true c elt) (zgN c it) (fun c=>zno c cond) h
 |c,.call k f args,x,h=>zqu (zcn q c args) h
 |c,.own a,x,h=>by
  obtain⟨h0,h⟩:=yK.mp h;obtain⟨h1,h2⟩:=(zac q c a x h).2 h0;exact⟨h1.both h2,fun z=>by cases z⟩
 |c,.newDict,x,h=>zj0 h
 |c,.append o a,x,h=>zlZ (zac q c o) (zac q c a) h
 |c,.clear o,x,h=>zoD (zac q c o) h
 |c,.remove ..,x,h=>by cases h
 |c,.pop ..,x,h=>by cases h
 |c,.popAt o a,x,h=>zoB (zac q c o) (zac q c a) h
 |c,.get ..,x,h=>by cases h
 |c,.setdef o a d,x,h=>zlX (zac q c o) (zac q c a) (zac q c d) h
 |c,.dict1 ..,x,h=>by cases h
theorem zcn (q:Bool):∀ (c:Ck) (es:List PE) (xs:List Expr),ckEs c es xs=true→AllJ am n q F c es xs
 |c,[],xs,h=>zaI (G:=fun xs=>AllJ am n q F c [] xs) h trivial
 |c,e::es,xs,h=>by
  cases xs with
  |nil=>cases h
  |cons x xs =>
   have h:(!isStar x&&(ckE c e x&&ckEs c es xs))=true:=h;exact⟨⟨nt (al h),(zac q c e x (al (ar h))).1⟩,zcn q c es xs (ar (ar h))⟩
theorem znn (q:Bool):∀ (c:Ck) (e:Option PE) (x:Option Expr),ckO c e x=true→OptJ am n q F c e x
 |c,none,x,h=>zb0 (G:=fun x=>OptJ am n q F c none x) h trivial
 |c,some e,x,h=>zbg (G:=fun x=>OptJ am n q F c (some e) x) h fun x h=>show EJ am n q F c e x from fun {cx ρ A res π Hc s}=>(zac q c e x h).1.1
theorem zno:∀ (c:Ck) (e:Option PE) (xs:List Expr),ckC c e xs=true→CJ am n F c e xs
 |c,none,xs,h=>zaI (G:=fun xs=>CJ am n F c none xs) h zo9
 |c,some e,xs,h=>zal (G:=fun xs=>CJ am n F c (some e) xs) h fun y h=>zo8 (zac true c e _ h).1.2
theorem zgN:∀ (c:Ck) (it:PIt) (x:Expr),ckIt c it x=true→ItJ am n F c it x
 |c,.seq e,x,h=>by
  have hp:=(zac true c e _ h).1;exact zqy hp.1
 |c,.range1 a,x,h=>by
  refine zay (G:=ItJ am n F c (.range1 a)) h fun xs p p' hh=>?_;refine zal (G:=fun xs=>ItJ am n F c (.range1 a) (.Call (.Name "range" p) xs [] p')) hh fun y hh=>?_;have hp:=(zac true c a _ (ar hh)).1;exact fun {cx ρ A res π Hc s}=>zj6 (al hh) (zau (ar hh)) hp.1
 |c,.range2 ..,x,h=>by cases h
 |c,.range3 a b d,x,h=>by
  refine zay (G:=ItJ am n F c (.range3 a b d)) h fun xs p p' hh=>?_;refine zi2 (G:=fun xs=>ItJ am n F c (.range3 a b d) (.Call (.Name "range" p) xs [] p')) hh fun y z w hh=>?_;have ha:=(zac true c a _ (al (ar hh))).1;have hb:=(zac true c b _ (al (ar (ar hh)))).1;have hd:=(zac true c d _ (ar (ar (ar hh)))).1;have hs:∀ e∈[y,z,w],isStar e=false:=List.forall_mem_cons.mpr ⟨zau (al (ar hh)),List.forall_mem_cons.mpr ⟨zau (al (ar (ar hh))),List.forall_mem_cons.mpr ⟨zau (ar (ar (ar hh))),fun u h=>by cases h⟩⟩⟩
  exact fun {cx ρ A res π Hc s}=>zj5 (al hh) hs ha.1 hb.1 hd.1
 |c,.enum ..,x,h=>by cases h
end
end
structure Frm (am:Amb) (cx:Cx) (outer:List Env) (s₀:Shared):Prop where
 top:cx.sk=cx.env::outer∧cx.env.frame=some cx.env.locals
 res:cx.env.locals∈am.res
 base:am.B.get? cx.env.locals=none
 fresh:s₀.heap.get? cx.env.locals=none
 cell:∀ y c,cx.env.cells.lookup y=some c→c∈am.res∧am.B.get? c=none∧s₀.heap.get? c=none
theorem Frm.fs (f:Frm am cx outer s₀):Fs cx.sk=cx.env.locals::Fs outer:=by
 obtain⟨h1,h2⟩:=f.top;rw[h1];simp[Fs,h2]
theorem Step.inn (f:Frm am cx outer s₀) (x:Step (Fs outer) π₀ s₀ π s) (y:Step (Fs cx.sk) π s π' s'):Step (Fs outer) π₀ s₀ π' s':=by
 rw[f.fs] at y;refine⟨?_,⟨fun a o e h1 h2=>?_,fun a o e h1=>?_,fun a o e=>?_⟩,?_⟩
 ·obtain⟨h',tk,e⟩:=x.same
  obtain⟨h'',tk',e'⟩:=y.same;exact⟨h'',tk',by rw[e',e]⟩
 ·refine y.ext.keep a o (x.ext.keep a o e h1 h2) (x.notin e h1) ?_
  rw[zN,not_or];exact⟨(fun q=>by subst q;rw[f.fresh] at e;cases e),h2⟩
 ·obtain⟨sl,h3⟩:=x.ext.slots a o e h1
  obtain⟨sl',h4⟩:=y.ext.slots a _ h3 (x.notin e h1);exact⟨sl',h4⟩
 ·obtain⟨o',h3⟩:=x.ext.alive a o e
  exact y.ext.alive a o' h3
 ·obtain⟨δ,rfl,hδ⟩:=x.grow
  obtain⟨δ',rfl,hδ'⟩:=y.grow;refine⟨δ++δ',by simp,fun a ha=>?_⟩
  rcases zP.mp ha with h1|h1
  ·exact hδ a h1
  ·cases hq:s₀.heap.get? a with
   |none=>rfl
   |some o =>
    obtain⟨o',h3⟩:=x.ext.alive a o hq;have:=hδ' a h1;rw[h3] at this;cases this
theorem za6 (f:Frm am cx outer s₀) (x:Step (Fs outer) π₀ s₀ π s):(ground outer π₀ s₀.heap).StaysIn (ground cx.sk π s.heap):=by
 intro b o e;have h1:=of_hideAll _ e;have hn:b ∉ π₀++Fs outer:=fun hm=>by rw[hideAll_none _ hm] at e;cases e
 rw[zP,not_or] at hn;refine hideAll_get _ (x.ext.keep b o h1 hn.1 hn.2) ?_;rw[zP,not_or,f.fs,zN,not_or];exact⟨x.notin h1 hn.1,(fun q=>by subst q;rw[f.fresh] at h1;cases h1),hn.2⟩
def FlR (am:Amb) (π:List Addr) (h:Heap):Fl→Flow→Prop
 |.next,f=>f=.next
 |.ret v,f=>∃ x,f=.ret x∧VR am π h v x
inductive SOk (am:Amb) (cx:Cx) (outer:List Env) (q:Bool) (A:Around) (π₀:List Addr) (s₀:Shared) (G:List Addr→Shared→Prop) (r:RS) (f:Flow) (s':Shared):Prop
 |mk (fl:Fl) (ρ':List V) (H':H) (π':List Addr) (h1:r=.ok fl ρ' H') (h2:Step (Fs outer) π₀ s₀ π' s') (h3:St am q cx ρ' π' H' A s') (h4:q=true→NoExc ρ') (h5:FlR am π' s'.heap fl f) (h6:G π' s')
inductive SEr (am:Amb) (cx:Cx) (outer:List Env) (q:Bool) (A:Around) (π₀:List Addr) (s₀:Shared) (r:RS) (x:Value) (s':Shared):Prop
 |mk (c:String) (ρ':List V) (H':H) (π':List Addr) (e C:Addr) (fl:Option Value) (h1:r=.err c ρ' H') (h2:x=.ref e) (h3:am.mg (Str.ofString c)=some (.ref C)) (h4:Step (Fs outer) π₀ s₀ π' s') (h5:St am q cx ρ' π' H' A s') (h6:q=true→NoExc ρ') (h7:XAt (ground outer π₀ s₀.heap) s'.heap e (.ref C) fl)
noncomputable def SP (am:Amb) (cx:Cx) (outer:List Env) (q:Bool) (A:Around) (π₀:List Addr) (s₀:Shared) (G:List Addr→Shared→Prop) (T:PT Flow) (r:RS) (s:Shared):Prop :=
 r=.bad∨T (SOk am cx outer q A π₀ s₀ G r) (SEr am cx outer q A π₀ s₀ r) s
section
variable {am:Amb}{n:Nat}{q:Bool}{F:Fn}{c:Ck}{cx:Cx}{ρ:List V}{A:Around}{res:List Addr}{outer:List Env}{π₀:List Addr}{s₀:Shared}{G:List Addr→Shared→Prop}{π:List Addr}{Hc:H}{s:Shared}
structure Stm (am:Amb) (n:Nat) (q:Bool) (F:Fn) (c:Ck) (cx:Cx) (A:Around) (res:List Addr) (outer:List Env) (π₀:List Addr) (s₀:Shared) (G:List Addr→Shared→Prop) (ρ:List V) (π:List Addr) (Hc:H) (s:Shared):Prop where
 b:Base am n q F c cx ρ A
 f:Frm (am.at res) cx outer s₀
 go:Step (Fs outer) π₀ s₀ π s
 st:St (am.at res) q cx ρ π Hc A s
 low:am.B.StaysIn (ground outer π₀ s₀.heap)
 g:G π s
 gk:∀ π s π' s',G π s→Mv res (Fs cx.sk) π s π' s'→G π' s'
theorem Base.set (b:Base am n q F c cx ρ A) (h:q=true→NoExc ρ'):Base am n q F c cx ρ' A:=⟨b.ok,b.fn,b.ck,b.cxk,b.as,h⟩
theorem Stm.step (x:Stm am n q F c cx A res outer π₀ s₀ G ρ π Hc s) (y:Step (Fs cx.sk) π s π' s') (hr:HR (am.at res) cx.sk π' H' s'.heap):Stm am n q F c cx A res outer π₀ s₀ G ρ π' H' s' :=
 ⟨x.b,x.f,x.go.inn x.f y,x.st.step y hr,x.low,x.gk _ _ _ _ x.g (.of y),x.gk⟩
theorem sbindT {α β:Type}{T0:PT α}(hT0:PT.Mono T0){r:R β}{Rel:List Addr→Heap→β→α→Prop}{g:β→H→RS}{T:α→PT Flow}(x:Stm am n q F c cx A res outer π₀ s₀ G ρ π Hc s) (h1:JT (am.at res) cx.sk T0 r Rel π s)
  (h2:∀ a b H' π' s',r=.ok b H'→Stm am n q F c cx A res outer π₀ s₀ G ρ π' H' s'→Rel π' s'.heap b a→SP (am.at res) cx outer q A π₀ s₀ G (T a) (g b H') s') :
  SP (am.at res) cx outer q A π₀ s₀ G (fun Q E s=>T0 (fun a s₁=>T a Q E s₁) E s) (r.st ρ g) s:=by
 rcases h1 with rfl|h1
 ·exact .inl rfl
 ·cases r with
  |bad=>exact .inl rfl
  |err d H' =>
   refine .inr (hT0 _ _ _ _ _ (fun a s' h=>?_) (fun e s' h=>?_) h1)
   ·obtain⟨_,_,_,h,_⟩:=h;cases h
   ·refine hold fun z k_=>?_
    obtain⟨c',H'',π',e',C,fl,h,h2,h3,h4,h5,h6⟩:=h;refine k_ ?_
    cases h
    have y:=x.step h4 h5;exact⟨d,ρ,H',π',e',C,fl,rfl,h2,h3,y.go,y.st,x.b.ne,h6.mono (za6 x.f x.go)⟩
  |ok b H' =>
   by_cases hb:g b H'=.bad
   ·exact .inl hb
   ·refine .inr (hT0 _ _ _ _ _ (fun a s' h=>?_) (fun e s' h=>?_) h1)
    ·refine hold fun z k_=>?_
     obtain⟨b',H'',π',h,h3,h4,h5⟩:=h;refine k_ ?_
     cases h
     rcases h2 a b H' π' s' rfl (x.step h3 h4) h5 with h6|h6
     ·exact absurd h6 hb
     ·exact h6
    ·obtain⟨_,_,_,_,_,_,h,_⟩:=h;cases h
theorem sbind {α β:Type}{m:Sem α}{r:R β}{Rel:List Addr→Heap→β→α→Prop}{g:β→H→RS}{T:α→PT Flow}(x:Stm am n q F c cx A res outer π₀ s₀ G ρ π Hc s) (h1:JAt (am.at res) cx.sk A m r Rel π s)
  (h2:∀ a b H' π' s',r=.ok b H'→Stm am n q F c cx A res outer π₀ s₀ G ρ π' H' s'→Rel π' s'.heap b a→SP (am.at res) cx outer q A π₀ s₀ G (T a) (g b H') s') :
  SP (am.at res) cx outer q A π₀ s₀ G (fun Q E s=>wpAny am.M A m (fun a s₁=>T a Q E s₁) E s) (r.st ρ g) s :=
 sbindT (PT.wp _ _) x h1 h2
theorem SP.rule (h:SP am cx outer q A π₀ s₀ G T r s) (k:∀ Q E,T Q E s→T' Q E s):SP am cx outer q A π₀ s₀ G T' r s:=by
 rcases h with h|h
 ·exact .inl h
 ·exact .inr (k _ _ h)
theorem ER.setLocal {am:Amb}{cx:Cx}{ρ:List V}{π:List Addr}{h h':Heap}{v:Str}{i:Nat}{w:V}{xo:Option Value}{m:Str→Option Value}(er:ER am cx ρ π h) (hm:h.Ns cx.env.locals m) (hn':h'.Ns cx.env.locals (fun y=>if y=v then xo else m y)) (p:Poke cx.env.locals h h') (hres:cx.env.locals∈am.res)
  (hv:cx.ctx.lookup v=some i) (hkl:cx.env.kindOf v=some .local) (uniq:∀ z,cx.ctx.lookup z=some i→z=v) (hw:w≠.uu→∃ xv,xo=some xv∧SR am π h' w xv):ER am cx (ρ.set i w) π h':=by
 have hlt:∀ u,(ρ.set i w)[i]?=some u→u=w:=fun u hu=>by
  have hl:i < ρ.length:=by have:=(List.getElem?_eq_some_iff.mp hu).1;simpa using this
  rw[List.getElem?_set_self hl] at hu;cases hu;rfl
 refine⟨⟨_,hn'⟩,er.locOff,fun z d hd=>?_,er.apart,fun z j u e1 e2 e3 e4=>?_⟩
 ·refine hold fun t k_=>?_
  obtain⟨a1,a2,u,o,ho,r⟩:=er.cellOff z d hd;refine k_ ?_;exact⟨a1,a2,u,o,p d o a2 ho,r⟩
 ·by_cases hj:j=i
  ·subst hj
   have:=uniq z e1;subst this;have:=hlt u e2;subst this;obtain⟨xv,rfl,hs⟩:=hw e3;exact⟨xv,.inl ⟨hkl,_,hn',by simp⟩,hs⟩
  ·have hz:z≠v:=fun q=>by subst q;rw[hv] at e1;cases e1;exact hj rfl
   rw[List.getElem?_set_ne (Ne.symm hj)] at e2;obtain⟨x',e5,e6⟩:=er.var z j u e1 e2 e3 e4;refine⟨x',?_,?_⟩
   ·rcases e5 with⟨k,m',e7,e8⟩|⟨k,d,e7,o,ho,r⟩
    ·refine .inl ⟨k,_,hn',?_⟩
     have hmm:m z=m' z:=by
      refine hold fun t k_=>?_;obtain⟨o1,es1,ep1,a1,a2,a3,a4⟩:=hm;refine k_ ?_;refine hold fun t k_=>?_;obtain⟨o2,es2,ep2,b1,b2,b3,b4⟩:=e7;refine k_ ?_;rw[a1] at b1;cases b1;rw[a2] at b2;cases b2
      rw[←a4 z,← b4 z]
     simp only[hz,if_false];rw[hmm];exact e8
    ·exact .inr ⟨k,d,e7,o,p d o (er.cellOff z d e7).2.1 ho,r⟩
   ·rcases e6 with e6|⟨d,a,f1,f2,f3,C',o,vs,g1,g2,g3,g4,g5⟩
    ·exact .inl (e6.free fun b o hb z=>p b o (fun q=>hb (q ▸ hres)) z)
    ·exact .inr ⟨d,a,f1,f2,f3,C',o,vs,g1,p a o (fun q=>(zgn (Ns.nf hm) g2 g4) q.symm) g2,g3,g4,g5⟩
theorem zhd {c:Ck}{cx:Cx}{v:Str}{i:Nat}(ck:CkR am c cx) (h1:c.ctx.lookup v=some i) (hinj:(c.ctx.map (·.2)).Nodup):∀ z,cx.ctx.lookup z=some i→z=v:=by
 intro z hz;rw[ck.ctx] at hz;have a1:=zaz hz;have a2:=zaz h1;have:∀ (l:List (Str × Nat)),(l.map (·.2)).Nodup→(z,i)∈l→(v,i)∈l→z=v:=by
  intro l
  induction l with
  |nil=>intro _ h _;simp at h
  |cons p l ih =>
   intro hn hz hy;rw[yY,nodup_cons] at hn
   rcases zN.mp hz with hz1|hz2
   ·rcases zN.mp hy with hy1|hy2
    ·rw[←hz1] at hy1;cases hy1;rfl
    ·exact absurd (yQ.mpr ⟨(v,i),hy2,by rw[←hz1]⟩:p.2∈l.map (·.2)) hn.1
   ·rcases zN.mp hy with hy1|hy2
    ·exact absurd (yQ.mpr ⟨(z,i),hz2,by rw[←hy1]⟩:p.2∈l.map (·.2)) hn.1
    ·exact ih hn.2 hz2 hy2
 exact this _ hinj a1 a2
set_option tactic.hygienic true in
theorem zbb (x:Stm am n q F c cx A res outer π₀ s₀ G ρ π Hc s){y:Str}{i:Nat}{v:V}{xv:Value}(hv:VR (am.at res) π s.heap v xv) (hy:c.var y i=true) (hk:c.names.lookup y≠some .free) (hinj:(c.ctx.map (·.2)).Nodup){Q:Unit→Shared→Prop}{E:Value→Shared→Prop}
  (h:∀ s',Stm am n q F c cx A res outer π₀ s₀ G (ρ.set i v) π Hc s'→(∀ C,s₀.heap.get? C=none→C≠cx.env.locals→(∀ z d,cx.env.cells.lookup z=some d→d≠C)→∀ o,s.heap.get? C=some o→s'.heap.get? C=some o)→(∀ b o,b ∉ (am.at res).res→s.heap.get? b=some o→s'.heap.get? b=some o)→Q () s') :
  wpAny am.M A (storeName cx.env y xv) Q E s:=by
 unfold Ck.var at hy;simp only[Bool.and_eq_true,beq_iff_eq,Bool.not_eq_true'] at hy;refine hold fun t k_=>?_;obtain⟨⟨⟨h1,h2⟩,h3⟩,h4⟩:=hy;refine k_ ?_;have ne':q=true→NoExc (ρ.set i v):=fun hq=>(x.b.ne hq).set hv.noexc;have uniq:=zhd x.b.ck h1 hinj;have excOff:∀ {d:String}{a C:Addr}{h':Heap},ExcAt (am.at res) s.heap d a→(∃ o,s.heap.get? C=some o∧∀ us,o.data≠.fields us)→Poke C s.heap h'→ExcAt (am.at res) h' d a:=by
  intro d a C h' e hC p;refine hold fun t k_=>?_;obtain⟨C',o,vs,e1,e2,e3,e4,e5,e6⟩:=e;refine k_ ?_;exact⟨C',o,vs,e1,p a o (fun q=>(zgn hC e2 e4) q.symm) e2,e3,e4,e5,e6⟩
 have hdOff:∀ {C:Addr}{h':Heap},(∃ o,s.heap.get? C=some o∧∀ us,o.data≠.fields us)→Poke C s.heap h'→Hd q A π (Fs cx.sk) h':=by
  intro C h' hC p;have e:=x.st.hd;unfold Hd at e ⊢
  split
  ·rename_i hq;rw[zT hq] at e;exact e
  ·rename_i hq
   rw[zR hq] at e;refine hold fun t k_=>?_;obtain⟨he,o,vs,e1,e2,e3,e4,e5,e6⟩:=e;refine k_ ?_;exact⟨he,o,vs,e1,e2,e3,p he o (fun q=>(zgn hC e4 e5) q.symm) e4,e5,e6⟩
 have main:∀ (C:Addr) (h':Heap) (tk:Nat),C∈(am.at res).res→(am.at res).B.get? C=none→C ∉ π→s₀.heap.get? C=none→(∃ o,s.heap.get? C=some o∧∀ us,o.data≠.fields us)→(∃ o,h'.get? C=some o∧∀ us,o.data≠.fields us)→Poke C s.heap h' →
   ER (am.at res) cx (ρ.set i v) π h'→Stm am n q F c cx A res outer π₀ s₀ G (ρ.set i v) π Hc { s with heap:=h',toks:=tk }:=by
  intro C h' tk c1 c2 c3 c4 c5 c6 p er;exact⟨x.b.set ne',x.f,x.go.poke c4 p,⟨x.st.hr.freed c1 c2 c3 p c6,er,hdOff c5 p⟩,x.low,x.gk _ _ _ _ x.g (Mv.poke (.of (Step.refl _ _ _)) (.inl ⟨c1,let ⟨o,ho,_⟩:=c6;⟨o,ho⟩⟩) p),x.gk⟩
 have srOff:∀ {C:Addr}{h':Heap}{w:V}{u:Value},C∈(am.at res).res→(∃ o,s.heap.get? C=some o∧∀ us,o.data≠.fields us)→Poke C s.heap h'→SR (am.at res) π s.heap w u→SR (am.at res) π h' w u:=by
  intro C h' w u c1 c5 p e
  rcases e with e|⟨d,a,e1,e2,e3,e4⟩
  ·exact .inl (e.free fun b o hb z=>p b o (fun q=>hb (q ▸ c1)) z)
  ·exact .inr ⟨d,a,e1,e2,e3,excOff e4 c5 p⟩
 have hvis:cx.env.kindOf y=some .local∨cx.env.kindOf y=some .cell:=by
  rw[zdd x.b.ck];unfold zf2 at h2;simp only[Bool.or_eq_true,beq_iff_eq] at h2
  rcases h2 with(h2|h2)|h2
  ·exact .inl h2
  ·exact .inr h2
  ·exact absurd h2 hk
 have hlt:∀ w,(ρ.set i v)[i]?=some w→w=v:=fun w hw=>by
  have hl:i < ρ.length:=by have:=(List.getElem?_eq_some_iff.mp hw).1;simpa using this
  rw[List.getElem?_set_self hl] at hw;cases hw;rfl
 have er:=x.st.er
 rcases hvis with hkl|hkc
 ·obtain⟨m,hm⟩:=er.ns
  refine wpAny_storeName_local hkl hm (fun h' hn' sb=>?_) (by simp[x.b.cxk.kind])
  have p:Poke cx.env.locals s.heap h':=fun b o hb e=>sb.extBut b o hb e;exact h _ (main cx.env.locals h' (s.toks+1) x.f.res x.f.base er.locOff x.f.fresh (Ns.nf hm) (Ns.nf hn') p (ER.setLocal (am:=am.at res) er hm hn' p x.f.res (by rw[x.b.ck.ctx];exact h1) hkl uniq fun t=>⟨xv,rfl,.inl (hv.free fun b o hb z=>p b o (fun q=>hb (q ▸ x.f.res)) z)⟩)) (fun C t hC t o ho=>p C o hC ho) (fun b o hb e=>p b o (fun q=>hb (q ▸ x.f.res)) e)
 ·obtain⟨d,hd⟩:=x.b.cxk.clos y (.inl hkc)
  refine hold fun t k_=>?_;obtain⟨a1,a2,u,hcell⟩:=er.cellOff y d hd;refine k_ ?_;obtain⟨f1,f2,f3⟩:=x.f.cell y d hd;have nfc:∀ {h:Heap}{u:Option Value},h.IsCell d u→∃ o,h.get? d=some o∧∀ us,o.data≠.fields us:=fun {h u} hc=>let ⟨o,ho,hdd⟩:=hc;⟨o,ho,fun us q=>by rw[hdd] at q;cases q⟩
  refine wpAny_storeName_cell x.b.cxk.kind hkc hd hcell fun h' hc' sb=>?_;have p:Poke d s.heap h':=fun b o hb e=>sb.extBut b o hb e;refine h _ (main d h' s.toks f1 f2 a1 f3 (nfc hcell) (nfc hc') p ?_) (fun C t t hC o ho=>p C o (fun q=>hC y d hd q.symm) ho) (fun b o hb e=>p b o (fun q=>hb (q ▸ f1)) e);obtain⟨m,hm⟩:=er.ns;refine⟨⟨m,Ns.at hm fun o e=>p _ o (Ne.symm a2) e⟩,er.locOff,fun z d' hd'=>?_,er.apart,fun z j w e1 e2 e3 e4=>?_⟩
  ·refine hold fun t k_=>?_
   obtain⟨b1,b2,u',o,ho,r⟩:=er.cellOff z d' hd';refine k_ ?_
   by_cases hdd:d'=d
   ·subst hdd;exact⟨b1,b2,_,hc'⟩
   ·exact⟨b1,b2,u',o,p d' o hdd ho,r⟩
  ·by_cases hj:j=i
   ·subst hj
    have:=uniq z e1;subst this;have:=hlt w e2;subst this;exact⟨xv,.inr ⟨.inl hkc,d,hd,hc'⟩,.inl (hv.free fun b o hb z=>p b o (fun q=>hb (q ▸ f1)) z)⟩
   ·have hz:z≠y:=fun q=>by
     subst q;rw[x.b.ck.ctx,h1] at e1;cases e1;exact hj rfl
    rw[List.getElem?_set_ne (Ne.symm hj)] at e2;obtain⟨u',e5,e6⟩:=er.var z j w e1 e2 e3 e4;refine⟨u',?_,srOff f1 (nfc hcell) p e6⟩
    rcases e5 with⟨k,m',e7,e8⟩|⟨k,d',e7,o,ho,r⟩
    ·exact .inl ⟨k,m',Ns.at e7 fun o e=>p _ o (Ne.symm a2) e,e8⟩
    ·have hdd:d'≠d:=fun q=>hz (er.apart z y d (q ▸ e7) hd)
     exact .inr ⟨k,d',e7,o,p d' o hdd ho,r⟩
end
theorem ziY {am am':Amb}(k:∀ a,a∈am'.res→a∈am.res){π:List Addr}{h:Heap}:Via am am' π π h h:=⟨fun a o ho z h1 h2=>⟨⟨o.slots,ho⟩,h1,fun q=>h2 (k a q)⟩,fun z z e=>e⟩
theorem VR.sub {am am':Amb}(k:∀ a,a∈am'.res→a∈am.res){π:List Addr}{h:Heap}{v:V}{y:Value}(e:VR am π h v y):VR am' π h v y:=e.via (ziY k)
theorem VRs.sub {am am':Amb}(k:∀ a,a∈am'.res→a∈am.res){π:List Addr}{h:Heap}{vs:List V}{ys:List Value}(e:VRs am π h vs ys):VRs am' π h vs ys:=e.via (ziY k)
theorem HR.sub {am:Amb}{r r':List Addr}(k:∀ a,a∈r'→a∈r){sk:List Env}{π:List Addr}{Hc:H}{h:Heap}(x:HR (am.at r) sk π Hc h):HR (am.at r') sk π Hc h :=
 ⟨x.base,x.frames,x.len,x.nodup,fun a ha=>x.res a (k a ha),x.off,fun i c a h1 h2=>by
  obtain⟨o,xs,e0,e1,e2,e3⟩:=x.cell i c a h1 h2;exact⟨o,xs,e0,e1,e2,e3.sub k⟩⟩
section
variable {am:Amb}{n:Nat}{q:Bool}{F:Fn}{c:Ck}
def SJ (am:Amb) (n:Nat) (q:Bool) (F:Fn) (c:Ck) (p:PS) (x:Stmt):Prop:=∀ ⦃cx:Cx⦄ ⦃ρ:List V⦄ ⦃A:Around⦄ ⦃res:List Addr⦄ ⦃outer:List Env⦄ ⦃π₀:List Addr⦄ ⦃s₀:Shared⦄ ⦃G:List Addr→Shared→Prop⦄ ⦃π:List Addr⦄ ⦃Hc:H⦄ ⦃s:Shared⦄,
 Stm am n q F c cx A res outer π₀ s₀ G ρ π Hc s→SP (am.at res) cx outer q A π₀ s₀ G (fun Q E s=>wpAny am.M A (exec x cx.env) Q E s) (exS q F p ρ Hc) s
def SsJ (am:Amb) (n:Nat) (q:Bool) (F:Fn) (c:Ck) (ps:List PS) (xs:List Stmt):Prop:=∀ ⦃cx:Cx⦄ ⦃ρ:List V⦄ ⦃A:Around⦄ ⦃res:List Addr⦄ ⦃outer:List Env⦄ ⦃π₀:List Addr⦄ ⦃s₀:Shared⦄ ⦃G:List Addr→Shared→Prop⦄ ⦃π:List Addr⦄ ⦃Hc:H⦄ ⦃s:Shared⦄,
 Stm am n q F c cx A res outer π₀ s₀ G ρ π Hc s→SP (am.at res) cx outer q A π₀ s₀ G (fun Q E s=>wpAny am.M A (execs xs cx.env) Q E s) (exSs q F ps ρ Hc) s
theorem SOk.here {G:List Addr→Shared→Prop}(x:Stm am n q F c cx A res outer π₀ s₀ G ρ π Hc s):SOk (am.at res) cx outer q A π₀ s₀ G (.ok .next ρ Hc) .next s :=
 ⟨.next,ρ,Hc,π,rfl,x.go,x.st,x.b.ne,rfl,x.g⟩
theorem zmS:SsJ am n q F c [] []:=fun cx ρ A res outer π₀ s₀ G π Hc s x=>by
 simp only[zrs,zn2];exact .inr (wpAny_execs_nil (SOk.here x))
theorem zjh {G:List Addr→Shared→Prop}(x:Stm am n q F c cx A res outer π₀ s₀ G ρ π Hc s)
  (h1:SP (am.at res) cx outer q A π₀ s₀ G (fun Q E s=>wpAny am.M A (exec y cx.env) Q E s) (exS q F p ρ Hc) s)
  (h2:∀ ρ' π' H' s',Stm am n q F c cx A res outer π₀ s₀ G ρ' π' H' s'→SP (am.at res) cx outer q A π₀ s₀ G (fun Q E s=>wpAny am.M A (execs ys cx.env) Q E s) (exSs q F ps ρ' H') s') :
  SP (am.at res) cx outer q A π₀ s₀ G (fun Q E s=>wpAny am.M A (execs (y::ys) cx.env) Q E s) (exSs q F (p::ps) ρ Hc) s:=by
 rw[zn2]
 rcases h1 with h|h
 ·exact .inl (by rw[h];rfl)
 ·cases hr:exS q F p ρ Hc with
  |bad=>exact .inl rfl
  |err d ρ' H' =>
   rw[hr] at h;refine .inr (wpAny_execs_cons (yV h (fun f s' z=>?_) fun e s' z=>z));obtain⟨_,_,_,_,z,_⟩:=z;cases z
  |ok fl ρ' H' =>
   rw[hr] at h
   cases fl with
   |ret v =>
    refine .inr (wpAny_execs_cons (yV h (fun f s' z=>?_) fun e s' z=>z));refine hold fun u k_=>?_;obtain⟨fl,ρ2,H2,π2,z1,z2,z3,z4,z5,zg⟩:=z;refine k_ ?_
    cases z1
    obtain⟨xv,rfl,z6⟩:=z5;exact⟨_,_,_,_,rfl,z2,z3,z4,⟨xv,rfl,z6⟩,zg⟩
   |next =>
    rw[RS.then_next]
    by_cases hb:exSs q F ps ρ' H'=.bad
    ·exact .inl hb
    ·refine .inr (wpAny_execs_cons (yV h (fun f s' z=>?_) fun e s' z=>?_))
     ·refine hold fun u k_=>?_
      obtain⟨fl,ρ2,H2,π2,z1,z2,z3,z4,z5,zg⟩:=z;refine k_ ?_
      cases z1
      cases z5
      rcases h2 ρ' π2 H' s' ⟨x.b.set z4,x.f,z2,z3,x.low,zg,x.gk⟩ with h3|h3
      ·exact absurd h3 hb
      ·exact h3
     ·obtain⟨_,_,_,_,_,_,_,z,_⟩:=z;cases z
theorem znK (h1:SJ am n q F c p y) (h2:SsJ am n q F c ps ys):SsJ am n q F c (p::ps) (y::ys):=fun cx ρ A res outer π₀ s₀ G π Hc s x=>zjh x (h1 x) fun z z z z x'=>h2 x'
theorem zpF:SJ am n q F c .pass (.Pass p):=fun cx ρ A res outer π₀ s₀ G π Hc s x=>by
 simp -iota only[zru];exact .inr (wpAny_Pass (SOk.here x))
theorem zrq {e:PE}{y:Expr}{p:Pos}(h:EJ am n q F c e y):SJ am n q F c (.ret e) (.Return (some y) p):=fun cx ρ A res outer π₀ s₀ G π Hc s x=>by
 simp -iota only[zpT];refine SP.rule (T:=fun Q E s=>wpAny am.M A (eval y cx.env) (fun v s₁=>Q (.ret v) s₁) E s) (sbind x (h x.b x.st) fun a b H' π' s' z x' hv=>.inr ⟨.ret b,ρ,H',π',rfl,x'.go,x'.st,x'.b.ne,⟨a,rfl,hv⟩,x'.g⟩) fun Q E h=>wpAny_Return_some h
theorem zsi {t:PE}{a b:List PS}{y:Expr}{ys zs:List Stmt}{p:Pos}(ht:TJ am n q F c t y) (ha:SsJ am n q F c a ys) (hb:SsJ am n q F c b zs):SJ am n q F c (.ifs t a b) (.If y ys zs p):=fun cx ρ A res outer π₀ s₀ G π Hc s x=>by
 have e:exS q F (.ifs t a b) ρ Hc=(tr (evE q F ρ t Hc)).st ρ fun v h=>if v then exSs q F a ρ h else exSs q F b ρ h:=by
  simp -iota only[zlh]
  cases evE q F ρ t Hc with
  |ok v h =>
   simp only[tr,R.bind_ok,R.st_ok]
   cases truthy v with
   |none=>rfl
   |some u=>cases u<;>rfl
  |_=>rfl
 rw[e];refine SP.rule (T:=fun Q E s=>wpAny am.M A (isTrue y cx.env (eval y cx.env)) (fun v s₁=>if v then wpAny am.M A (execs ys cx.env) Q E s₁ else wpAny am.M A (execs zs cx.env) Q E s₁) E s) (sbind x (ht x.b x.st) fun v b' H' π' s' z x' hv=>?_) fun Q E h=>wpAny_If h;unfold BR at hv;subst hv
 cases b' with
 |true=>exact ha x'
 |false=>exact hb x'
theorem zc4 (h:CxOK cx):interactive cx.env=false:=by
 unfold interactive;simp[h.kind]
noncomputable def isCall (e:Expr):Bool:=@Expr.casesOn (fun z=>Bool) e (fun z z z=>false) (fun z z z=>false) (fun z z z z=>false) (fun z z z=>false) (fun z z z z=>false) (fun z z z z=>false) (fun z z z=>false) (fun z z z=>false) (fun z z z z=>false) (fun z z z z=>false) (fun z z z z z=>false) (fun z z z z=>false) (fun z z=>false) (fun z z=>false) (fun z z=>false) (fun z z z z=>false) (fun z z z z=>true) (fun z z z z=>false) (fun z z=>false) (fun z z z=>false) (fun z z z=>false) (fun z z z=>false) (fun z z=>false) (fun z z=>false) (fun z z=>false) (fun z z z=>false) (fun z z z z=>false)
theorem zpJ {e:PE}{y:Expr}{p:Pos}(hc:isCall y=true) (h:EJ am n q F c e y):SJ am n q F c (.expr e) (.Expr y p):=fun cx ρ A res outer π₀ s₀ G π Hc s x=>by
 simp -iota only[zrw];exact SP.rule (T:=fun Q E s=>wpAny am.M A (eval y cx.env) (fun z s₁=>Q .next s₁) E s) (sbind x (h x.b x.st) fun a b H' π' s' z x' hv=>.inr (SOk.here x')) fun Q E h=>wpAny_Expr_any h (zc4 x.b.cxk) (by cases y<;>first|rfl|exact noB hc)
noncomputable def isComp (e:Expr):Bool:=@Expr.casesOn (fun z=>Bool) e (fun z z z=>false) (fun z z z=>false) (fun z z z z=>false) (fun z z z=>false) (fun z z z z=>false) (fun z z z z=>false) (fun z z z=>false) (fun z z z=>false) (fun z z z z=>true) (fun z z z z=>true) (fun z z z z z=>true) (fun z z z z=>false) (fun z z=>false) (fun z z=>false) (fun z z=>false) (fun z z z z=>false) (fun z z z z=>false) (fun z z z z=>false) (fun z z=>false) (fun z z z=>false) (fun z z z=>false) (fun z z z=>false) (fun z z=>false) (fun z z=>false) (fun z z=>false) (fun z z z=>false) (fun z z z z=>false)
theorem zbc (h:isComp y=false) (t:Option Expr) (l:Nat) (env:Env):swapsWith y t l env=pure false:=by
 cases y<;>first|rfl|exact noB h.symm
theorem zcZ {i:Nat}{e:PE}{y:Expr}{v:Str}{p p':Pos}(hv:c.var v i=true) (hk:c.names.lookup v≠some .free) (hinj:(c.ctx.map (·.2)).Nodup) (h:EJ am n q F c e y)
  {cx:Cx}{ρ:List V}{A:Around}{res:List Addr}{outer:List Env}{π₀:List Addr}{s₀:Shared}{G:List Addr→Shared→Prop}{π:List Addr}{Hc:H}{s:Shared}(x:Stm am n q F c cx A res outer π₀ s₀ G ρ π Hc s) (hs:swapsWith y (some (.Name v p')) p.line cx.env=pure false) :
  SP (am.at res) cx outer q A π₀ s₀ G (fun Q E s=>wpAny am.M A (exec (.Assign [.Name v p'] y p) cx.env) Q E s) (exS q F (.asg i e) ρ Hc) s:=by
 simp -iota only[zli];refine SP.rule (T:=fun Q E s=>wpAny am.M A (eval y cx.env) (fun w s₁=>wpAny am.M A (storeName cx.env v w) (fun z=>Q .next) E s₁) E s) (sbind x (h x.b x.st) fun a b H' π' s' z x' hw=>?_) fun Q E h=>wpAny_Assign_Name h hs;exact .inr (zbb x' hw hv hk hinj fun s'' x'' z z=>SOk.here x'')
end
section
variable {am:Amb}{A:Around}{s:Shared}
theorem zlb {Q:Unit→Shared→Prop}{E:Value→Shared→Prop}(pl:PL s.heap l xs) (hz:xs.length≤1000000) (hj:place xs.length k=some j)
  (h:Q () { s with heap:=s.heap.update l (Obj.mapSeq (·.setIfInBounds j v)) }):wpAny am.M A (setItem (.ref l) (.int k t) v) Q E s:=by
 refine hold fun z k_=>?_;obtain⟨o,n,ho,_,_,hd⟩:=id pl;obtain⟨h1,h2⟩:=zcE hj;refine k_ ?_;have hl:=pl.is.typeIs;have hx:(List.toArray xs)[j]?=some xs[j]:=by simp[h1]
 unfold setItem;refine yU ?_;refine yX (wpAny_sequenceKey hl (by decide) ?_)
 refine yX (wpAny_callSpecial?_slot (name:=Str.ofString "__setitem__") hl slot_list_setitem
  (wpAny_call_entry slot_list_setitem hl entry_list_setitem ?_ (args_list_setitem _ _ _)))
 show wpAny _ _ (Builtin.List.listSubscript? (.int k t) >>= _) _ _ s;refine yX (wpAny_listSubscript_int (by unfold Builtin.List.listFitsIndex;simp only[Bool.and_eq_true,decide_eq_true_eq];omega) ?_)
 rcases h2 with rfl|⟨h2,h3,h4⟩
 ·show wpAny _ _ ((seqItemAt l j >>= fun r=>pure (r.map (j,·))) >>= _) _ _ s
  refine yX (yX (wpAny_seqItemAt ho hd (yW ?_)));rw[hx];exact yX (wpAny_setSeqItemAt ho hd (yW ⟨.none,rfl,yW h⟩))
 ·have hidx:seqIndex? k xs.length=some j:=by rw[seqIndex_neg h2 h4,h3]
  obtain⟨i,rfl⟩:∃ i:Nat,k=Int.negSucc i:=by
   cases k with
   |ofNat n=>exact absurd h2 (Int.not_lt.mpr (Int.natCast_nonneg n))
   |negSucc n=>exact⟨n,rfl⟩
  show wpAny _ _ ((Builtin.List.listItems (.ref l) >>= fun xs=>pure ((seqIndex? (Int.negSucc i) xs.size).bind fun i=>xs[i]?.map (i,·))) >>= _) _ _ s;refine yX (yX ?_);show wpAny _ _ (seqItems? (.ref l) >>= _) _ _ s;refine yX (wpAny_seqItems ho hd (yW (yW ?_)));rw[size_toArray,hidx,Option.bind_some,hx];exact yX (wpAny_setSeqItemAt ho hd (yW ⟨.none,rfl,yW h⟩))
theorem ziR {sk:List Env}{π:List Addr}{Hc:H}{a b c:V}{x y w:Value}{H':H}{Q:Unit→Shared→Prop}{E:Value→Shared→Prop}(hr:HR am sk π Hc s.heap) (ha:VR am π s.heap a x) (hb:VR am π s.heap b y) (hc:VR am π s.heap c w) (he:lcell Hc a=true) (hs:seti Hc a b c=some H')
  (h:∀ s',Step (Fs sk) π s π s'→HR am sk π H' s'.heap→Q () s'):wpAny am.M A (setItem x y w) Q E s:=by
 refine hold fun z k_=>?_;obtain⟨i,l,vs,xs,rfl,rfl,hi,hH,pl,hz,hv⟩:=zbF hr ha he;refine k_ ?_;simp only[seti,hH] at hs
 cases b with
 |int k =>
  simp only at hs;obtain⟨j,hj,rfl⟩:=Option.map_eq_some_iff.mp hs;obtain⟨t,rfl⟩:=hb;have e:=hv.len;refine zlb pl (by omega) (by rw[e];exact hj) ?_
  have pl':=pl.update (·.setIfInBounds j w);have hp:=HR.put (tk:=s.toks) hr hi (vs:=vs.set j c) (by simpa using hz) (xs:=xs.set j w) (h':=s.heap.update l (Obj.mapSeq (·.setIfInBounds j w))) (fun b o h1 h2=>(Heap.SameBut.update ..).extBut b o h1 h2) (by simpa using pl') (hv.set j hc)
  exact h _ hp.1 hp.2
 |_=>cases hs
theorem zh0 (hc:lcell h a=false) (hd:dcell h a=false):seti h a b c=Option.none:=by
 cases a with
 |ref r =>
  simp only[lcell] at hc;simp only[dcell] at hd;simp only[seti]
  cases hq:h[r]? with
  |none=>rfl
  |some k =>
   rw[hq] at hc
   cases k with
   |list vs=>cases hc
   |dict es=>rw[hq] at hd;cases hd
 |_=>rfl
end
section
variable {am:Amb}{n:Nat}{q:Bool}{F:Fn}{c:Ck}
theorem PT.wpv {α γ:Type}(M:Model) (m:Sem α) (f:α→γ):PT.Mono (fun(Q:γ→Shared→Prop) E s=>wpAny M A m (fun a s₁=>Q (f a) s₁) E s):=fun z z z z z h1 h2 h=>yV h (fun a s x=>h1 _ _ x) h2
theorem zlc {o i e:PE}{yo yi y:Expr}{p tp:Pos}(hc:isComp y=false) (ho:EJ am n q F c o yo) (hi:EJ am n q F c i yi) (he:EJ am n q F c e y):SJ am n q F c (.setIdx o i e) (.Assign [.Subscript yo yi tp] y p):=fun cx ρ A res outer π₀ s₀ G π Hc s x=>by
 have shape:exS q F (.setIdx o i e) ρ Hc=((evE q F ρ e Hc).bind fun v h=>(evE q F ρ o h).bind fun x h=>(evE q F ρ i h).bind fun y h=>R.ok (v,x,y) h).st ρ fun t h=>match seti h t.2.1 t.2.2 t.1 with
   |some h=>.ok .next ρ h
   |Option.none=>.bad:=by
  rw[zrt]
  cases evE q F ρ e Hc with
  |ok v h =>
   simp only[R.st_ok,R.bind_ok]
   cases evE q F ρ o h with
   |ok v h =>
    simp only[R.st_ok,R.bind_ok]
    cases evE q F ρ i h<;>rfl
   |_=>rfl
  |_=>rfl
 rw[shape];refine SP.rule (T:=fun Q E s=>wpAny am.M A (eval y cx.env) (fun v s₁=>wpAny am.M A (eval yo cx.env) (fun ov s₂=>wpAny am.M A (eval yi cx.env) (fun iv s₃=>wpAny am.M A (setItem ov iv v) (fun z=>Q .next) E s₃) E s₂) E s₁) E s)
  (sbindT (T0:=fun Q E s=>wpAny am.M A (eval y cx.env) (fun v s₁=>wpAny am.M A (eval yo cx.env) (fun ov s₂=>wpAny am.M A (eval yi cx.env) (fun iv s₃=>Q (v,ov,iv) s₃) E s₂) E s₁) E s) (T:=fun t Q E s=>wpAny am.M A (setItem t.2.1 t.2.2 t.1) (fun z=>Q .next) E s) (PT.seq _ _ fun z=>PT.seq _ _ fun z=>PT.wpv _ _ _) x
   (Rel:=fun π h (b:V × V × V) (t:Value × Value × Value)=>VR (am.at res) π h b.1 t.1∧VR (am.at res) π h b.2.1 t.2.1∧VR (am.at res) π h b.2.2 t.2.2)
   (JT.bind (fun z=>PT.seq _ _ fun z=>PT.wpv _ _ _) (he x.b x.st) fun v b H1 π1 s1 z hs1 hr1 hv1=>JT.bind (fun z=>PT.wpv _ _ _) (ho x.b (x.st.step hs1 hr1)) fun ov b2 H2 π2 s2 z hs2 hr2 hv2 =>
    JT.bind (T:=fun iv Q E s=>Q (v,ov,iv) s) (fun z z z z z z h z y=>h _ _ y) (hi x.b ((x.st.step hs1 hr1).step hs2 hr2)) fun iv b3 H3 π3 s3 z hs3 hr3 hv3 =>
    .inr (OkP.here hr3 ⟨(hv1.step hs2).step hs3,hv2.step hs3,hv3⟩)) fun t b H' π' s' z x' hw=>?_) fun Q E h=>wpAny_Assign_Subscript h (zbc hc _ _ _)
 obtain⟨h1,h2,h3⟩:=hw
 cases hl:lcell H' b.2.1 with
 |false =>
  cases hd:dcell H' b.2.1 with
  |false=>rw[zh0 hl hd];exact .inl rfl
  |true =>
   cases hs:seti H' b.2.1 b.2.2 b.1 with
   |none=>exact .inl rfl
   |some H2=>exact .inr (znt (am:=am.at res) x'.b.as x'.st.hr h2 h3 h1 hd hs fun s2 hs2 hr2=>SOk.here (x'.step hs2 hr2))
 |true =>
  cases hs:seti H' b.2.1 b.2.2 b.1 with
  |none=>exact .inl rfl
  |some H2=>exact .inr (ziR (am:=am.at res) x'.st.hr h2 h3 h1 hl hs fun s2 hs2 hr2=>SOk.here (x'.step hs2 hr2))
end
theorem zga:swappedStores [.Tuple [.Subscript v1 s1 p1,.Subscript v2 s2 p2] k tp] y env=pure none:=by
 cases y with
 |Tuple vs k' p =>
  unfold swappedStores;dsimp only
  split
  ·rfl
  ·split<;>rfl
 |_=>rfl
theorem zjc {α:Type}(r:R α) (ρ:List V) (g:α→H→RS) (f:List V→H→RS):(r.st ρ g).then f=r.st ρ fun a h=>(g a h).then f:=by cases r<;>rfl
section
variable {am:Amb}{n:Nat}{F:Fn}{c:Ck}
theorem zhc {Q:Unit→Shared→Prop}{E:Value→Shared→Prop}
  (h:wpAny am.M A (eval yo env) (fun ov s₂=>wpAny am.M A (eval yi env) (fun iv s₃=>wpAny am.M A (setItem ov iv w) Q E s₃) E s₂) E s):wpAny am.M A (assign (.Subscript yo yi tp) env w) Q E s:=by
 rw[arm_assign_Subscript];exact yX (yU (yV h (fun ov s₂ h₂=>yX (yU (yV h₂ (fun iv s₃ h₃=>yX (wpAny_standAt (yX (yU (yV h₃ (fun z s₄ h₄=>wpAny_release' h₄) fun z z x=>x))))) fun z z x=>x))) fun z z x=>x))
variable {cx:Cx}{A:Around}{res:List Addr}{outer:List Env}{π₀:List Addr}{s₀:Shared}{G:List Addr→Shared→Prop}{π:List Addr}{Hc:H}{s:Shared}{ρ:List V}
theorem zmZ {f:List V→H→RS}(ho:EJ am n true F c o yo) (hi:EJ am n true F c i yi) (x:Stm am n true F c cx A res outer π₀ s₀ G ρ π Hc s) (hv:VR (am.at res) π s.heap v w) (hv2:VR (am.at res) π s.heap v2 w2)
  (k:∀ H' π' s',Stm am n true F c cx A res outer π₀ s₀ G ρ π' H' s'→VR (am.at res) π' s'.heap v2 w2→SP (am.at res) cx outer true A π₀ s₀ G T (f ρ H') s') :
  SP (am.at res) cx outer true A π₀ s₀ G (fun Q E s=>wpAny am.M A (eval yo cx.env) (fun ov s₂=>wpAny am.M A (eval yi cx.env) (fun iv s₃=>wpAny am.M A (setItem ov iv w) (fun z s₄=>T Q E s₄) E s₃) E s₂) E s) ((putAt true F ρ o i v Hc).then f) s:=by
 have shape:(putAt true F ρ o i v Hc).then f=((evE true F ρ o Hc).bind fun x h=>(evE true F ρ i h).bind fun y h=>R.ok (x,y) h).st ρ fun t h=>if lcell h t.1 then(match seti h t.1 t.2 v with
   |some h=>f ρ h
   |Option.none=>.bad) else .bad:=by
  unfold putAt;rw[zjc]
  cases evE true F ρ o Hc with
  |ok v1 h =>
   rw[R.st_ok,R.bind_ok,zjc]
   cases evE true F ρ i h with
   |ok v2 h =>
    rw[R.st_ok,R.bind_ok,R.st_ok];dsimp only
    cases lcell h v1 with
    |false=>rfl
    |true =>
     rw[zT rfl,zT rfl]
     cases seti h v1 v2 v<;>rfl
   |_=>rfl
  |_=>rfl
 rw[shape];refine sbindT (T0:=fun Q E s=>wpAny am.M A (eval yo cx.env) (fun ov s₂=>wpAny am.M A (eval yi cx.env) (fun iv s₃=>Q (ov,iv) s₃) E s₂) E s) (T:=fun t Q E s=>wpAny am.M A (setItem t.1 t.2 w) (fun z s₄=>T Q E s₄) E s) (PT.seq _ _ fun z=>PT.wpv _ _ _) x
  (Rel:=fun π h (b:V × V) (t:Value × Value)=>VR (am.at res) π h b.1 t.1∧VR (am.at res) π h b.2 t.2∧VR (am.at res) π h v w∧VR (am.at res) π h v2 w2)
  (JT.bind (fun z=>PT.wpv _ _ _) (ho x.b x.st) fun ov b2 H2 π2 s2 z hs2 hr2 hv2' =>
   JT.bind (T:=fun iv Q E s=>Q (ov,iv) s) (fun z z z z z z h z y=>h _ _ y) (hi x.b (x.st.step hs2 hr2)) fun iv b3 H3 π3 s3 z hs3 hr3 hv3 =>
   .inr (OkP.here hr3 ⟨hv2'.step hs3,hv3,(hv.step hs2).step hs3,(hv2.step hs2).step hs3⟩)) fun t b H' π' s' z x' hw=>?_
 obtain⟨h1,h2,h3,h4⟩:=hw
 cases hl:lcell H' b.1 with
 |false=>exact .inl rfl
 |true =>
  rw[zT rfl]
  cases hs:seti H' b.1 b.2 v with
  |none=>exact .inl rfl
  |some H2 =>
   by_cases hb:f ρ H2=.bad
   ·exact .inl hb
   ·exact .inr (ziR (am:=am.at res) x'.st.hr h1 h2 h3 hl hs fun s2 hs2 hr2=>(k H2 _ _ (x'.step hs2 hr2) (h4.step hs2)).resolve_left hb)
theorem zpE (hc:isComp y=false) (ho:EJ am n true F c o v1) (hi:EJ am n true F c i s1) (ho':EJ am n true F c o' v2) (hi':EJ am n true F c i' s2) (he:EJ am n true F c e y) :
  SJ am n true F c (.swap o i o' i' e) (.Assign [.Tuple [.Subscript v1 s1 p1,.Subscript v2 s2 p2] k tp] y p):=fun cx ρ A res outer π₀ s₀ G π Hc s x=>by
 have hs:swapsWithSole [.Tuple [.Subscript v1 s1 p1,.Subscript v2 s2 p2] k tp] y p.line cx.env=pure false:=(rfl:_=swapsWith y (some (.Tuple [.Subscript v1 s1 p1,.Subscript v2 s2 p2] k tp)) p.line cx.env).trans (zbc hc _ _ _);refine SP.rule (T:=fun Q E s=>wpAny am.M A (eval y cx.env) (fun w s₁=>wpAny am.M A (assign (.Tuple [.Subscript v1 s1 p1,.Subscript v2 s2 p2] k tp) cx.env w) (fun u=>Q .next) E s₁) E s)
  (r:=(evE true F ρ e Hc).st ρ fun v h=>put2 v fun a b=>(putAt true F ρ o i a h).then fun ρ h=>putAt true F ρ o' i' b h) (sbind x (he x.b x.st) fun a b H' π' s' u x' hw=>?_) fun Q E h=>Assign_Tuple h hs zga
 match b,hw with
 |.tup [a1,b1],hw =>
  show SP _ _ _ _ _ _ _ _ _ ((putAt true F ρ o i a1 H').then fun ρ h=>putAt true F ρ o' i' b1 h) _;obtain⟨t,xs,rfl,_,htu,_,hvr⟩:=hw
  by_cases hb:((putAt true F ρ o i a1 H').then fun ρ h=>putAt true F ρ o' i' b1 h)=.bad
  ·exact .inl hb
  obtain⟨x1,_,rfl,hx1,x2,_,rfl,hx2,rfl⟩:=hvr;refine .inr (wpAny_assign_Tuple x'.st.hd htu rfl rfl fun h' hk=>?_);have kk:∀ b o,s'.heap.get? b=some o→h'.get? b=some o:=fun b o e=>hk b o (Nat.ne_of_lt (Heap.lt_size e)) e;have y:=x'.step (s':={ s' with heap:=h' }) (Step.keeps kk) (x'.st.hr.keeps kk)
  have st:=Step.keeps (Fs:=Fs cx.sk) (π:=π') (s:=s') (tk:=s'.toks) kk;have e2:∀ (b:V) (h:H),putAt true F ρ o' i' b h=(putAt true F ρ o' i' b h).then fun ρ h=>.ok .next ρ h:=fun b h=>by
   generalize putAt true F ρ o' i' b h=r
   cases r with
   |ok fl ρ h=>cases fl<;>rfl
   |_=>rfl
  have g:=zmZ (f:=fun ρ h=>putAt true F ρ o' i' b1 h) (T:=fun Q E s=>wpAny am.M A (eval v2 cx.env) (fun ov s₂=>wpAny am.M A (eval s2 cx.env) (fun iv s₃=>wpAny am.M A (setItem ov iv x2) (fun u s₄=>Q .next s₄) E s₃) E s₂) E s) ho hi y (hx1.step st) (hx2.step st) fun H2 π2 s2' z hz=>by
   rw[e2];exact zmZ (T:=fun Q E s=>Q .next s) ho' hi' z hz hz fun H3 π3 s3 z3 u=>.inr (SOk.here z3)
  have g:=g.resolve_left hb;show wpAny am.M A (do holding [x2] (assign (.Subscript v1 s1 p1) cx.env x1);do holding [] (assign (.Subscript v2 s2 p2) cx.env x2);pure ()) _ _ _
  exact yX (yU (zhc (yV g (fun ov s₂ h₂=>yV h₂ (fun iv s₃ h₃=>yV h₃ (fun u s₄ h₄=>yX (yU (zhc (yV h₄ (fun ov s₂ h₂=>yV h₂ (fun iv s₃ h₃=>yV h₃ (fun u s₄ h₄=>yW h₄) fun u u x=>x) fun u u x=>x) fun u u x=>x)))) fun u u x=>x) fun u u x=>x) fun u u x=>x)))
 |.tup [],_=>exact .inl rfl
 |.tup [_],_=>exact .inl rfl
 |.tup (_::_::_::_),_=>exact .inl rfl
 |.uu,_=>exact .inl rfl
 |.none,_=>exact .inl rfl
 |.bool _,_=>exact .inl rfl
 |.int _,_=>exact .inl rfl
 |.str _,_=>exact .inl rfl
 |.l _,_=>exact .inl rfl
 |.ref _,_=>exact .inl rfl
 |.exc _,_=>exact .inl rfl
end
noncomputable def ckTg (c:Ck):List Nat→List Expr→Bool
 |[],ts=>ts.isEmpty
 |i::is,ts=>(match ts with|t::ts=>(xName t fun v=>c.var v i&&c.names.lookup v != some .free)&&ckTg c is ts|[]=>false)
section
variable {am:Amb}{n:Nat}{q:Bool}{F:Fn}{c:Ck}
theorem zi4 (h:ckTg c (i::is) ts=true):∃ v p ts',ts=.Name v p::ts'∧c.var v i=true∧c.names.lookup v≠some .free∧ckTg c is ts'=true:=by
 cases ts with
 |nil=>cases h
 |cons t ts =>
  have h:((xName t fun v=>c.var v i&&c.names.lookup v != some .free)&&ckTg c is ts)=true:=h;exact zaR (G:=fun t=>∃ v p ts',t::ts=.Name v p::ts'∧c.var v i=true∧c.names.lookup v≠some .free∧ckTg c is ts'=true) (al h) fun v p h1=>⟨v,p,ts,rfl,al h1,bne_iff_ne.mp (ar h1),ar h⟩
theorem zi3 (h:ckTg c is ts=true):(assignEach ts env).length=is.length∧(assignEach ts env).findIdx? (·.1)=none:=by
 induction is generalizing ts with
 |nil=>cases ts with
  |nil=>exact⟨rfl,rfl⟩
  |cons _ _=>exact noB h
 |cons i is ih =>
  obtain⟨v,p,ts',rfl,_,_,h4⟩:=zi4 h;obtain⟨a,b⟩:=ih h4;refine⟨congrArg (·+1) a,?_⟩;show List.findIdx? (·.1) ((false,assign (.Name v p) env)::assignEach ts' env)=none;rw[List.findIdx?_cons,b];rfl
theorem zh1 (h:setAll ρ is vs=some ρ'):is.length=vs.length:=by
 induction is generalizing vs ρ with
 |nil=>cases vs with
  |nil=>rfl
  |cons _ _=>exact no h
 |cons i is ih=>cases vs with
  |nil=>exact no h
  |cons v vs=>exact congrArg (·+1) (ih h)
variable {cx:Cx}{A:Around}{res:List Addr}{outer:List Env}{π₀:List Addr}{s₀:Shared}{G:List Addr→Shared→Prop}{π:List Addr}{Hc:H}
theorem ziI (hinj:(c.ctx.map (·.2)).Nodup){Q:Unit→Shared→Prop}{E:Value→Shared→Prop}(hQ:∀ s',Stm am n q F c cx A res outer π₀ s₀ G ρ' π Hc s'→Q () s')
  (h:ckTg c is ts=true) (X:Stm am n q F c cx A res outer π₀ s₀ G ρ π Hc s) (hv:VRs (am.at res) π s.heap vs xs) (hs:setAll ρ is vs=some ρ') :
   wpAny am.M A (assignInOrder ((assignEach ts cx.env).map (·.2)) xs) Q E s:=by
 induction is generalizing ts vs xs ρ s with
 |nil=>cases vs with
  |cons _ _=>exact no hs
  |nil =>
   cases hs
   cases ts with
   |nil=>exact yW (hQ s X)
   |cons _ _=>exact noB h
 |cons i is ih=>cases vs with
  |nil=>exact no hs
  |cons v vs =>
   obtain⟨x,xs',rfl,hx,hr⟩:=hv;obtain⟨y,p,ts',rfl,h1,h2,h3⟩:=zi4 h;show wpAny am.M A (do holding xs' (assign (.Name y p) cx.env x);assignInOrder ((assignEach ts' cx.env).map (·.2)) xs') Q E s
   refine yX (yU (wpAny_assign_Name (zbb X hx h1 h2 hinj fun s' X' z hk=>?_)));exact ih h3 X' (hr.free hk) hs
theorem zpK (hc:isComp y=false) (ht:y.ctorIdx≠25) (hts:ckTg c is ts=true) (hinj:(c.ctx.map (·.2)).Nodup) (h:EJ am n true F c e y) :
  SJ am n true F c (.asgT is e) (.Assign [.Tuple ts k tp] y p):=fun cx ρ A res outer π₀ s₀ G π Hc s x=>by
 have hs:swapsWithSole [.Tuple ts k tp] y p.line cx.env=pure false:=(rfl:_=swapsWith y (some (.Tuple ts k tp)) p.line cx.env).trans (zbc hc _ _ _);have hw:swappedStores [.Tuple ts k tp] y cx.env=pure none:=by
  cases y<;>first|rfl|exact absurd rfl ht
 refine SP.rule (T:=fun Q E s=>wpAny am.M A (eval y cx.env) (fun w s₁=>wpAny am.M A (assign (.Tuple ts k tp) cx.env w) (fun u=>Q .next) E s₁) E s)
  (r:=(evE true F ρ e Hc).st ρ fun v h=>match v with
   |.tup vs=>(match setAll ρ is vs with
    |some ρ=>.ok .next ρ h
    |Option.none=>.bad)
   |_=>.bad) (sbind x (h x.b x.st) fun a b H' π' s' u x' hw=>?_) fun Q E h=>Assign_Tuple h hs hw
 cases b with
 |tup vs =>
  dsimp only
  cases hse:setAll ρ is vs with
  |none=>exact .inl rfl
  |some ρ' =>
   obtain⟨t,xs,rfl,_,htu,_,hvr⟩:=hw;refine .inr (wpAny_assign_Tuple x'.st.hd htu ?_ (zi3 hts).2 fun h' hb=>?_)
   ·rw[(zi3 hts).1,zh1 hse,size_toArray,hvr.len]
   ·have kk:∀ b o,s'.heap.get? b=some o→h'.get? b=some o:=fun b o e=>hb b o (Nat.ne_of_lt (Heap.lt_size e)) e
    have y:=x'.step (s':={ s' with heap:=h' }) (Step.keeps kk) (x'.st.hr.keeps kk)
    exact ziI hinj (fun s'' z=>SOk.here z) hts y (hvr.step (s':={ s' with heap:=h' }) (Step.keeps (Fs:=Fs cx.sk) kk)) hse
 |_=>exact .inl rfl
end
section
variable {am:Amb}{n:Nat}{q:Bool}{F:Fn}{c:Ck}
theorem SR.sub (k:∀ a,a∈am'.res→a∈am.res) (hmg:am'.mg=am.mg) (hB:am'.B=am.B) (e:SR am π h v x):SR am' π h v x:=by
 rcases e with e|⟨d,a,h1,h2,h3,C,o,vs,e1,e2⟩
 ·exact .inl (e.sub k)
 ·exact .inr ⟨d,a,h1,h2,h3,C,o,vs,by rw[hmg];exact e1,by rw[hB];exact e2⟩
theorem ER.sub (k:∀ a,a∈r'→a∈r) (e:ER (am.at r) cx ρ π h):ER (am.at r') cx ρ π h :=
 ⟨e.ns,e.locOff,e.cellOff,e.apart,fun x i v h1 h2 h3 h4=>let ⟨v',h5,h6⟩:=e.var x i v h1 h2 h3 h4;⟨v',h5,SR.sub (am:=am.at r) (am':=am.at r') k rfl rfl h6⟩⟩
theorem ER.poke {am:Amb}{cx:Cx}{ρ:List V}{π:List Addr}{h h':Heap}{C:Addr}(e:ER am cx ρ π h) (hC:C∈am.res) (p:Poke C h h') (hnf:∃ o,h.get? C=some o∧∀ us,o.data≠.fields us) (hl:cx.env.locals≠C) (hc:∀ z d,cx.env.cells.lookup z=some d→d≠C):ER am cx ρ π h':=by
 obtain⟨m,hm⟩:=e.ns;refine⟨⟨m,Ns.at hm fun o z=>p _ o hl z⟩,e.locOff,fun z d hd=>?_,e.apart,fun z j w e1 e2 e3 e4=>?_⟩
 ·refine hold fun y k_=>?_
  obtain⟨a1,a2,u,o,ho,r⟩:=e.cellOff z d hd;refine k_ ?_;exact⟨a1,a2,u,o,p d o (hc z d hd) ho,r⟩
 ·obtain⟨u,e5,e6⟩:=e.var z j w e1 e2 e3 e4
  refine⟨u,?_,?_⟩
  ·rcases e5 with⟨k,m',e7,e8⟩|⟨k,d,e7,o,ho,r⟩
   ·exact .inl ⟨k,m',Ns.at e7 fun o z=>p _ o hl z,e8⟩
   ·exact .inr ⟨k,d,e7,o,p d o (hc z d e7) ho,r⟩
  ·rcases e6 with e6|⟨d,a,f1,f2,f3,C',o,vs,g1,g2,g3,g4,g5⟩
   ·exact .inl (e6.free fun b o hb z=>p b o (fun q=>hb (q ▸ hC)) z)
   ·exact .inr ⟨d,a,f1,f2,f3,C',o,vs,g1,p a o (fun q=>(zgn hnf g2 g4) q.symm) g2,g3,g4,g5⟩
theorem Mv.unhold {R Fs π π':List Addr}{s s':Shared}{C:Addr}(x:Mv (C::R) Fs π s π' s') (hC:s.heap.get? C=none):Mv R Fs π s π' s':=by
 have ne:∀ {b o},s.heap.get? b=some o→b ∉ R→b ∉ C::R:=fun {b o} e hb q=>by
  rcases zN.mp q with rfl|h
  ·rw[hC] at e;cases e
  ·exact hb h
 exact⟨x.same,fun a o e h1 h2 h3=>x.keep a o e h1 h2 (ne e h3),fun a o e h1 h3=>x.slots a o e h1 (ne e h3),x.alive,x.grow⟩
theorem zpa {am:Amb}{sk:List Env}{π π1:List Addr}{s s':Shared}{vs:List V}{H1:H}{l:Addr}{xs:List Value}(h3:vs.length≤1000000) (h4:s.heap.get? l=none) (h5:l ∉ π1∧l ∉ Fs sk∧am.B.get? l=none) (h6:Step (Fs sk) π s π1 s') (h7:HR (am.hold l) sk π1 H1 s'.heap)
  (h8:PL s'.heap l xs) (h9:VRs (am.hold l) π1 s'.heap vs xs):Step (Fs sk) π s (π1++[l]) s'∧HR am sk (π1++[l]) (H1++[.list vs]) s'.heap∧VR am (π1++[l]) s'.heap (.ref H1.length) (.ref l):=by
 refine⟨⟨h6.same,h6.ext,?_⟩,⟨h7.base,h7.frames,by simp[h7.len],?_,h7.unhold.res,?_,?_⟩,?_⟩
 ·obtain⟨δ,rfl,hδ⟩:=h6.grow
  refine⟨δ++[l],by simp,fun a ha=>?_⟩
  rcases zP.mp ha with ha|ha
  ·exact hδ a ha
  ·rw[zK.mp ha];exact h4
 ·rw[nodup_append]
  exact⟨h7.nodup,by simp,fun a ha b hb=>by rw[zK.mp hb];exact fun q=>h5.1 (q ▸ ha)⟩
 ·intro a ha
  rcases zP.mp ha with ha|ha
  ·exact h7.off a ha
  ·rw[zK.mp ha];exact⟨h5.2.2,h5.2.1⟩
 ·intro i c a hi ha
  by_cases hlt:i < H1.length
  ·rw[List.getElem?_append_left hlt] at hi
   rw[List.getElem?_append_left (by rw[h7.len];exact hlt)] at ha
   obtain⟨o,ys,q0,q1,q2,q3⟩:=h7.cell i c a hi ha;exact⟨o,ys,q0,q1,q2,q3.reserve.1⟩
  ·have hi':i=H1.length:=znj (by have:=(List.getElem?_eq_some_iff.mp hi).1;rw[zQ] at this;exact this) hlt
   subst hi';simp only[List.getElem?_concat_length,Option.some.injEq] at hi;rw[←h7.len] at ha;simp only[List.getElem?_concat_length,Option.some.injEq] at ha;subst hi ha;exact .ofList h8 h3 h9.reserve.1
 ·rw[zkT]
  exact⟨l,rfl,by rw[←h7.len];simp⟩
noncomputable def asgFin (own:Bool) (i:Nat) (ρ:List V) (rs:List V) (Hf:H):RS:=if own then .ok .next (ρ.set i (.ref Hf.length)) (Hf++[.list rs]) else .ok .next (ρ.set i (.l rs)) Hf
theorem zkM {F:Fn}{own:Bool}{i j:Nat}{elt:PE}{it:PIt}{cond:Option PE}{ρ:List V}{Hc:H}:exS true F (.asg i (if own then .own (.comp elt j it cond) else .comp elt j it cond)) ρ Hc=(itemsR F ρ elt j it cond Hc).st ρ fun rs h=>asgFin own i ρ rs h:=by
 cases own with
 |false =>
  show exS true F (.asg i (.comp elt j it cond)) ρ Hc=_;rw[zli,zba]
  cases itemsR F ρ elt j it cond Hc<;>rfl
 |true =>
  show exS true F (.asg i (.own (.comp elt j it cond))) ρ Hc=_;rw[zli,zlk,zba]
  cases itemsR F ρ elt j it cond Hc<;>rfl
theorem zh2 {i:Nat}{elt:PE}{j:Nat}{it:PIt}{cond:Option PE}{own:Bool}{e iter:Expr}{x:Str}{px pos p p':Pos}{ifs:List Expr}{scope:Scope}{v:Str}(hset:isSet iter=false) (hsc:zcY c x scope=true) (hi:c.ctx.all (fun p=>p.2 != j)=true)
  (hit:ItJ am n F c it iter) (helt:EJ am n true F (c.inner x j scope) elt e) (hcond:CJ am n F (c.inner x j scope) cond ifs)
  (hv:c.var v i=true) (hk:c.names.lookup v≠some .free) (hinj:(c.ctx.map (·.2)).Nodup)
  {cx:Cx}{ρ:List V}{A:Around}{res:List Addr}{outer:List Env}{π₀:List Addr}{s₀:Shared}{G:List Addr→Shared→Prop}{π:List Addr}{Hc:H}{s:Shared}(X:Stm am n true F c cx A res outer π₀ s₀ G ρ π Hc s)
  (hs:swapsWith (.ListComp e [⟨.Name x px,iter,ifs,0⟩] scope pos) (some (.Name v p')) p.line cx.env=pure true) :
  SP (am.at res) cx outer true A π₀ s₀ G (fun Q E s=>wpAny am.M A (exec (.Assign [.Name v p'] (.ListComp e [⟨.Name x px,iter,ifs,0⟩] scope pos) p) cx.env) Q E s) (exS true F (.asg i (if own then .own (.comp elt j it cond) else .comp elt j it cond)) ρ Hc) s:=by
 have B:=X.b;rw[zkM]
 rcases zhy (px:=px) (pos:=pos) (pos':=firstIterPos [⟨.Name x px,iter,ifs,0⟩] pos) hset hsc hi hit helt hcond B X.st with h|h
 ·exact .inl (by rw[h];rfl)
 ·refine .inr (zdE fun Q' E' kq ke=>?_)
  rw[exec_Assign_Name_used _ _ _ _ hs,arm_evalThenUse_ListComp];refine yX (wpAny_standAt (yX (yX ?_)));refine h (Q:=fun t s'=>wpAny am.M A (pure ():Sem Unit) (fun t s'=>wpAny am.M A (pure Flow.next:Sem Flow) Q' E' s') E' s') (use:=some (assign (.Name v p') cx.env)) (fun c' H' y s' ee z=>?_) fun rs Hf D C s' e7 e6 le=>?_
  ·refine ke y s' ?_
   refine hold fun t k_=>?_;obtain⟨c',H'',π',e',C,fl,hh,g2,g3,g4,g5,g6⟩:=z;refine k_ ?_
   cases hh
   have Y:=X.step g4 g5;exact⟨c',ρ,H',π',e',C,fl,by rw[ee];rfl,g2,g3,Y.go,Y.st,X.b.ne,g6.mono (za6 X.f X.go)⟩
  ·generalize hr:R.st (itemsR F ρ elt j it cond Hc) ρ (fun rs h=>asgFin own i ρ rs h)=r at kq ke
   have e7:r=asgFin own i ρ rs Hf:=by rw[←hr,e7];rfl
   refine hold fun t k_=>?_;obtain⟨π',xs,m,l1,l2,l3,l4,l5,l6,l7⟩:=le.rest;refine k_ ?_;show wpAny am.M A (assign (.Name v p') cx.env (.ref D)) _ _ s';have hs0C:s₀.heap.get? C=none:=by
    cases hq:s₀.heap.get? C with
    |none=>rfl
    |some o=>obtain⟨o',z⟩:=X.go.ext.alive C o hq;rw[le.freshC] at z;cases z
   have hDC:D ∉ (am.at (C::res)).res:=by simp only[Amb.at,zN,not_or];exact⟨le.ne,le.resD⟩
   have hR:HR (am.at (D::C::res)) cx.sk π' Hf s'.heap:=HR.sub (am:=am) (r:=C::D::res) (r':=D::C::res) (by intro a ha;simp only[zN] at ha ⊢;rcases ha with ha|ha|ha<;>simp[ha]) l2
   have hV:VRs ((am.at (C::res)).hold D) π' s'.heap rs xs:=VRs.sub (am':=(am.at (C::res)).hold D) (by intro a ha;simp only[Amb.hold,Amb.at,zN] at ha ⊢;rcases ha with ha|ha|ha<;>simp[ha]) l4
   have hok:∃ w H2 π2,r=.ok .next (ρ.set i w) H2∧Step (Fs cx.sk) π s π2 s'∧HR (am.at (C::res)) cx.sk π2 H2 s'.heap∧VR (am.at (C::res)) π2 s'.heap w (.ref D)∧C ∉ π2:=by
    cases own with
    |false =>
     refine⟨.l rs,Hf,π',by rw[e7];rfl,l1,HR.unhold (am:=am.at (C::res)) hR,?_,l7⟩
     exact⟨D,xs,rfl,⟨l6,hDC⟩,l3.is,e6,hV.reserve.2⟩
    |true =>
     have z:=zpa (am:=am.at (C::res)) (s:=s) e6 le.freshD ⟨l6,le.fsD,le.baseD⟩ l1 hR l3 hV;refine⟨_,_,π'++[D],by rw[e7];rfl,z.1,z.2.1,z.2.2,?_⟩
     rw[zP,not_or,zK];exact⟨l7,Ne.symm le.ne⟩
   refine hold fun t k_=>?_;obtain⟨w,H2,π2,k2,k3,k4,k5,k6⟩:=hok;refine k_ ?_;have erC:ER (am.at (C::res)) cx ρ π2 s'.heap:=(X.st.er.held (l:=C) le.freshC).step k3;have Y:Stm am n true F c cx A (C::res) outer π₀ s₀ (fun π' s'=>Mv (C::res) (Fs cx.sk) π s π' s') ρ π2 H2 s' :=
    ⟨X.b,⟨X.f.top,zY _ X.f.res,X.f.base,X.f.fresh,fun z d hd=>let ⟨a1,a2,a3⟩:=X.f.cell z d hd;⟨zY _ a1,a2,a3⟩⟩,X.go.inn X.f k3,⟨k4,erC,X.st.hd.step k3⟩,X.low,.of k3,fun t t t t h m=>h.trans m⟩
   have hlC:cx.env.locals≠C:=fun q=>by
    obtain⟨m0,hm0⟩:=X.st.er.ns;obtain⟨o,ho⟩:=Heap.Ns.exist hm0;rw[q,le.freshC] at ho;cases ho
   have hcC:∀ z d,cx.env.cells.lookup z=some d→d≠C:=fun z d hd q=>by
    refine hold fun t k_=>?_;obtain⟨_,_,u,hu⟩:=X.st.er.cellOff z d hd;refine k_ ?_;obtain⟨o,ho⟩:=Heap.IsCell.exist hu;rw[q,le.freshC] at ho;cases ho
   refine wpAny_assign_Name (zbb Y k5 hv hk hinj fun s'' Z hkeep t=>?_);refine⟨m,Ns.at l5 fun o ho=>hkeep C hs0C (Ne.symm hlC) hcC o ho,fun h' sb=>?_⟩;have p':Poke C s''.heap h':=fun b o hb e=>sb.extBut b o hb e;have l5':s''.heap.Ns C m:=Ns.at l5 fun o ho=>hkeep C hs0C (Ne.symm hlC) hcC o ho;refine yW (yW ?_);subst k2;refine kq _ _ ⟨.next,_,_,π2,rfl,Z.go.poke (tk:=s''.toks) hs0C p',⟨HR.out (am:=am.at res) Z.st.hr le.resC le.baseC k6 le.fsC p',?_,?_⟩,Z.b.ne,rfl,?_⟩
   ·exact ER.sub (am:=am) (r:=C::res) (fun a ha=>zY _ ha) (Z.st.er.poke (am:=am.at (C::res)) zZ p' (Ns.nf l5') hlC hcC)
   ·exact Z.st.hd
   ·refine X.gk _ _ _ _ X.g (Mv.poke (tk:=s''.toks) (Mv.unhold Z.g le.freshC) (.inr le.freshC) p')
end
section
variable {am:Amb}{n:Nat}{q:Bool}{F:Fn}{c:Ck}
theorem zcm (f:Frm am cx outer s₀) (hr:HR am cx.sk π Hc h):h.FunFrames (ground outer π₀ s₀.heap) cx.sk:=by
 have go:∀ l:List Env,(∀ a∈Fs l,(ground outer π₀ s₀.heap).get? a=none)→h.FunFrames am.B l→h.FunFrames (ground outer π₀ s₀.heap) l:=by
  intro l
  induction l with
  |nil=>intro _ _;trivial
  |cons e l ih =>
   intro hn q;obtain⟨h1,⟨L,o,h2,_,h4,h5⟩,h6⟩:=q;refine⟨h1,⟨L,o,h2,hn L (by simp[Fs,h2]),h4,h5⟩,ih (fun a ha=>hn a ?_) h6⟩
   simp only[Fs,filterMap_cons,h2,zN];exact .inr ha
 refine go _ (fun a ha=>?_) hr.frames;rw[f.fs] at ha
 rcases zN.mp ha with rfl|ha
 ·cases hq:(ground outer π₀ s₀.heap).get? cx.env.locals with
  |none=>rfl
  |some o=>have:=of_hideAll _ hq;rw[f.fresh] at this;cases this
 ·exact hideAll_none _ (zP.mpr (.inr ha))
theorem Step.touch (f:Frm am cx outer s₀) (x:Step (Fs outer) π₀ s₀ π s) (hr:HR am cx.sk π Hc s.heap) (t:Touch (ground outer π₀ s₀.heap) s.heap h'):Step (Fs outer) π₀ s₀ π { s with heap:=h' }:=by
 have frm:∀ a∈Fs outer,∃ o,s.heap.get? a=some o∧∀ us,o.data≠.fields us:=fun a ha=>(hr.frames.mem (show a∈Fs cx.sk by rw[f.fs];exact zY _ ha)).2
 have cel:∀ a∈π₀,∃ o,s.heap.get? a=some o∧∀ us,o.data≠.fields us:=fun a ha=>by
  obtain⟨δ,e,_⟩:=x.grow;obtain⟨i,hi,e1⟩:=getElem_of_mem (show a∈π by rw[e];exact zP.mpr (.inl ha))
  have h1:π[i]?=some a:=by rw[zM hi,e1]
  have h2:i < Hc.length:=by rw[←hr.len];exact hi
  exact(hr.cell i Hc[i] a (by simp[h2]) h1).obj
 have keep:∀ a o,s₀.heap.get? a=some o→a ∉ π₀→a ∉ Fs outer→h'.get? a=some o:=fun a o e h1 h2=>t.stays a o (hideAll_get _ e (by rw[zP,not_or];exact⟨h1,h2⟩))
 obtain⟨hh,tk,rfl⟩:=x.same;refine⟨⟨h',tk,rfl⟩,⟨keep,fun a o e h1=>?_,fun a o e=>?_⟩,x.grow⟩
 ·by_cases h2:a∈Fs outer
  ·obtain⟨sl,h3⟩:=x.ext.slots a o e h1
   obtain⟨o',h4,h5⟩:=frm a h2;rw[h3] at h4;cases h4
   obtain⟨sl',h6⟩:=t.slots a _ h3 h5;exact⟨sl',h6⟩
  ·exact⟨o.slots,keep a o e h1 h2⟩
 ·by_cases h1:a∈π₀
  ·obtain⟨o',h4,h5⟩:=cel a h1
   obtain⟨sl',h6⟩:=t.slots a _ h4 h5;exact⟨_,h6⟩
  ·by_cases h2:a∈Fs outer
   ·obtain⟨o',h4,h5⟩:=frm a h2
    obtain⟨sl',h6⟩:=t.slots a _ h4 h5;exact⟨_,h6⟩
   ·exact⟨o,keep a o e h1 h2⟩
theorem St.touch (x:St am true cx ρ π Hc A s) (ne:NoExc ρ) (low:am.B.StaysIn base) (t:Touch base s.heap h'):St am true cx ρ π Hc A { s with heap:=h' } :=
 ⟨x.hr.upto t.slots fun b o e=>t.stays b o (low b o e),x.er.upto t.slots ne,x.hd⟩
theorem SEr.back (f:Frm am cx outer s₀) (fr:A.frames=some cx.sk) (low:am.B.StaysIn (ground outer π₀ s₀.heap)) (h:SEr am cx outer true A π₀ s₀ r y s'){E':Value→Shared→Prop}(ke:∀ y s,SEr am cx outer true A π₀ s₀ r y s→E' y s) :
  notedBy am.M A cx.env (cameBackBy am.M A cx.env E') y s':=by
 refine hold fun z k_=>?_;obtain⟨d,ρ',H',π',e,C,fl,h1,rfl,h3,h4,h5,h6,h7⟩:=h;refine k_ ?_;rw[f.top.1] at fr;have fl':=zcm (π₀:=π₀) f h5.hr;rw[f.top.1] at fl';unfold notedBy;refine ziN fr fl' f.top.2 h7 fun h₁ x₁ t₁=>?_;have g1:=h4.touch f h5.hr t₁;have g2:=h5.touch (h6 rfl) low t₁;unfold cameBackBy;refine hold fun z k_=>?_;obtain⟨_,_,oe,vs,w1,w2,w3,w4,T,oT,ts,w5,w6,w7,w8,w9,w10⟩:=id x₁;refine k_ ?_
 refine yX (wpAny_field w1 w3 w5 ?_);rw[zR (by simp)]
 refine zcC (fr:=cx.env.frame) x₁ fun h₂ x₂ t₂=>?_;exact ke _ _ ⟨d,ρ',H',π',e,C,_,h1,rfl,h3,g1.touch f g2.hr t₂,g2.touch (h6 rfl) low t₂,h6,x₂⟩
theorem zeF {b:List V→V→Option (List V)}{body:List V→H→RS}:forL w b body [] ρ h=if w.ok h then .ok .next ρ h else .bad:=rfl
theorem zdg {b:List V→V→Option (List V)}{body:List V→H→RS}:forL w b body (v::vs) ρ h=if w.ok h then(match b ρ v with
   |some ρ'=>(body ρ' h).then fun ρ h=>forL w b body vs ρ h
   |none=>.bad) else .bad:=rfl
inductive ForInv (am:Amb) (cx:Cx) (outer:List Env) (A:Around) (π₀:List Addr) (s₀:Shared) (res π:List Addr) (s:Shared) (Sx:Nat→List Addr→Heap→Prop) (wt:Watch) (bi:List V→V→Option (List V)) (fb:List V→H→RS) (vs:List V) (r:RS) (k:Nat) (s':Shared):Prop
 |mk (j:Nat) (ρ':List V) (H':H) (π':List Addr) (e:k=vs.length - j) (hj:j≤vs.length) (ne:NoExc ρ') (g1:Step (Fs outer) π₀ s₀ π' s') (g2:St am true cx ρ' π' H' A s') (g3:Mv res (Fs cx.sk) π s π' s') (g4:Sx j π' s'.heap) (g5:forL wt bi fb (vs.drop j) ρ' H'=r)
theorem zpI {i:Nat}{it:PIt}{body:List PS}{iter:Expr}{v:Str}{p p':Pos}{ys:List Stmt}(hset:isSet iter=false) (hit:ItJ am n F c it iter) (hbody:SsJ am n true F c body ys)
  (hv:c.var v i=true) (hk:c.names.lookup v≠some .free) (hinj:(c.ctx.map (·.2)).Nodup):SJ am n true F c (.for1 i it body) (.For (.Name v p') iter ys [] p):=fun cx ρ A res outer π₀ s₀ G π Hc s X=>by
 have B:=X.b;have shape:exS true F (.for1 i it body) ρ Hc=(evIt true F ρ it Hc).st ρ fun vs h=>forL vs.2 (bind1 i) (fun ρ h=>exSs true F body ρ h) vs.1 ρ h:=by
  rw[zsj];rw[zR (by simp)]
 rw[shape];have hI:=hit B X.st;have key:∀ (r:RS),r≠.bad→(∀ vs wt H1,evIt true F ρ it Hc=.ok (vs,wt) H1→forL wt (bind1 i) (fun ρ h=>exSs true F body ρ h) vs ρ H1=r) →
   (∀ c' H',evIt true F ρ it Hc=.err c' H'→r=.err c' ρ H')→evIt true F ρ it Hc≠.bad →
   SP (am.at res) cx outer true A π₀ s₀ G (fun Q E s=>wpAny am.M A (exec (.For (.Name v p') iter ys [] p) cx.env) Q E s) r s:=by
  intro r hrb h1 h2 h3
  rcases hI with hI|hI
  ·exact absurd hI h3
  ·refine .inr ?_
   have erp:∀ y s',ErP (am.at res) cx.sk π s (evIt true F ρ it Hc) y s'→SEr (am.at res) cx outer true A π₀ s₀ r y s':=fun y s' h=>by
    refine hold fun u k_=>?_;obtain⟨c',H'',π',e',C,fl,hh,g2,g3,g4,g5,g6⟩:=h;refine k_ ?_;have Y:=X.step g4 g5;exact⟨c',ρ,H'',π',e',C,fl,h2 c' H'' hh,g2,g3,Y.go,Y.st,X.b.ne,g6.mono (za6 X.f X.go)⟩
   refine zdE fun Q' E' kq ke=>?_
   replace erp:=fun y s' h=>ke y s' (erp y s' h)
   refine wpAny_For (yV hI (fun xv s₁ h₁=>yV h₁ (fun itv s₂ h₂=>?_) erp) erp) (zed hset cx.env);refine hold fun u k_=>?_;obtain⟨⟨vs,wt⟩,H1,π1,e1,e2,e3,I,e5,e6,e8⟩:=h₂;obtain⟨Sx,IT,e7⟩:=e8 res _ (fun u h=>.inl h) (fun u u h=>h);refine k_ ?_;have e0:=h1 vs wt H1 e1;have fr:A.frames=some cx.sk:=B.as.frames;have back:∀ y s',SEr (am.at res) cx outer true A π₀ s₀ r y s'→notedBy am.M A cx.env (cameBackBy am.M A cx.env E') y s':=fun y s' h=>SEr.back X.f fr X.low h ke
   have hs0I:s₀.heap.get? I=none:=by
    cases hq:s₀.heap.get? I with
    |none=>rfl
    |some o=>obtain⟨o',z⟩:=X.go.ext.alive I o hq;rw[e5] at z;cases z
   have poke:∀ {ρ':List V}{π':List Addr}{H':H}{s':Shared}{h':Heap}{tk k:Nat},NoExc ρ'→Step (Fs outer) π₀ s₀ π' s'→St (am.at res) true cx ρ' π' H' A s'→Mv res (Fs cx.sk) π s π' s'→Sx k π' s'.heap→Poke I s'.heap h' →
     Step (Fs outer) π₀ s₀ π' { s' with heap:=h',toks:=tk }∧St (am.at res) true cx ρ' π' H' A { s' with heap:=h',toks:=tk }∧Mv res (Fs cx.sk) π s π' { s' with heap:=h',toks:=tk }:=by
    intro ρ' π' H' s' h' tk k ne g1 g2 g3 g4 pk;refine hold fun u k_=>?_;obtain⟨_,_,o,us,ho,hd⟩:=IT.own k π' _ g4;refine k_ ?_;exact⟨g1.poke hs0I pk,⟨g2.hr.poke pk ho hd e6,g2.er.upto (pk.slots ho hd) ne,g2.hd⟩,g3.poke (.inr e5) pk⟩
   refine hold fun u k_=>?_;obtain⟨Inv,toInv,ofInv⟩:∃ Inv:Nat→Shared→Prop,(∀ k s',ForInv (am.at res) cx outer A π₀ s₀ res π s Sx wt (bind1 i) (fun ρ h=>exSs true F body ρ h) vs r k s'→Inv k s')∧(∀ k s',Inv k s'→ForInv (am.at res) cx outer A π₀ s₀ res π s Sx wt (bind1 i) (fun ρ h=>exSs true F body ρ h) vs r k s'):=⟨_,fun u u h=>h,fun u u h=>h⟩;refine k_ ?_;refine codeAny_forLoop_any Inv
    (fun k s' hk'=>?_) vs.length (toInv _ _ ⟨0,ρ,H1,π1,rfl,Nat.zero_le _,B.ne rfl,X.go.inn X.f e2,X.st.step e2 e3,.of e2,e7,by simpa using e0⟩)
   refine hold fun u k_=>?_;obtain⟨j,ρ',H',π',rfl,hj,ne,g1,g2,g3,g4,g5⟩:=ofInv _ _ hk';refine k_ ?_
   rcases Nat.lt_or_ge j vs.length with hlt|hge
   ·have hdrop:vs.drop j=vs[j]::vs.drop (j+1):=drop_eq_getElem_cons hlt
    rw[hdrop,zdg] at g5
    by_cases hw:wt.ok H'=true
    ·rw[zT hw] at g5
     simp only[bind1] at g5;refine IT.item j π' H' s' vs[j] _ _ g4 g2.hr hw (by simp[hlt]) fun x h' tk pk hx hs'=>?_
     obtain⟨k1,k2,k3⟩:=poke (tk:=tk) ne g1 g2 g3 g4 pk;show wpAny am.M A (letOwnedTupleGo (.Name v p') (.ref I) x) _ _ _;refine wpAny_of_eq (a:=()) rfl ?_
     let G':List Addr→Shared→Prop:=fun π' s'=>Mv res (Fs cx.sk) π s π' s'∧Sx (j+1) π' s'.heap
     have Y:Stm am n true F c cx A res outer π₀ s₀ G' ρ' π' H' { s' with heap:=h',toks:=tk } :=
      ⟨B.set fun u=>ne,X.f,k1,k2,X.low,⟨k3,hs'⟩,fun u u u u h m=>⟨h.1.trans m,IT.move _ _ _ _ _ h.2 m⟩⟩
     refine wpAny_assign_Name (zbb Y hx hv hk hinj fun s'' Z u u=>?_)
     rcases hbody Z with hb|hb
     ·rw[hb] at g5;exact absurd g5.symm hrb
     ·refine yV hb (fun fl s3 hs3=>?_) fun y s3 hs3=>?_
      ·refine hold fun u k_=>?_
       obtain⟨f',ρ2,H2,π2,z1,z2,z3,z4,z5,z6⟩:=hs3;refine k_ ?_;rw[z1] at g5
       cases f' with
       |next =>
        cases z5
        exact⟨vs.length - (j+1),Nat.sub_lt_sub_left hlt (Nat.lt_succ_self j),toInv _ _ ⟨j+1,ρ2,H2,π2,rfl,hlt,z4 rfl,z2,z3,z6.1,z6.2,by simpa using g5⟩⟩
       |ret w =>
        obtain⟨xv,rfl,hxv⟩:=z5;exact kq _ _ ⟨.ret w,ρ2,H2,π2,g5.symm,z2,z3,z4,⟨xv,rfl,hxv⟩,X.gk _ _ _ _ X.g z6.1⟩
      ·refine hold fun u k_=>?_
       obtain⟨d,ρ2,H2,π2,e',C,fl,z1,z2,z3,z4,z5,z6,z7⟩:=hs3;refine k_ ?_;rw[z1] at g5;exact back y s3 ⟨d,ρ2,H2,π2,e',C,fl,g5.symm,z2,z3,z4,z5,z6,z7⟩
    ·rw[zR hw] at g5;exact absurd g5.symm hrb
   ·have hje:j=vs.length:=Nat.le_antisymm hj hge
    subst hje;rw[List.drop_length,zeF] at g5
    by_cases hw:wt.ok H'=true
    ·rw[zT hw] at g5
     refine IT.done π' H' s' _ _ g4 g2.hr hw fun h' tk pk=>?_;obtain⟨k1,k2,k3⟩:=poke (tk:=tk) ne g1 g2 g3 g4 pk;refine wpAny_execs_nil ?_;exact kq _ _ ⟨.next,ρ',H',π',g5.symm,k1,k2,fun u=>ne,rfl,X.gk _ _ _ _ X.g k3⟩
    ·rw[zR hw] at g5;exact absurd g5.symm hrb
 cases hev:evIt true F ρ it Hc with
 |bad=>exact .inl rfl
 |err c' H'=>exact key _ (by simp[R.st]) (fun u u u z=>by rw[hev] at z;cases z) (fun u u z=>by rw[hev] at z;cases z;rfl) (by rw[hev];simp)
 |ok b H1 =>
  obtain⟨vs,wt⟩:=b;simp only[R.st_ok]
  by_cases hb:forL wt (bind1 i) (fun ρ h=>exSs true F body ρ h) vs ρ H1=.bad
  ·exact .inl hb
  ·refine key _ hb (fun vs' wt' H1' z=>?_) (fun u u z=>by rw[hev] at z;cases z) (by rw[hev];simp)
   rw[hev] at z;cases z;rfl
end
section
variable {am:Amb}{n:Nat}{F:Fn}{c:Ck}
inductive WhInv (am:Amb) (cx:Cx) (outer:List Env) (A:Around) (π₀:List Addr) (s₀:Shared) (res π:List Addr) (s:Shared) (f:Nat→List V→H→RS) (r:RS) (k:Nat) (s':Shared):Prop
 |mk (ρ':List V) (H':H) (π':List Addr) (ne:NoExc ρ') (g1:Step (Fs outer) π₀ s₀ π' s') (g2:St am true cx ρ' π' H' A s') (g3:Mv res (Fs cx.sk) π s π' s') (g5:f k ρ' H'=r)
theorem zf1 (t:PE) (body:List PS) (k:Nat) (ρ:List V) (h:H):whileL (fun ρ h=>evE true F ρ t h) (fun ρ h=>exSs true F body ρ h) (k+1) ρ h =
  (tr (evE true F ρ t h)).st ρ fun b h=>if b then(exSs true F body ρ h).then fun ρ h=>whileL (fun ρ h=>evE true F ρ t h) (fun ρ h=>exSs true F body ρ h) k ρ h else .ok .next ρ h:=by
 rw[zkZ]
 cases evE true F ρ t h with
 |ok v h =>
  simp only[tr,R.bind_ok,R.st_ok]
  cases truthy v with
  |none=>rfl
  |some u=>cases u<;>rfl
 |_=>rfl
theorem znS {t:PE}{body:List PS}{y:Expr}{ys:List Stmt}{p:Pos}(ht:TJ am n true F c t y) (hbody:SsJ am n true F c body ys):SJ am n true F c (.while t body) (.While y ys [] p):=fun cx ρ A res outer π₀ s₀ G π Hc s X=>by
 have B:=X.b;have shape:exS true F (.while t body) ρ Hc=whileL (fun ρ h=>evE true F ρ t h) (fun ρ h=>exSs true F body ρ h) turns ρ Hc:=by
  rw[zn4,zR (by decide)]
 rw[shape];generalize hr:whileL (fun ρ h=>evE true F ρ t h) (fun ρ h=>exSs true F body ρ h) turns ρ Hc=r
 by_cases hrb:r=.bad
 ·exact .inl hrb
 refine .inr (zdE fun Q' E' kq ke=>?_);have fr:A.frames=some cx.sk:=B.as.frames;have back:∀ y s',SEr (am.at res) cx outer true A π₀ s₀ r y s'→notedBy am.M A cx.env (cameBackBy am.M A cx.env E') y s':=fun y s' h=>SEr.back X.f fr X.low h ke;refine hold fun z k_=>?_;obtain⟨Inv,toInv,ofInv⟩:∃ Inv:Nat→Shared→Prop,(∀ k s',WhInv (am.at res) cx outer A π₀ s₀ res π s (whileL (fun ρ h=>evE true F ρ t h) (fun ρ h=>exSs true F body ρ h)) r k s'→Inv k s')∧(∀ k s',Inv k s'→WhInv (am.at res) cx outer A π₀ s₀ res π s (whileL (fun ρ h=>evE true F ρ t h) (fun ρ h=>exSs true F body ρ h)) r k s'):=⟨_,fun z z h=>h,fun z z h=>h⟩
 refine k_ ?_;refine wpAny_While (codeAny_whileLoop Inv (fun k s' hk=>?_) turns (toInv _ _ ⟨ρ,Hc,π,B.ne rfl,X.go,X.st,.of (Step.refl _ _ _),hr⟩));refine hold fun z k_=>?_;obtain⟨ρ',H',π',ne,g1,g2,g3,g5⟩:=ofInv _ _ hk;refine k_ ?_
 cases k with
 |zero=>exact absurd g5.symm hrb
 |succ k =>
  rw[zf1] at g5;have Y:Stm am n true F c cx A res outer π₀ s₀ (fun π' s'=>Mv res (Fs cx.sk) π s π' s') ρ' π' H' s':=⟨B.set fun z=>ne,X.f,g1,g2,X.low,g3,fun z z z z h m=>h.trans m⟩
  rcases ht Y.b Y.st with hb|hb
  ·rw[hb] at g5;exact absurd g5.symm hrb
  ·refine yV hb (fun b s2 h2=>?_) fun e s2 h2=>?_
   ·refine hold fun z k_=>?_
    obtain⟨b',H2,π2,e1,e2,e3,e4⟩:=h2;refine k_ ?_;unfold BR at e4;subst e4;rw[e1,R.st_ok] at g5;have Z:=Y.step e2 e3
    cases b' with
    |false =>
     rw[zR (by simp)] at g5 ⊢
     exact wpAny_execs_nil (kq _ _ ⟨.next,ρ',H2,π2,g5.symm,Z.go,Z.st,fun z=>ne,rfl,X.gk _ _ _ _ X.g Z.g⟩)
    |true =>
     rw[zT rfl] at g5 ⊢
     rcases hbody Z with hb|hb
     ·rw[hb] at g5;exact absurd g5.symm hrb
     ·refine yV hb (fun fl s3 hs3=>?_) fun y s3 hs3=>?_
      ·refine hold fun z k_=>?_
       obtain⟨f',ρ2,H2,π2,z1,z2,z3,z4,z5,z6⟩:=hs3;refine k_ ?_;rw[z1] at g5
       cases f' with
       |next =>
        cases z5
        exact⟨k,Nat.lt_succ_self k,toInv _ _ ⟨ρ2,H2,π2,z4 rfl,z2,z3,z6,g5⟩⟩
       |ret w =>
        obtain⟨xv,rfl,hxv⟩:=z5;exact kq _ _ ⟨.ret w,ρ2,H2,π2,g5.symm,z2,z3,z4,⟨xv,rfl,hxv⟩,X.gk _ _ _ _ X.g z6⟩
      ·refine hold fun z k_=>?_
       obtain⟨d,ρ2,H2,π2,e',C,fl,z1,z2,z3,z4,z5,z6,z7⟩:=hs3;refine k_ ?_;rw[z1] at g5;exact back y s3 ⟨d,ρ2,H2,π2,e',C,fl,g5.symm,z2,z3,z4,z5,z6,z7⟩
   ·refine hold fun z k_=>?_
    obtain⟨c',H2,π2,e',C,fl,e1,e2,e3,e4,e5,e6⟩:=h2;refine k_ ?_;rw[e1] at g5;have Z:=Y.step e4 e5;exact back e s2 ⟨c',ρ',H2,π2,e',C,fl,g5.symm,e2,e3,Z.go,Z.st,fun z=>ne,e6.mono (za6 X.f g1)⟩
end
def Poke2 (I J:Addr) (h h':Heap):Prop:=∀ b o,b≠I→b≠J→h.get? b=some o→h'.get? b=some o
theorem Poke2.slots (p:Poke2 I J h h') (ho:h.get? I=some o) (hd:o.data=.fields us) (ho':h.get? J=some o') (hd':o'.data=.fields us'):h.UpToSlots h':=fun b x hb hn =>
 ⟨x.slots,p b x (fun q=>by subst q;rw[ho] at hb;cases hb;exact hn us hd) (fun q=>by subst q;rw[ho'] at hb;cases hb;exact hn us' hd') hb⟩
theorem zav {h:Heap}{b I:Addr}{o:Obj}(hI:h.get? I=none) (e:h.get? b=some o):b≠I:=fun q=>by subst q;rw[hI] at e;cases e
theorem Step.poke2 {Fs π π':List Addr}{s s':Shared}{I J:Addr}{h'':Heap}{tk:Nat}(x:Step Fs π s π' s') (hI:s.heap.get? I=none) (hJ:s.heap.get? J=none) (p:Poke2 I J s'.heap h''):Step Fs π s π' { s' with heap:=h'',toks:=tk }:=by
 obtain⟨h',tk',rfl⟩:=x.same;refine⟨⟨h'',tk,rfl⟩,⟨fun a o e h1 h2=>p a o (zav hI e) (zav hJ e) (x.ext.keep a o e h1 h2),fun a o e h1=>?_,fun a o e=>?_⟩,x.grow⟩
 ·obtain⟨sl,h3⟩:=x.ext.slots a o e h1
  exact⟨sl,p a _ (zav hI e) (zav hJ e) h3⟩
 ·obtain⟨o',h3⟩:=x.ext.alive a o e
  exact⟨o',p a o' (zav hI e) (zav hJ e) h3⟩
theorem Mv.poke2 {R Fs π π':List Addr}{s s':Shared}{I J:Addr}{h'':Heap}{tk:Nat}(x:Mv R Fs π s π' s') (hI:s.heap.get? I=none) (hJ:s.heap.get? J=none) (p:Poke2 I J s'.heap h''):Mv R Fs π s π' { s' with heap:=h'',toks:=tk }:=by
 obtain⟨h',tk',rfl⟩:=x.same;refine⟨⟨h'',tk,rfl⟩,fun a o e h1 h2 h3=>p a o (zav hI e) (zav hJ e) (x.keep a o e h1 h2 h3),fun a o e h1 h3=>?_,fun a o e=>?_,x.grow⟩
 ·obtain⟨sl,h4⟩:=x.slots a o e h1 h3
  exact⟨sl,p a _ (zav hI e) (zav hJ e) h4⟩
 ·obtain⟨o',h4⟩:=x.alive a o e
  exact⟨o',p a o' (zav hI e) (zav hJ e) h4⟩
theorem zcL:∀ (n:Nat) (vs:List V),(zaj n vs).length=vs.length
 |_,[]=>rfl
 |n,v::vs=>by rw[zaj,length_cons,length_cons,zcL (n+1) vs]
theorem zht:∀ (n:Nat) (vs:List V) (j:Nat),(zaj n vs)[j]?=vs[j]?.map fun v=>.tup [.int ((n+j:Nat):Int),v]
 |_,[],j=>by simp[zaj]
 |n,v::vs,0=>rfl
 |n,v::vs,j+1=>by
  rw[zaj,List.getElem?_cons_succ,List.getElem?_cons_succ,zht (n+1) vs j,Nat.add_right_comm n 1 j];rfl
theorem zks (h:vs[j]?=some v):(zaj 0 vs).drop j=.tup [.int (j:Int),v]::(zaj 0 vs).drop (j+1):=by
 have hl:j < (zaj 0 vs).length:=by rw[zcL];exact(List.getElem?_eq_some_iff.1 h).1
 have e:=zht 0 vs j;rw[h,zM hl] at e;rw[drop_eq_getElem_cons hl,Option.some.inj e,Nat.zero_add]
structure ES (am:Amb) (sk:List Env) (e it:Addr) (i:Nat) (j:Nat) (π:List Addr) (h:Heap):Prop where
 e1:e ∉ π
 e2:e ∉ Fs sk
 e3:e ∉ am.res
 t1:it ∉ π
 t2:it ∉ Fs sk
 t3:it ∉ am.res
 ne:e≠it
 en:∃ old,IsEnum h e it j old
 li:∃ l,π[i]?=some l∧h.IsListIter it l j
theorem ES.move {am:Amb}{sk:List Env}{e it:Addr}{i j:Nat}{π π':List Addr}{s s':Shared}(x:ES am sk e it i j π s.heap) (m:Mv am.res (Fs sk) π s π' s'):ES am sk e it i j π' s'.heap:=by
 obtain⟨e1,e2,e3,t1,t2,t3,ne,⟨old,he⟩,l,hl,o,ho,hr⟩:=x;obtain⟨δ,ed,_⟩:=m.grow;refine⟨m.notin he e1,e2,e3,m.notin ho t1,t2,t3,ne,⟨old,m.keep _ _ he e1 e2 e3⟩,l,?_,o,m.keep _ _ ho t1 t2 t3,hr⟩;rw[ed,List.getElem?_append_left (List.getElem?_eq_some_iff.mp hl).1];exact hl
section
variable {am:Amb}{n:Nat}{q:Bool}{F:Fn}{c:Ck}
noncomputable def EnR (am:Amb) (sk:List Env) (h₀:Heap) (π:List Addr) (h:Heap) (b:List V × Watch) (x:Value):Prop :=
 ∃ e it i vs,x=.ref e∧b=(zaj 0 vs,some (i,.list vs))∧(h₀.get? e=none∧h₀.get? it=none∧am.B.get? e=none∧am.B.get? it=none)∧ES am sk e it i 0 π h
theorem zoF (hx:c.glob "enumerate"=true) (hy:isStar y=false) (h:EJ am n true F c e y) (B:Base am n true F c cx ρ A) (st:St (am.at res) true cx ρ π Hc A s) :
  JT (am.at res) cx.sk (fun Q E s=>wpAny am.M A (eval (.Call (.Name "enumerate" p) [y] [] p') cx.env) (fun xv s₁=>wpAny am.M A (pyIter xv) Q E s₁) E s) (evIt true F ρ (.enum e) Hc) (EnR (am.at res) cx.sk s.heap) π s:=by
 rw[zsb];refine JT.rule (T:=fun Q E s=>wpAny am.M A (eval y cx.env) (fun v s₁=>wpAny am.M A (PySem.call (.type "enumerate") [v]) (fun xv s₂=>wpAny am.M A (pyIter xv) Q E s₂) E s₁) E s)
  (JT.bind (fun u=>PT.seq _ _ fun u=>PT.wp _ _) (h B st) fun z v H1 π1 s1 u hs1 hr1 hv1=>?_) fun Q E h=>zaq B st.hr hx (zbI (by kernel_rfl)) (by simpa using hy) (spl1 h)
 cases v with
 |ref i =>
  simp only[VR] at hv1;obtain⟨l,rfl,hi⟩:=hv1;simp only[enumOf]
  cases hH:H1[i]? with
  |none=>exact .inl rfl
  |some cc=>cases cc with
   |dict es=>exact .inl rfl
   |list vs =>
    obtain⟨xs,pl,hz,hv⟩:=(hr1.cell i _ l hH hi).list;refine .inr (call_enumerate_list pl.is fun h' hE hIt hsz hk=>wpAny_pyIter_enum hE ?_);have n1:s1.heap.get? s1.heap.objs.size=none:=zat _;have n2:s1.heap.get? (s1.heap.objs.size+1)=none:=by
     cases hq:s1.heap.get? (s1.heap.objs.size+1) with
     |none=>rfl
     |some o=>exact absurd (Heap.lt_size hq) (Nat.not_lt_of_le (Nat.le_succ _))
    have z1:∀ a,s1.heap.get? a=none→s.heap.get? a=none:=fun a ha=>by
     cases hq:s.heap.get? a with
     |none=>rfl
     |some o=>obtain⟨o',z⟩:=hs1.ext.alive a o hq;rw[ha] at z;cases z
    refine OkP.keeps (tk:=s1.toks) hr1 hk ⟨_,_,i,vs,rfl,rfl,⟨z1 _ n2,z1 _ n1,zai hr1.base n2,zai hr1.base n1⟩,?_⟩;exact⟨zaJ hr1 n2,zbj hr1 n2,zaG hr1 n2,zaJ hr1 n1,zbj hr1 n1,zaG hr1 n1,Nat.succ_ne_self _,⟨_,hE⟩,l,hi,hIt⟩
 |_=>exact .inl rfl
end
section
variable {am:Amb}{n:Nat}{q:Bool}{F:Fn}{c:Ck}
theorem zpH {i i':Nat}{e:PE}{body:List PS}{y:Expr}{v v':Str}{p p1 p2 p3 p4 p5:Pos}{x1:Nat}{ys:List Stmt}(hx:c.glob "enumerate"=true) (hy:isStar y=false) (he:EJ am n true F c e y) (hbody:SsJ am n true F c body ys)
  (hv:c.var v i=true) (hk:c.names.lookup v≠some .free) (hv':c.var v' i'=true) (hf':c.names.lookup v'≠some .free) (hinj:(c.ctx.map (·.2)).Nodup) :
  SJ am n true F c (.for2 i i' (.enum e) body) (.For (.Tuple [.Name v p1,.Name v' p2] x1 p3) (.Call (.Name "enumerate" p4) [y] [] p5) ys [] p):=fun cx ρ A res outer π₀ s₀ G π Hc s X=>by
 have B:=X.b;have shape:exS true F (.for2 i i' (.enum e) body) ρ Hc=(evIt true F ρ (.enum e) Hc).st ρ fun vs h=>forL vs.2 (bind2 i i') (fun ρ h=>exSs true F body ρ h) vs.1 ρ h:=by
  rw[zsa,zR (by simp)]
 rw[shape];have hI:=zoF (p:=p4) (p':=p5) hx hy he B X.st;have key:∀ (r:RS),r≠.bad→(∀ vs wt H1,evIt true F ρ (.enum e) Hc=.ok (vs,wt) H1→forL wt (bind2 i i') (fun ρ h=>exSs true F body ρ h) vs ρ H1=r) →
   (∀ c' H',evIt true F ρ (.enum e) Hc=.err c' H'→r=.err c' ρ H')→evIt true F ρ (.enum e) Hc≠.bad →
   SP (am.at res) cx outer true A π₀ s₀ G (fun Q E s=>wpAny am.M A (exec (.For (.Tuple [.Name v p1,.Name v' p2] x1 p3) (.Call (.Name "enumerate" p4) [y] [] p5) ys [] p) cx.env) Q E s) r s:=by
  intro r hrb h1 h2 h3
  rcases hI with hI|hI
  ·exact absurd hI h3
  ·refine .inr ?_
   have erp:∀ y s',ErP (am.at res) cx.sk π s (evIt true F ρ (.enum e) Hc) y s'→SEr (am.at res) cx outer true A π₀ s₀ r y s':=fun y s' h=>by
    refine hold fun u k_=>?_;obtain⟨c',H'',π',e',C,fl,hh,g2,g3,g4,g5,g6⟩:=h;refine k_ ?_;have Y:=X.step g4 g5;exact⟨c',ρ,H'',π',e',C,fl,h2 c' H'' hh,g2,g3,Y.go,Y.st,X.b.ne,g6.mono (za6 X.f X.go)⟩
   refine zdE fun Q' E' kq ke=>?_
   replace erp:=fun y s' h=>ke y s' (erp y s' h)
   refine wpAny_For (yV hI (fun xv s₁ h₁=>yV h₁ (fun itv s₂ h₂=>?_) erp) erp) (zed rfl cx.env);refine hold fun u k_=>?_;obtain⟨b,H1,π1,q1,q2,q3,e,it,ci,vs,rfl,rfl,⟨n1,n2,n3,n4⟩,es⟩:=h₂;refine k_ ?_;have e0:=h1 _ _ H1 q1;have fr:A.frames=some cx.sk:=B.as.frames;have hh:=Hd.quiet X.st.hd;have back:∀ y s',SEr (am.at res) cx outer true A π₀ s₀ r y s'→notedBy am.M A cx.env (cameBackBy am.M A cx.env E') y s':=fun y s' h=>SEr.back X.f fr X.low h ke
   have hs0:∀ I,s.heap.get? I=none→s₀.heap.get? I=none:=fun I hI=>by
    cases hq:s₀.heap.get? I with
    |none=>rfl
    |some o=>obtain⟨o',z⟩:=X.go.ext.alive I o hq;rw[hI] at z;cases z
   have poke:∀ {ρ':List V}{π':List Addr}{H':H}{s':Shared}{h':Heap}{tk k:Nat},NoExc ρ'→Step (Fs outer) π₀ s₀ π' s'→St (am.at res) true cx ρ' π' H' A s'→Mv res (Fs cx.sk) π s π' s'→ES (am.at res) cx.sk e it ci k π' s'.heap→Poke2 e it s'.heap h' →
     Step (Fs outer) π₀ s₀ π' { s' with heap:=h',toks:=tk }∧St (am.at res) true cx ρ' π' H' A { s' with heap:=h',toks:=tk }∧Mv res (Fs cx.sk) π s π' { s' with heap:=h',toks:=tk }∧s'.heap.UpToSlots h':=by
    intro ρ' π' H' s' h' tk k ne g1 g2 g3 g4 pk;refine hold fun u k_=>?_;obtain⟨old,ho⟩:=g4.en;obtain⟨l,_,o,ho',_,hd'⟩:=g4.li;refine k_ ?_;have sl:=pk.slots ho rfl ho' hd';exact⟨g1.poke2 (hs0 _ n1) (hs0 _ n2) pk,⟨g2.hr.upto sl fun b o e=>pk b o (zav n3 e) (zav n4 e) (g2.hr.base b o e),g2.er.upto sl ne,g2.hd⟩,g3.poke2 n1 n2 pk,sl⟩
   refine hold fun u k_=>?_;obtain⟨Inv,toInv,ofInv⟩:∃ Inv:Nat→Shared→Prop,(∀ k s',ForInv (am.at res) cx outer A π₀ s₀ res π s (ES (am.at res) cx.sk e it ci) (some (ci,.list vs)) (bind2 i i') (fun ρ h=>exSs true F body ρ h) (zaj 0 vs) r k s'→Inv k s')∧(∀ k s',Inv k s'→ForInv (am.at res) cx outer A π₀ s₀ res π s (ES (am.at res) cx.sk e it ci) (some (ci,.list vs)) (bind2 i i') (fun ρ h=>exSs true F body ρ h) (zaj 0 vs) r k s'):=⟨_,fun u u h=>h,fun u u h=>h⟩
   refine k_ ?_;refine codeAny_forLoop_any Inv
    (fun k s' hk'=>?_) (zaj 0 vs).length (toInv _ _ ⟨0,ρ,H1,π1,(Nat.sub_zero _).symm,Nat.zero_le _,B.ne rfl,X.go.inn X.f q2,X.st.step q2 q3,.of q2,es,by simpa using e0⟩)
   refine hold fun u k_=>?_;obtain⟨j,ρ',H',π',rfl,hj,ne,g1,g2,g3,g4,g5⟩:=ofInv _ _ hk';obtain⟨old,en⟩:=g4.en;obtain⟨l,hl,li⟩:=g4.li;refine k_ ?_
   by_cases hw:Watch.ok (some (ci,Cell.list vs)) H'=true
   ·have hcell:H'[ci]?=some (.list vs):=by simpa [Watch.ok] using hw
    refine hold fun u k_=>?_;obtain⟨xs,pl,_,hvs⟩:=(g2.hr.cell ci _ l hcell hl).list;refine k_ ?_
    rcases Nat.lt_or_ge j vs.length with hlt|hge
    ·have hget:vs[j]?=some vs[j]:=zM hlt
     rw[zks hget,zdg,zT hw] at g5;rw[show bind2 i i' ρ' (.tup [.int (j:Int),vs[j]])=some ((ρ'.set i (.int (j:Int))).set i' vs[j]) from rfl] at g5;dsimp only at g5;refine hold fun u k_=>?_;obtain⟨xj,hxj,hvx⟩:=hvs.get j _ hget;refine k_ ?_;refine wpAny_pyNext_enum_item en li pl.is (by simpa using hxj) g4.ne fun h₁ heo hit₁ ht₁ hz₁ hk₁=>?_
     refine wpAny_letOwnedTupleGo_enum heo fun h₂ he₂ hs₂=>?_
     replace hs₂:Heap.SameBut e h₁ h₂:=hs₂
     have heH:e < s'.heap.objs.size:=Heap.lt_size en;have hiH:it < s'.heap.objs.size:=by obtain⟨o,ho,_⟩:=li;exact Heap.lt_size ho
     have ht₂:h₂.IsTuple s'.heap.objs.size #[.int j s'.toks,xj]:=⟨_,(hs₂.2 _ (Nat.ne_of_gt heH)).trans ht₁,rfl,_,rfl⟩;have hz₂:h₂.objs.size=s'.heap.objs.size+1:=hs₂.1.trans hz₁;refine wpAny_assign_Tuple hh ht₂ rfl rfl fun h₃ hx₃=>?_
     replace hx₃:Heap.ExtBut h₂.objs.size h₂ h₃:=hx₃
     have old₃:∀ b o,b < s'.heap.objs.size→h₂.get? b=some o→h₃.get? b=some o:=fun b o hb x=>hx₃ b o (by rw[hz₂];exact Nat.ne_of_lt (Nat.lt_succ_of_lt hb)) x
     have pk:Poke2 e it s'.heap h₃:=fun b o h1 h2 x=>old₃ b o (Heap.lt_size x) (hs₂.extBut b o h1 (hk₁ b o h1 h2 x));refine hold fun u k_=>?_;obtain⟨k1,k2,k3,sl⟩:=poke (tk:=s'.toks+1) ne g1 g2 g3 g4 pk;refine k_ ?_;have es':ES (am.at res) cx.sk e it ci (j+1) π' h₃:=by
      refine⟨g4.e1,g4.e2,g4.e3,g4.t1,g4.t2,g4.t3,g4.ne,⟨_,old₃ e _ heH he₂⟩,l,hl,?_⟩;exact(hit₁.extBut hs₂.extBut (Ne.symm g4.ne)).at fun o x=>old₃ it o hiH x
     let G':List Addr→Shared→Prop:=fun π' s'=>Mv res (Fs cx.sk) π s π' s'∧ES (am.at res) cx.sk e it ci (j+1) π' s'.heap
     have Y:Stm am n true F c cx A res outer π₀ s₀ G' ρ' π' H' { s' with heap:=h₃,toks:=s'.toks+1 } :=
      ⟨B.set fun u=>ne,X.f,k1,k2,X.low,⟨k3,es'⟩,fun u u u u h m=>⟨h.1.trans m,h.2.move m⟩⟩
     have hx3:VR (am.at res) π' h₃ vs[j] xj:=hvx.upto sl;show wpAny _ A (do holding [xj] (assign (.Name v p1) cx.env (.int j s'.toks));do holding [] (assign (.Name v' p2) cx.env xj);pure ()) _ _ _
     refine yX (yU (wpAny_assign_Name (zbb Y (v:=.int j) (by simp only[VR];exact⟨_,rfl⟩) hv hk hinj fun s'' Z u kf=>?_)))
     refine yX (yU (wpAny_assign_Name (zbb Z (hx3.free kf) hv' hf' hinj fun s3' Z' u u=>yW ?_)))
     rcases hbody Z' with hb|hb
     ·rw[hb] at g5;exact absurd g5.symm hrb
     ·refine yV hb (fun fl s3 hs3=>?_) fun y s3 hs3=>?_
      ·refine hold fun u k_=>?_
       obtain⟨f',ρ2,H2,π2,z1,z2,z3,z4,z5,z6⟩:=hs3;refine k_ ?_;rw[z1] at g5
       cases f' with
       |next =>
        cases z5
        have hl':j < (zaj 0 vs).length:=by rw[zcL];exact hlt
        exact⟨(zaj 0 vs).length - (j+1),Nat.sub_lt_sub_left hl' (Nat.lt_succ_self j),toInv _ _ ⟨j+1,ρ2,H2,π2,rfl,hl',z4 rfl,z2,z3,z6.1,z6.2,by simpa using g5⟩⟩
       |ret w =>
        obtain⟨xv,rfl,hxv⟩:=z5;exact kq _ _ ⟨.ret w,ρ2,H2,π2,g5.symm,z2,z3,z4,⟨xv,rfl,hxv⟩,X.gk _ _ _ _ X.g z6.1⟩
      ·refine hold fun u k_=>?_
       obtain⟨d,ρ2,H2,π2,e',C,fl,z1,z2,z3,z4,z5,z6,z7⟩:=hs3;refine k_ ?_;rw[z1] at g5;exact back y s3 ⟨d,ρ2,H2,π2,e',C,fl,g5.symm,z2,z3,z4,z5,z6,z7⟩
    ·have hje:(zaj 0 vs).drop j=[]:=List.drop_eq_nil_of_le (by rw[zcL];exact hge)
     rw[hje,zeF,zT hw] at g5;refine wpAny_pyNext_enum_end hh en li pl.is (by rw[List.getElem?_toArray];exact List.getElem?_eq_none (by rw[hvs.len];exact hge)) fun h₁ hx₁=>?_
     refine hold fun u k_=>?_;obtain⟨k1,k2,k3,_⟩:=poke (tk:=s'.toks) ne g1 g2 g3 g4 fun b o u h2 x=>hx₁ b o h2 x;refine k_ ?_;refine wpAny_execs_nil ?_;exact kq _ _ ⟨.next,ρ',H',π',g5.symm,k1,k2,fun u=>ne,rfl,X.gk _ _ _ _ X.g k3⟩
   ·cases hd:(zaj 0 vs).drop j with
    |nil=>rw[hd,zeF,zR hw] at g5;exact absurd g5.symm hrb
    |cons a as=>rw[hd,zdg,zR hw] at g5;exact absurd g5.symm hrb
 cases hev:evIt true F ρ (.enum e) Hc with
 |bad=>exact .inl rfl
 |err c' H'=>exact key _ (by simp[R.st]) (fun u u u z=>by rw[hev] at z;cases z) (fun u u z=>by rw[hev] at z;cases z;rfl) (by rw[hev];simp)
 |ok b H1 =>
  obtain⟨vs,wt⟩:=b;simp only[R.st_ok]
  by_cases hb:forL wt (bind2 i i') (fun ρ h=>exSs true F body ρ h) vs ρ H1=.bad
  ·exact .inl hb
  ·refine key _ hb (fun vs' wt' H1' z=>?_) (fun u u z=>by rw[hev] at z;cases z) (by rw[hev];simp)
   rw[hev] at z;cases z;rfl
end
theorem zhP {h h':Heap}{bmB tl:List Value}(T:OwnTail h bmB tl) (hk:∀ b o,h.get? b=some o→h'.get? b=some o):OwnTail h' bmB tl:=by
 induction T with
 |base=>exact .base
 |own h1 h2 h3 _ ih=>exact .own (hk _ _ h1) (zbZ hk h2) h3 ih
section
variable {am:Amb}{n:Nat}{q:Bool}{F:Fn}{c:Ck}
theorem znT {d:String}{t:Str}{k:Nat}{np cpos pos p:Pos}(hd:d∈zaf) (hg:c.glob (Str.ofString d)=true) :
  SJ am n q F c (.raise d) (.Raise (some (.Call (.Name (Str.ofString d) np) [.Constant (.str t) k p] [] cpos)) none pos):=fun cx ρ A res outer π₀ s₀ G π Hc s x=>by
 simp -iota only[zrv]
 cases q with
 |false=>exact .inl rfl
 |true =>
  rw[zR (by simp)]
  obtain⟨C,X⟩:=x.b.ok.exc d hd;refine hold fun u k_=>?_;obtain⟨nm,qn,N,bs,bm,hdct,sn,sub,ab,col,dd,k0,k1,k2,k3,k5,mN,r1,r2,r3,r4⟩:=x.b.ok.rs d hd C X.name;refine k_ ?_;have hpl:backTo cpos (starEach [.Constant (.str t) k p] cx.env)=zam [.Constant (.str t) k p] cx.env:=zae _ (fun z hz=>by rw[zK.mp hz];rfl) _
  have kb:=x.st.hr.base;refine .inr (wpAny_Raise_call_subT (C:=C) (nm:=nm) (q:=qn) (N:=N) (bs:=bs) (bm:=bm) (hdct:=hdct) (sn:=sn) (sub:=sub) (ab:=ab) (col:=col) (dd:=dd) (k0:=k0) (k1:=k1) (k2:=k2) (k3:=k3) (k5:=k5) _root_.PySem.F.excBase_ValueError (r4.tail.hasType (by decide)) x.st.hd (by rw[hpl];rfl) (r3 _ (.head _)) (zca x.b x.st.hr hg X.name ⟨rfl,?_⟩))
  rw[hpl];refine Calls.evalArgs_plain (spl1 (wpAny_Constant_str ⟨rfl,by simp;decide,kb _ _ r1,zbZ kb r2,zhP r4.tail kb,fun h' e hm=>?_⟩))
  have y:Step (Fs cx.sk) π s π { s with heap:=h',toks:=s.toks+1 }:=.keeps hm.keeps
  have Y:=x.step y (x.st.hr.keeps hm.keeps);refine hold fun u k_=>?_;obtain⟨t',e1,e2,e3⟩:=hm.there;refine k_ ?_;have low:(ground outer π₀ s₀.heap).StaysIn s.heap:=fun b o e=>of_hideAll _ (za6 x.f x.go b o e);exact⟨d,ρ,Hc,π,e,C,none,rfl,rfl,X.name,Y.go,Y.st,x.b.ne,⟨fun b o e=>hm.keeps b o (low b o e),zai low hm.new,_,_,e1,⟨rfl,rfl⟩,rfl,rfl,rfl⟩⟩
theorem zn0 {am:Amb}{sk:List Env}{π:List Addr}{Hc:H}{h:Heap}(hr:HR am sk π Hc h){e:Addr}{o:Obj}{vs:Array Value}(ho:h.get? e=some o) (hd:o.data=.fields vs):e ∉ π∧e ∉ Fs sk:=by
 refine⟨fun hm=>?_,fun hm=>?_⟩
 ·obtain⟨i,hi,e1⟩:=getElem_of_mem hm
  have h1:π[i]?=some e:=by rw[zM hi,e1]
  have h2:i < Hc.length:=by rw[←hr.len];exact hi
  obtain⟨o',ho',hn⟩:=(hr.cell i Hc[i] e (by simp[h2]) h1).obj
  rw[ho] at ho';cases ho';exact hn vs hd
 ·refine hold fun z k_=>?_
  obtain⟨_,o',ho',hn⟩:=hr.frames.mem hm;refine k_ ?_;rw[ho] at ho';cases ho';exact hn vs hd
theorem zi0:exS true F (.try body "RingError" i [.ret ex]) ρ Hc=(match exSs true F body ρ Hc with
  |.err d ρ' H'=>if zaf.contains d then(match evE false F (ρ'.set i (.exc d)) ex H' with
   |.ok w H2=>.ok (.ret w) ((ρ'.set i (.exc d)).set i .uu) H2
   |_=>.bad) else .bad
  |r=>r):=by
 simp -iota only[zn3];rw[zR (by simp)]
 cases exSs true F body ρ Hc with
 |bad=>rfl
 |ok f ρ h=>rfl
 |err d ρ' H' =>
  by_cases hx:zaf.contains d=true
  ·refine(zT (by rw[hx];rfl)).trans (Eq.trans ?_ (zT hx).symm)
   simp -iota only[zn2,zpT]
   cases evE false F (ρ'.set i (.exc d)) ex H'<;>rfl
  ·exact(zR (by rw[Bool.eq_false_iff.2 hx];exact Bool.false_ne_true)).trans (zR hx).symm
theorem zim {i:Nat}{ex:PE}{ey:Expr}{d:String}{v:Str}{p4 hp:Pos}{C e:Addr}{w:V}{H2 H':H}{ρ':List V}{π':List Addr}(hv:c.var v i=true) (hkl:c.names.lookup v=some .local) (hinj:(c.ctx.map (·.2)).Nodup)
  (he:EJ am n false F c ex ey){cx:Cx}{ρ:List V}{A:Around}{res:List Addr}{outer:List Env}{π₀:List Addr}{s₀:Shared}{π:List Addr}{Hc:H}{s1 s:Shared}(X:Stm am n true F c cx A res outer π₀ s₀ (fun t t=>True) ρ π Hc s1)
  (hC:am.mg (Str.ofString d)=some (.ref C)) (g1:Step (Fs outer) π₀ s₀ π' s) (g2:St (am.at res) true cx ρ' π' H' A s) (ne:NoExc ρ') (BF:∀ ρ,Base am n false F c cx ρ (A.mark (some (.ref e)))){fl:Value}(x₂:XAt (ground outer π₀ s₀.heap) s.heap e (.ref C) (some fl))
  (hev:evE false F (ρ'.set i (.exc d)) ex H'=.ok w H2){R:Except Value Flow→Shared→Prop}{Q':Flow→Shared→Prop}{E':Value→Shared→Prop}(kR:∀ f s₂,wpAny am.M A (do bindName cx.env v .none;unbindBehindTheSuite cx.env v hp) (fun t s₃=>Q' f s₃) E' s₂→R (.ok f) s₂)
  (kq:∀ a s,SOk (am.at res) cx outer true A π₀ s₀ (fun t t=>True) (.ok (.ret w) ((ρ'.set i (.exc d)).set i .uu) H2) a s→Q' a s) :
  codeAny am.M (A.mark (some (.ref e))) (.handlers (.ref e) [.ExceptHandler none (some v) [.Return (some ey) p4] hp] cx.env) R s:=by
 refine codeAny_handlers_suite_as (zcC (fr:=none) x₂ fun h₃ x₃ t₃=>?_);have g1:=g1.touch X.f g2.hr t₃;have g2:=g2.touch ne X.low t₃;unfold Ck.var at hv;simp only[Bool.and_eq_true,beq_iff_eq,Bool.not_eq_true'] at hv;refine hold fun t k_=>?_;obtain⟨⟨⟨hv1,hv2⟩,hv3⟩,hv4⟩:=hv;refine k_ ?_;have hkl':cx.env.kindOf v=some .local:=by rw[zdd X.b.ck];exact hkl
 have hctx:cx.ctx.lookup v=some i:=by rw[X.b.ck.ctx];exact hv1
 have uniq:=zhd X.b.ck hv1 hinj;obtain⟨m,hm⟩:=g2.er.ns;refine wpAny_storeName_local hkl' hm (fun h₄ hn₄ sb₄=>?_) (by simp[X.b.cxk.kind])
 have p₄:Poke cx.env.locals h₃ h₄:=fun b o hb q=>sb₄.extBut b o hb q;refine hold fun t k_=>?_;obtain⟨st3,bn3,oe3,vs3,q1,q2,q3,q4,_⟩:=id x₃;refine k_ ?_;have off:=zn0 g2.hr q1 q3;have hel:e≠cx.env.locals:=fun q=>(zgn (Ns.nf hm) q1 q3) q.symm;have hr4:HR (am.at res) cx.sk π' H' h₄:=g2.hr.freed X.f.res X.f.base g2.er.locOff p₄ (Ns.nf hn₄);have ex4:ExcAt (am.at res) h₄ d e:=⟨C,oe3,vs3,hC,p₄ e oe3 hel q1,q2,q3,q4,zai X.low bn3⟩
 have er4:ER (am.at res) cx (ρ'.set i (.exc d)) π' h₄:=ER.setLocal (am:=am.at res) g2.er hm hn₄ p₄ X.f.res hctx hkl' uniq (fun t=>⟨.ref e,rfl,.inr ⟨d,e,rfl,rfl,off.1,ex4⟩⟩);have hd4:Hd false (A.mark (some (.ref e))) π' (Fs cx.sk) h₄:=⟨e,oe3,vs3,rfl,off.1,off.2,p₄ e oe3 hel q1,q3,q4⟩;have g1:=g1.poke (tk:=s.toks+1) X.f.fresh p₄;have J:=he (BF (ρ'.set i (.exc d))) (s:={ s with heap:=h₄,toks:=s.toks+1 }) ⟨hr4,er4,hd4⟩
 rw[hev] at J
 rcases J with J|J
 ·cases J
 refine wpAny_execs_cons (wpAny_Return_some (yV J (fun xv s₅ z=>?_) fun y s₅ z=>?_))
 ·refine hold fun t k_=>?_
  obtain⟨b,H4,π5,z1,z2,z3,z4⟩:=z;refine k_ ?_
  cases z1
  have er5:=er4.step (s':=s₅) z2;obtain⟨m5,hm5⟩:=er5.ns;have g1:=g1.inn X.f z2;refine kR _ _ (wpAny_nameGoes_keeps hkl' hm5 (by simp[X.b.cxk.kind]) fun h₆ v₆ hn₆ sb₆=>?_)
  have p₆:Poke cx.env.locals s₅.heap h₆:=fun b o hb q=>sb₆.extBut b o hb q;have g1:=g1.poke (tk:=s₅.toks+1) X.f.fresh p₆;refine kq _ _ ⟨.ret w,_,_,π5,rfl,g1,⟨z3.freed X.f.res X.f.base er5.locOff p₆ (Ns.nf hn₆),ER.setLocal (am:=am.at res) er5 hm5 hn₆ p₆ X.f.res hctx hkl' uniq (fun q=>absurd rfl q),X.st.hd⟩,fun t=>?_,⟨xv,rfl,z4.free fun b o hb z=>p₆ b o (fun q=>hb (q ▸ X.f.res)) z⟩,trivial⟩;intro u hu k hk
  rw[set_set] at hu;exact ne.set (v:=.uu) (by simp) u hu k hk
 ·obtain⟨_,_,_,_,_,_,z,_⟩:=z;cases z
theorem zme {i:Nat}{ex:PE}{ey:Expr}{d:String}{v:Str}{tp p4 hp:Pos}{C e:Addr}{w:V}{H2 H':H}{ρ':List V}{π':List Addr}(hg:c.glob (Str.ofString "RingError")=true) (hdm:d∈zaf) (hv:c.var v i=true) (hkl:c.names.lookup v=some .local) (hinj:(c.ctx.map (·.2)).Nodup)
  (he:EJ am n false F c ex ey){cx:Cx}{ρ:List V}{A:Around}{res:List Addr}{outer:List Env}{π₀:List Addr}{s₀:Shared}{π:List Addr}{Hc:H}{s1 s:Shared}(X:Stm am n true F c cx A res outer π₀ s₀ (fun z z=>True) ρ π Hc s1)
  (hC:am.mg (Str.ofString d)=some (.ref C)) (g1:Step (Fs outer) π₀ s₀ π' s) (g2:St (am.at res) true cx ρ' π' H' A s) (ne:NoExc ρ'){fl:Value}(x₂:XAt (ground outer π₀ s₀.heap) s.heap e (.ref C) (some fl))
  (hev:evE false F (ρ'.set i (.exc d)) ex H'=.ok w H2){Q':Flow→Shared→Prop}{E':Value→Shared→Prop}
  (kq:∀ a s,SOk (am.at res) cx outer true A π₀ s₀ (fun z z=>True) (.ok (.ret w) ((ρ'.set i (.exc d)).set i .uu) H2) a s→Q' a s) :
  wpAny am.M A (handleBy (.ref e) cx.env [.ExceptHandler (some (.Name (Str.ofString "RingError") tp)) (some v) [.Return (some ey) p4] hp]) Q' E' s:=by
 obtain⟨D,XD⟩:=X.b.ok.exc "RingError" (by simp[zaf])
 have AS':AS n cx.sk (A.mark (some (.ref e))):=⟨X.b.as.frames,X.b.as.depth,X.b.as.units⟩;have BF:∀ ρ,Base am n false F c cx ρ (A.mark (some (.ref e))):=fun ρ=>⟨X.b.ok,X.b.fn,X.b.ck,X.b.cxk,AS',fun q=>by cases q⟩
 refine wpAny_handleBy_cons (codeAny_handlers_test (zca (BF ρ') g2.hr hg XD.name ?_)) (by intro q;cases q)
 refine hold fun z k_=>?_;obtain⟨_,_,oe,vs,w1,w2,w3,w4,_⟩:=id x₂;refine k_ ?_;have LT:Looks am.M s.heap (typeOf (.ref e)) (.ref C):=by
  rw[←w2.1];exact(Looks.ld w1).andThen .now
 have XK:Frag.In am.K s.heap:=fun a o q=>g2.hr.base a o (X.b.ok.K a o q);refine(exm_one (M:=am.M) XK LT (X.b.ok.exm d hdm C D hC XD.name)) _ _ _ _ (fun z z q=>q) ?_;exact zim hv hkl hinj he X hC g1 g2 ne BF x₂ hev (fun z z h=>h) kq
theorem zrp {body:List PS}{ys:List Stmt}{i:Nat}{ex:PE}{ey:Expr}{v:Str}{p p4 tp hp:Pos}(hbody:SsJ am n true F c body ys) (hg:c.glob (Str.ofString "RingError")=true) (hv:c.var v i=true) (hkl:c.names.lookup v=some .local) (hinj:(c.ctx.map (·.2)).Nodup)
  (he:EJ am n false F c ex ey){cx:Cx}{ρ:List V}{A:Around}{res:List Addr}{outer:List Env}{π₀:List Addr}{s₀:Shared}{π:List Addr}{Hc:H}{s:Shared}(X:Stm am n true F c cx A res outer π₀ s₀ (fun u u=>True) ρ π Hc s) :
  SP (am.at res) cx outer true A π₀ s₀ (fun u u=>True) (fun Q E s=>wpAny am.M A (exec (.Try ys [.ExceptHandler (some (.Name (Str.ofString "RingError") tp)) (some v) [.Return (some ey) p4] hp] [] [] p) cx.env) Q E s)
   (exS true F (.try body "RingError" i [.ret ex]) ρ Hc) s:=by
 rw[zi0]
 rcases hbody X with hb|hb
 ·rw[hb];exact .inl rfl
 cases hr:exSs true F body ρ Hc with
 |bad=>exact .inl rfl
 |ok fl ρ' H' =>
  rw[hr] at hb;refine .inr (zdE fun Q' E' kq ke=>wpAny_Try_except (yV hb (fun g s' z=>?_) fun y s' z=>?_))
  ·replace kq:=kq g s' z
   obtain⟨fl',ρ2,H2,π2,z1,z2,z3,z4,z5,z6⟩:=z
   cases fl' with
   |next=>cases z5;exact wpAny_execs_nil kq
   |ret w=>obtain⟨xv,rfl,hxv⟩:=z5;exact kq
  ·obtain⟨_,_,_,_,_,_,_,z,_⟩:=z;cases z
 |err d ρ' H' =>
  rw[hr] at hb;simp only
  by_cases hdc:zaf.contains d=true
  ·rw[zT hdc]
   have hdm:d∈zaf:=by simpa using hdc
   cases hev:evE false F (ρ'.set i (.exc d)) ex H' with
   |bad=>exact .inl rfl
   |err _ _=>exact .inl rfl
   |ok w H2 =>
    simp only;refine .inr (zdE fun Q' E' kq u=>?_);refine wpAny_Try_except (yV hb (fun g s' z=>?_) fun y s' z=>?_)
    ·obtain⟨_,_,_,_,z,_⟩:=z;cases z
    refine hold fun u k_=>?_;obtain⟨d',ρ2,H3,π',e,C,fl,z1,rfl,hC,g1,g2,ne,x0⟩:=z;refine k_ ?_
    cases z1
    have fr:A.frames=some cx.sk:=X.b.as.frames;have ne:=ne rfl;have fr':A.frames=some (cx.env::outer):=by rw[←X.f.top.1];exact fr
    have fl':=zcm (π₀:=π₀) X.f g2.hr;rw[X.f.top.1] at fl';refine ziN fr' fl' X.f.top.2 x0 fun h₁ x₁ t₁=>?_;have g1:=g1.touch X.f g2.hr t₁;have g2:=g2.touch ne X.low t₁;refine zcC (fr:=none) x₁ fun h₂ x₂ t₂=>?_;have g1:=g1.touch X.f g2.hr t₂;have g2:=g2.touch ne X.low t₂;exact zme hg hdm hv hkl hinj he X hC g1 g2 ne x₂ hev kq
  ·rw[zR hdc];exact .inl rfl
end
noncomputable def yExpr (e:Stmt) (p:Expr→Bool):Bool:=dite (e.ctorIdx=24) (fun hc=>(@Stmt.Expr.elim (fun z=>Bool) e hc fun y z=>p y)) fun z=>false
theorem zml {p:Expr→Bool}{G:Stmt→Prop}(h:yExpr e p=true) (k:∀ y q,p y=true→G (.Expr y q)):G e :=
 zag h fun hc h=>@Stmt.Expr.elim (fun e=>∀ hc:e.ctorIdx=24,(@Stmt.Expr.elim (fun z=>Bool) e hc fun y z=>p y)=true→G e) e hc (fun y q z h=>k y q h) hc h
noncomputable def yAsg (e:Stmt) (p:List Expr→Expr→Bool):Bool:=dite (e.ctorIdx=5) (fun hc=>(@Stmt.Assign.elim (fun z=>Bool) e hc fun ts y z=>p ts y)) fun z=>false
theorem zeR {p:List Expr→Expr→Bool}{G:Stmt→Prop}(h:yAsg e p=true) (k:∀ ts y q,p ts y=true→G (.Assign ts y q)):G e :=
 zag h fun hc h=>@Stmt.Assign.elim (fun e=>∀ hc:e.ctorIdx=5,(@Stmt.Assign.elim (fun z=>Bool) e hc fun ts y z=>p ts y)=true→G e) e hc (fun ts y q z h=>k ts y q h) hc h
noncomputable def yRet (e:Stmt) (p:Option Expr→Bool):Bool:=dite (e.ctorIdx=3) (fun hc=>(@Stmt.Return.elim (fun z=>Bool) e hc fun y z=>p y)) fun z=>false
theorem zjo {p:Option Expr→Bool}{G:Stmt→Prop}(h:yRet e p=true) (k:∀ y q,p y=true→G (.Return y q)):G e :=
 zag h fun hc h=>@Stmt.Return.elim (fun e=>∀ hc:e.ctorIdx=3,(@Stmt.Return.elim (fun z=>Bool) e hc fun y z=>p y)=true→G e) e hc (fun y q z h=>k y q h) hc h
noncomputable def yIf (e:Stmt) (p:Expr→List Stmt→List Stmt→Bool):Bool:=dite (e.ctorIdx=12) (fun hc=>(@Stmt.If.elim (fun z=>Bool) e hc fun t a b z=>p t a b)) fun z=>false
theorem zoJ {p:Expr→List Stmt→List Stmt→Bool}{G:Stmt→Prop}(h:yIf e p=true) (k:∀ t a b q,p t a b=true→G (.If t a b q)):G e :=
 zag h fun hc h=>@Stmt.If.elim (fun e=>∀ hc:e.ctorIdx=12,(@Stmt.If.elim (fun z=>Bool) e hc fun t a b z=>p t a b)=true→G e) e hc (fun t a b q z h=>k t a b q h) hc h
noncomputable def yWhile (e:Stmt) (p:Expr→List Stmt→List Stmt→Bool):Bool:=dite (e.ctorIdx=11) (fun hc=>(@Stmt.While.elim (fun z=>Bool) e hc fun t a b z=>p t a b)) fun z=>false
theorem ziX {p:Expr→List Stmt→List Stmt→Bool}{G:Stmt→Prop}(h:yWhile e p=true) (k:∀ t a b q,p t a b=true→G (.While t a b q)):G e :=
 zag h fun hc h=>@Stmt.While.elim (fun e=>∀ hc:e.ctorIdx=11,(@Stmt.While.elim (fun z=>Bool) e hc fun t a b z=>p t a b)=true→G e) e hc (fun t a b q z h=>k t a b q h) hc h
noncomputable def yFor (e:Stmt) (p:Expr→Expr→List Stmt→List Stmt→Bool):Bool:=dite (e.ctorIdx=9) (fun hc=>(@Stmt.For.elim (fun z=>Bool) e hc fun t y a b z=>p t y a b)) fun z=>false
theorem zkj {p:Expr→Expr→List Stmt→List Stmt→Bool}{G:Stmt→Prop}(h:yFor e p=true) (k:∀ t y a b q,p t y a b=true→G (.For t y a b q)):G e :=
 zag h fun hc h=>@Stmt.For.elim (fun e=>∀ hc:e.ctorIdx=9,(@Stmt.For.elim (fun z=>Bool) e hc fun t y a b z=>p t y a b)=true→G e) e hc (fun t y a b q z h=>k t y a b q h) hc h
noncomputable def yRaise (e:Stmt) (p:Option Expr→Option Expr→Bool):Bool:=dite (e.ctorIdx=16) (fun hc=>(@Stmt.Raise.elim (fun u=>Bool) e hc fun y z u=>p y z)) fun u=>false
theorem zjt {p:Option Expr→Option Expr→Bool}{G:Stmt→Prop}(h:yRaise e p=true) (k:∀ y z q,p y z=true→G (.Raise y z q)):G e :=
 zag h fun hc h=>@Stmt.Raise.elim (fun e=>∀ hc:e.ctorIdx=16,(@Stmt.Raise.elim (fun u=>Bool) e hc fun y z u=>p y z)=true→G e) e hc (fun y z q u h=>k y z q h) hc h
noncomputable def yPass (e:Stmt) (p:Bool):Bool:=dite (e.ctorIdx=25) (fun hc=>(@Stmt.Pass.elim (fun z=>Bool) e hc fun z=>p)) fun z=>false
theorem zlr {G:Stmt→Prop}(h:yPass e p=true) (k:∀ q,p=true→G (.Pass q)):G e :=
 zag h fun hc h=>@Stmt.Pass.elim (fun e=>∀ hc:e.ctorIdx=25,(@Stmt.Pass.elim (fun z=>Bool) e hc fun z=>p)=true→G e) e hc (fun q z h=>k q h) hc h
noncomputable def yTry (e:Stmt) (p:List Stmt→List ExceptHandler→List Stmt→List Stmt→Bool):Bool:=dite (e.ctorIdx=17) (fun hc=>(@Stmt.Try.elim (fun z=>Bool) e hc fun a hs b d z=>p a hs b d)) fun z=>false
theorem znA {p:List Stmt→List ExceptHandler→List Stmt→List Stmt→Bool}{G:Stmt→Prop}(h:yTry e p=true) (k:∀ a hs b d q,p a hs b d=true→G (.Try a hs b d q)):G e :=
 zag h fun hc h=>@Stmt.Try.elim (fun e=>∀ hc:e.ctorIdx=17,(@Stmt.Try.elim (fun z=>Bool) e hc fun a hs b d z=>p a hs b d)=true→G e) e hc (fun a hs b d q z h=>k a hs b d q h) hc h
noncomputable def yHand (x:ExceptHandler) (p:Option Expr→Option Str→List Stmt→Bool):Bool:=@ExceptHandler.casesOn (fun z=>Bool) x fun t v b z=>p t v b
theorem zmd {p:Option Expr→Option Str→List Stmt→Bool}{G:ExceptHandler→Prop}(h:yHand x p=true) (k:∀ t v b q,p t v b=true→G (.ExceptHandler t v b q)):G x :=
 @ExceptHandler.casesOn (fun x=>yHand x p=true→G x) x (fun t v b q h=>k t v b q h) h
noncomputable def xStr (e:Expr):Bool:=dite (e.ctorIdx=19) (fun hc=>@Expr.Constant.elim (fun z=>Bool) e hc fun v z z=>decide (v.ctorIdx=(Const.str "").ctorIdx)) fun z=>false
theorem znG {G:Expr→Prop}(h:xStr e=true) (k:∀ t n q,G (.Constant (.str t) n q)):G e :=
 zag h fun hc h=>@Expr.Constant.elim (fun e=>∀ hc:e.ctorIdx=19,(@Expr.Constant.elim (fun z=>Bool) e hc fun v z z=>decide (v.ctorIdx=(Const.str "").ctorIdx))=true→G e) e hc (fun v n q z h=>@Const.str.elim (fun v=>G (.Constant v n q)) v (zV h) fun t=>k t n q) hc h
noncomputable def pComp (e:PE) (p:PE→Nat→PIt→Option PE→Bool):Bool:=match e with|.comp a b c d=>p a b c d|_=>false
theorem zfi {p:PE→Nat→PIt→Option PE→Bool}{G:PE→Prop}(h:pComp e p=true) (k:∀ a b c d,p a b c d=true→G (.comp a b c d)):G e:=by
 cases e<;>first|exact k _ _ _ _ h|exact absurd h Bool.false_ne_true
noncomputable def pOwn (e:PE) (p:PE→Bool):Bool:=match e with|.own a=>p a|_=>false
theorem zlu {p:PE→Bool}{G:PE→Prop}(h:pOwn e p=true) (k:∀ a,p a=true→G (.own a)):G e:=by
 cases e<;>first|exact k _ h|exact absurd h Bool.false_ne_true
noncomputable def pCompO (e:PE) (p:Bool→PE→Bool):Bool:=(pComp e fun a b c d=>p false (.comp a b c d))||pOwn e fun a=>pComp a fun a b c d=>p true (.comp a b c d)
theorem zh8 {p:Bool→PE→Bool}{G:PE→Prop}(h:pCompO e p=true) (k:∀ o a b c d,p o (.comp a b c d)=true→G (if o then .own (.comp a b c d) else .comp a b c d)):G e:=by
 rcases(Bool.or_eq_true _ _).mp h with h|h
 ·exact zfi h fun a b c d h=>k false a b c d h
 ·exact zlu h fun a h=>zfi (G:=fun a=>G (.own a)) h fun a b c d h=>k true a b c d h
noncomputable def ckA (c:Ck) (e:PE) (y:Expr):Bool:=(!isComp y&&ckE c e y)||pCompO e fun z e=>ckE c e y
noncomputable def ckEn (c:Ck):PIt→Expr→Bool
 |.enum e,y=>xNamed y "enumerate" fun xs=>one xs fun z=>c.glob "enumerate"&&ckE c e z
 |_,_=>false
mutual
noncomputable def ckS (c:Ck):PS→Stmt→Bool
 |.expr e,x=>yExpr x fun y=>isCall y&&ckE c e y
 |.asg i e,x=>yAsg x fun ts y=>one ts fun u=>xName u fun v=>c.var v i&&(c.names.lookup v != some .free&&ckA c e y)
 |.asgT is e,x=>yAsg x fun ts y=>one ts fun u=>xTup u fun us=>!isComp y&&(decide (y.ctorIdx≠25)&&(ckTg c is us&&ckE c e y))
 |.setIdx o i e,x=>yAsg x fun ts y=>one ts fun u=>xSub u fun v s=>!isComp y&&(ckE c o v&&(ckE c i s&&ckE c e y))
 |.swap o i o' i' e,x=>yAsg x fun ts y=>one ts fun u=>xTup u fun us=>two us fun u1 u2=>!isComp y&&((xSub u1 fun v s=>ckE c o v&&ckE c i s)&&((xSub u2 fun v s=>ckE c o' v&&ckE c i' s)&&ckE c e y))
 |.ret e,x=>yRet x fun t=>oneO t fun y=>ckE c e y
 |.ifs t a b,x=>yIf x fun t' a' b'=>ckE c t t'&&(ckSs c a a'&&ckSs c b b')
 |.while t a,x=>yWhile x fun t' a' b'=>ckE c t t'&&(ckSs c a a'&&b'.isEmpty)
 |.for1 i it body,x=>yFor x fun t y a b=>b.isEmpty&&(ckIt c it y&&(!isSet y&&((xName t fun v=>c.var v i&&c.names.lookup v != some .free)&&ckSs c body a)))
 |.for2 i i' it body,x=>yFor x fun t y a b=>b.isEmpty&&(ckEn c it y&&((xTup t fun ts=>two ts fun t1 t2=>(xName t1 fun v=>c.var v i&&c.names.lookup v != some .free)&&(xName t2 fun v=>c.var v i'&&c.names.lookup v != some .free))&&ckSs c body a))
 |.raise d,x=>yRaise x fun y z=>z.isNone&&oneO y fun e=>xNamed e (Str.ofString d) fun xs=>one xs fun z=>c.glob (Str.ofString d)&&(zaf.contains d&&xStr z)
 |.pass,x=>yPass x true
 |_,_=>false
noncomputable def ckSs (c:Ck):List PS→List Stmt→Bool
 |[],xs=>xs.isEmpty
 |p::ps,xs=>(match xs with|x::xs=>ckS c p x&&ckSs c ps xs|[]=>false)
end
noncomputable def pRet (e:PS) (p:PE→Bool):Bool:=match e with|.ret a=>p a|_=>false
theorem zlt {p:PE→Bool}{G:PS→Prop}(h:pRet e p=true) (k:∀ a,p a=true→G (.ret a)):G e:=by
 cases e<;>first|exact k _ h|exact absurd h Bool.false_ne_true
noncomputable def ckHand (c:Ck) (i:Nat) (hd:List PS) (z:ExceptHandler):Bool :=
 one hd fun r=>pRet r fun ex=>yHand z fun t v b=>(oneO t fun e=>zcO e (Str.ofString "RingError") true) &&
  oneO v fun v=>c.var v i&&(c.names.lookup v == some .local&&one b fun b=>yRet b fun r=>oneO r fun ey=>ckE c ex ey)
noncomputable def ckTry (c:Ck) (body:List PS) (d:String) (i:Nat) (hd:List PS) (x:Stmt):Bool :=
 yTry x fun a hs b e=>one hs fun z=>b.isEmpty&&(e.isEmpty&&(decide (d="RingError")&&(ckSs c body a&&(c.glob (Str.ofString "RingError")&&ckHand c i hd z))))
noncomputable def ckT (c:Ck):PS→Stmt→Bool
 |.try body d i hd,x=>ckTry c body d i hd x
 |p,x=>ckS c p x
noncomputable def ckTs (c:Ck):List PS→List Stmt→Bool
 |[],xs=>xs.isEmpty
 |p::ps,xs=>(match xs with|x::xs=>ckT c p x&&ckTs c ps xs|[]=>false)
section
variable {am:Amb}{n:Nat}{F:Fn}
theorem zhU:∃ b,swapsWith (.ListComp e gs scope pos) (some (.Name v p')) l env=pure b:=⟨_,rfl⟩
theorem ziJ {q own:Bool}{c:Ck}(hinj:(c.ctx.map (·.2)).Nodup){i j:Nat}{elt:PE}{it:PIt}{cond:Option PE}{v:Str}{y:Expr}{p p':Pos}(hv:c.var v i=true) (hk:c.names.lookup v≠some .free) (h:ckE c (.comp elt j it cond) y=true):SJ am n q F c (.asg i (if own then .own (.comp elt j it cond) else .comp elt j it cond)) (.Assign [.Name v p'] y p):=by
 have hx:=zac (am:=am) (n:=n) (F:=F) q c (.comp elt j it cond) y h;have he:EJ am n q F c (if own then .own (.comp elt j it cond) else .comp elt j it cond) y:=by
  cases own
  ·exact hx.1.1
  ·exact(hx.2 rfl).1
 refine zm9 (G:=fun y=>EJ am n q F c (if own then .own (.comp elt j it cond) else .comp elt j it cond) y→SJ am n q F c (.asg i (if own then .own (.comp elt j it cond) else .comp elt j it cond)) (.Assign [.Name v p'] y p)) h (fun el gs scope pos h he=>?_) he;refine zkf (G:=fun gs=>EJ am n q F c (if own then .own (.comp elt j it cond) else .comp elt j it cond) (.ListComp el gs scope pos)→SJ am n q F c (.asg i (if own then .own (.comp elt j it cond) else .comp elt j it cond)) (.Assign [.Name v p'] (.ListComp el gs scope pos) p)) h (fun x' iter ifs px hh he=>?_) he
 have h1:=al hh;have hh:=ar hh;have h2:=nt (al hh);have hh:=ar hh;have h3:=al hh;have hh:=ar hh;have h4:=al hh;have hh:=ar hh;intro cx ρ A res outer π₀ s₀ G π Hc s x;obtain⟨b,hb⟩:=zhU (e:=el) (gs:=[⟨.Name x' px,iter,ifs,0⟩]) (scope:=scope) (pos:=pos) (p':=p') (v:=v) (l:=p.line) (env:=cx.env)
 cases b with
 |false=>exact zcZ hv hk hinj he x hb
 |true =>
  cases q with
  |false=>exact .inl (by cases own<;>rfl)
  |true=>exact zh2 h2 h3 h4 (zgN c it _ h1) (zac true _ elt _ (al hh)).1.1 (zno _ cond _ (ar hh)) hv hk hinj x hb
theorem zre {q:Bool}{c:Ck}(hinj:(c.ctx.map (·.2)).Nodup){i:Nat}{e:PE}{v:Str}{y:Expr}{p p':Pos}(hv:c.var v i=true) (hk:c.names.lookup v≠some .free) (h:ckA c e y=true):SJ am n q F c (.asg i e) (.Assign [.Name v p'] y p):=by
 rcases(Bool.or_eq_true _ _).mp h with h|h
 ·exact fun cx ρ A res outer π₀ s₀ G π Hc s x=>zcZ hv hk hinj (zac (am:=am) (n:=n) (F:=F) q c e y (ar h)).1.1 x (zbc (nt (al h)) _ _ _)
 ·exact zh8 (G:=fun e=>SJ am n q F c (.asg i e) (.Assign [.Name v p'] y p)) h fun o a b d e h=>ziJ hinj hv hk h
mutual
theorem znm {c:Ck}(hinj:(c.ctx.map (·.2)).Nodup) (q:Bool):∀ (p:PS) (x:Stmt),ckS c p x=true→SJ am n q F c p x
 |.expr e,x,h=>by
  refine zml (G:=SJ am n q F c (.expr e)) h fun y p h=>?_;exact zpJ (al h) (zac q c e _ (ar h)).1.1
 |.asg i e,x,h=>by
  refine zeR (G:=SJ am n q F c (.asg i e)) h fun ts y p h=>?_;refine zal (G:=fun ts=>SJ am n q F c (.asg i e) (.Assign ts y p)) h fun u h=>?_;refine zaR (G:=fun u=>SJ am n q F c (.asg i e) (.Assign [u] y p)) h fun v p' h=>?_;exact zre hinj (al h) (bne_iff_ne.mp (al (ar h))) (ar (ar h))
 |.swap o i o' i' e,x,h=>by
  refine zeR (G:=SJ am n q F c (.swap o i o' i' e)) h fun ts y p h=>?_;refine zal (G:=fun ts=>SJ am n q F c (.swap o i o' i' e) (.Assign ts y p)) h fun u h=>?_;refine zd4 (G:=fun u=>SJ am n q F c (.swap o i o' i' e) (.Assign [u] y p)) h fun us k tp h=>?_;refine zbl (G:=fun us=>SJ am n q F c (.swap o i o' i' e) (.Assign [.Tuple us k tp] y p)) h fun u1 u2 h=>?_;refine zcd (G:=fun u1=>SJ am n q F c (.swap o i o' i' e) (.Assign [.Tuple [u1,u2] k tp] y p)) (al (ar h)) fun v1 s1 p1 h1=>?_
  refine zcd (G:=fun u2=>SJ am n q F c (.swap o i o' i' e) (.Assign [.Tuple [.Subscript v1 s1 p1,u2] k tp] y p)) (al (ar (ar h))) fun v2 s2 p2 h2=>?_
  cases q with
  |true=>exact zpE (nt (al h)) (zac true c o _ (al h1)).1.1 (zac true c i _ (ar h1)).1.1 (zac true c o' _ (al h2)).1.1 (zac true c i' _ (ar h2)).1.1 (zac true c e _ (ar (ar (ar h)))).1.1
  |false=>exact fun cx ρ A res outer π₀ s₀ G π Hc s x=>.inl rfl
 |.ret e,x,h=>by
  refine zjo (G:=SJ am n q F c (.ret e)) h fun t p h=>?_;refine zbg (G:=fun t=>SJ am n q F c (.ret e) (.Return t p)) h fun y h=>?_;exact zrq (zac q c e _ h).1.1
 |.ifs t a b,x,h=>by
  refine zoJ (G:=SJ am n q F c (.ifs t a b)) h fun t' a' b' p h=>?_;exact zsi (zac q c t _ (al h)).1.2 (zbU hinj q a _ (al (ar h))) (zbU hinj q b _ (ar (ar h)))
 |.for1 i it body,x,h=>by
  refine zkj (G:=SJ am n q F c (.for1 i it body)) h fun t y a b p h=>?_;refine zaI (G:=fun b=>SJ am n q F c (.for1 i it body) (.For t y a b p)) (al h) ?_;refine zaR (G:=fun t=>SJ am n q F c (.for1 i it body) (.For t y a [] p)) (al (ar (ar (ar h)))) fun v p' h7=>?_
  cases q with
  |true=>exact zpI (nt (al (ar (ar h)))) (zgN c it _ (al (ar h))) (zbU hinj true body _ (ar (ar (ar (ar h))))) (al h7) (bne_iff_ne.mp (ar h7)) hinj
  |false=>exact fun cx ρ A res outer π₀ s₀ G π Hc s x=>.inl rfl
 |.raise d,x,h=>by
  refine zjt (G:=SJ am n q F c (.raise d)) h fun y z p h=>?_;refine zb0 (G:=fun z=>SJ am n q F c (.raise d) (.Raise y z p)) (al h) ?_;refine zbg (G:=fun y=>SJ am n q F c (.raise d) (.Raise y none p)) (ar h) fun e h=>?_;refine zay (G:=fun e=>SJ am n q F c (.raise d) (.Raise (some e) none p)) h fun xs q1 q2 h=>?_;refine zal (G:=fun xs=>SJ am n q F c (.raise d) (.Raise (some (.Call (.Name (Str.ofString d) q1) xs [] q2)) none p)) h fun z h=>?_
  refine znG (G:=fun z=>SJ am n q F c (.raise d) (.Raise (some (.Call (.Name (Str.ofString d) q1) [z] [] q2)) none p)) (ar (ar h)) fun t k p3=>?_;exact znT (List.contains_iff_mem.mp (al (ar h))) (al h)
 |.pass,x,h=>zlr (G:=SJ am n q F c .pass) h fun p w=>zpF
 |.asgT is e,x,h=>by
  refine zeR (G:=SJ am n q F c (.asgT is e)) h fun ts y p h=>?_;refine zal (G:=fun ts=>SJ am n q F c (.asgT is e) (.Assign ts y p)) h fun u h=>?_;refine zd4 (G:=fun u=>SJ am n q F c (.asgT is e) (.Assign [u] y p)) h fun us k tp h=>?_
  cases q with
  |true=>exact zpK (nt (al h)) (zV (al (ar h))) (al (ar (ar h))) hinj (zac true c e _ (ar (ar (ar h)))).1.1
  |false=>exact fun cx ρ A res outer π₀ s₀ G π Hc s x=>.inl rfl
 |.while t a,x,h=>by
  refine ziX (G:=SJ am n q F c (.while t a)) h fun t' a' b' p h=>?_;refine zaI (G:=fun b'=>SJ am n q F c (.while t a) (.While t' a' b' p)) (ar (ar h)) ?_
  cases q with
  |true=>exact znS (zac true c t _ (al h)).1.2 (zbU hinj true a _ (al (ar h)))
  |false=>exact fun cx ρ A res outer π₀ s₀ G π Hc s x=>.inl rfl
 |.setIdx o i e,x,h=>by
  refine zeR (G:=SJ am n q F c (.setIdx o i e)) h fun ts y p h=>?_;refine zal (G:=fun ts=>SJ am n q F c (.setIdx o i e) (.Assign ts y p)) h fun u h=>?_;refine zcd (G:=fun u=>SJ am n q F c (.setIdx o i e) (.Assign [u] y p)) h fun v s tp h=>?_;exact zlc (nt (al h)) (zac q c o _ (al (ar h))).1.1 (zac q c i _ (al (ar (ar h)))).1.1 (zac q c e _ (ar (ar (ar h)))).1.1
 |.for2 i i' it body,x,h=>by
  refine zkj (G:=SJ am n q F c (.for2 i i' it body)) h fun t y a b p h=>?_;refine zaI (G:=fun b=>SJ am n q F c (.for2 i i' it body) (.For t y a b p)) (al h) ?_;refine zd4 (G:=fun t=>SJ am n q F c (.for2 i i' it body) (.For t y a [] p)) (al (ar (ar h))) fun ts k tp h7=>?_;refine zbl (G:=fun ts=>SJ am n q F c (.for2 i i' it body) (.For (.Tuple ts k tp) y a [] p)) h7 fun t1 t2 h8=>?_;refine zaR (G:=fun t1=>SJ am n q F c (.for2 i i' it body) (.For (.Tuple [t1,t2] k tp) y a [] p)) (al h8) fun v p1 h9=>?_
  refine zaR (G:=fun t2=>SJ am n q F c (.for2 i i' it body) (.For (.Tuple [.Name v p1,t2] k tp) y a [] p)) (ar h8) fun v' p2 h10=>?_;have hb:=zbU hinj q body _ (ar (ar (ar h)));have hen:=al (ar h)
  cases q with
  |false=>exact fun cx ρ A res outer π₀ s₀ G π Hc s x=>.inl rfl
  |true =>
   cases it with
   |enum e =>
    refine zay (G:=fun y=>SJ am n true F c (.for2 i i' (.enum e) body) (.For (.Tuple [.Name v p1,.Name v' p2] k tp) y a [] p)) hen fun xs p4 p5 hh=>?_;refine zal (G:=fun xs=>SJ am n true F c (.for2 i i' (.enum e) body) (.For (.Tuple [.Name v p1,.Name v' p2] k tp) (.Call (.Name "enumerate" p4) xs [] p5) a [] p)) hh fun z hh=>?_;exact zpH (al hh) (zau (ar hh)) (zac true c e _ (ar hh)).1.1 hb (al h9) (bne_iff_ne.mp (ar h9)) (al h10) (bne_iff_ne.mp (ar h10)) hinj
   |_=>cases hen
 |.try ..,x,h=>by cases h
theorem zbU {c:Ck}(hinj:(c.ctx.map (·.2)).Nodup) (q:Bool):∀ (ps:List PS) (xs:List Stmt),ckSs c ps xs=true→SsJ am n q F c ps xs
 |[],xs,h=>zaI (G:=SsJ am n q F c []) h zmS
 |p::ps,xs,h=>by
  cases xs with
  |nil=>cases h
  |cons x xs =>
   have h:(ckS c p x&&ckSs c ps xs)=true:=h;exact znK (znm hinj q p x (al h)) (zbU hinj q ps xs (ar h))
end
def YJ (am:Amb) (n:Nat) (F:Fn) (c:Ck) (body hd:List PS) (d:String) (i:Nat) (x:Stmt):Prop:=∀ ⦃cx:Cx⦄ ⦃ρ:List V⦄ ⦃A:Around⦄ ⦃res:List Addr⦄ ⦃outer:List Env⦄ ⦃π₀:List Addr⦄ ⦃s₀:Shared⦄ ⦃π:List Addr⦄ ⦃Hc:H⦄ ⦃s:Shared⦄,
  Stm am n true F c cx A res outer π₀ s₀ (fun z z=>True) ρ π Hc s→SP (am.at res) cx outer true A π₀ s₀ (fun z z=>True) (fun Q E s=>wpAny am.M A (exec x cx.env) Q E s) (exS true F (.try body d i hd) ρ Hc) s
theorem zoL {c:Ck}(hinj:(c.ctx.map (·.2)).Nodup){body hd:List PS}{i:Nat}{a:List Stmt}{z:ExceptHandler}{p:Pos}(ha:SsJ am n true F c body a) (hg:c.glob (Str.ofString "RingError")=true) (h:ckHand c i hd z=true):YJ am n F c body hd "RingError" i (.Try a [z] [] [] p):=by
 refine zal (G:=fun hd=>YJ am n F c body hd "RingError" i (.Try a [z] [] [] p)) h fun r h=>?_;refine zlt (G:=fun r=>YJ am n F c body [r] "RingError" i (.Try a [z] [] [] p)) h fun ex h=>?_;refine zmd (G:=fun z=>YJ am n F c body [.ret ex] "RingError" i (.Try a [z] [] [] p)) h fun t v b hp h=>?_;refine zbg (G:=fun t=>YJ am n F c body [.ret ex] "RingError" i (.Try a [.ExceptHandler t v b hp] [] [] p)) (al h) fun e h0=>?_
 refine zbC (G:=fun e=>YJ am n F c body [.ret ex] "RingError" i (.Try a [.ExceptHandler (some e) v b hp] [] [] p)) h0 fun tp y=>?_;refine zbg (G:=fun v=>YJ am n F c body [.ret ex] "RingError" i (.Try a [.ExceptHandler (some (.Name (Str.ofString "RingError") tp)) v b hp] [] [] p)) (ar h) fun v h=>?_;have b1:=al h;have b2:=beq_iff_eq.mp (al (ar h));refine zal (G:=fun b=>YJ am n F c body [.ret ex] "RingError" i (.Try a [.ExceptHandler (some (.Name (Str.ofString "RingError") tp)) (some v) b hp] [] [] p)) (ar (ar h)) fun b h=>?_
 refine zjo (G:=fun b=>YJ am n F c body [.ret ex] "RingError" i (.Try a [.ExceptHandler (some (.Name (Str.ofString "RingError") tp)) (some v) [b] hp] [] [] p)) h fun r p4 h=>?_;refine zbg (G:=fun r=>YJ am n F c body [.ret ex] "RingError" i (.Try a [.ExceptHandler (some (.Name (Str.ofString "RingError") tp)) (some v) [.Return r p4] hp] [] [] p)) h fun ey h=>?_;exact fun cx ρ A res outer π₀ s₀ π Hc s X=>zrp ha hg b1 b2 hinj (zac false c ex ey h).1.1 X
theorem ziB {c:Ck}(hinj:(c.ctx.map (·.2)).Nodup){body hd:List PS}{d:String}{i:Nat}{x:Stmt}(h:ckTry c body d i hd x=true):YJ am n F c body hd d i x:=by
 refine znA (G:=YJ am n F c body hd d i) h fun a hs b e p h=>?_;refine zal (G:=fun hs=>YJ am n F c body hd d i (.Try a hs b e p)) h fun z h=>?_;refine zaI (G:=fun b=>YJ am n F c body hd d i (.Try a [z] b e p)) (al h) ?_;have h:=ar h;refine zaI (G:=fun e=>YJ am n F c body hd d i (.Try a [z] [] e p)) (al h) ?_;have h:=ar h
 cases zV (al h)
 have h:=ar h;exact zoL hinj (zbU hinj true _ _ (al h)) (al (ar h)) (ar (ar h))
theorem zmB (hinj:(c.ctx.map (·.2)).Nodup) (q:Bool) (h:ckTry c body d i hd x=true) ⦃cx:Cx⦄ ⦃ρ:List V⦄ ⦃A:Around⦄ ⦃res:List Addr⦄ ⦃outer:List Env⦄ ⦃π₀:List Addr⦄ ⦃s₀:Shared⦄ ⦃π:List Addr⦄ ⦃Hc:H⦄ ⦃s:Shared⦄
  (X:Stm am n q F c cx A res outer π₀ s₀ (fun z z=>True) ρ π Hc s):SP (am.at res) cx outer q A π₀ s₀ (fun z z=>True) (fun Q E s=>wpAny am.M A (exec x cx.env) Q E s) (exS q F (.try body d i hd) ρ Hc) s:=by
 cases q with
 |true=>exact ziB hinj h X
 |false=>exact .inl rfl
def TsJ (am:Amb) (n:Nat) (q:Bool) (F:Fn) (c:Ck) (ps:List PS) (xs:List Stmt):Prop:=∀ ⦃cx:Cx⦄ ⦃ρ:List V⦄ ⦃A:Around⦄ ⦃res:List Addr⦄ ⦃outer:List Env⦄ ⦃π₀:List Addr⦄ ⦃s₀:Shared⦄ ⦃π:List Addr⦄ ⦃Hc:H⦄ ⦃s:Shared⦄,
 Stm am n q F c cx A res outer π₀ s₀ (fun z z=>True) ρ π Hc s→SP (am.at res) cx outer q A π₀ s₀ (fun z z=>True) (fun Q E s=>wpAny am.M A (execs xs cx.env) Q E s) (exSs q F ps ρ Hc) s
theorem znz
  (h1:∀ ⦃cx:Cx⦄ ⦃ρ:List V⦄ ⦃A:Around⦄ ⦃res:List Addr⦄ ⦃outer:List Env⦄ ⦃π₀:List Addr⦄ ⦃s₀:Shared⦄ ⦃π:List Addr⦄ ⦃Hc:H⦄ ⦃s:Shared⦄,Stm am n q F c cx A res outer π₀ s₀ (fun z z=>True) ρ π Hc s→SP (am.at res) cx outer q A π₀ s₀ (fun z z=>True) (fun Q E s=>wpAny am.M A (exec y cx.env) Q E s) (exS q F p ρ Hc) s)
  (h2:TsJ am n q F c ps ys):TsJ am n q F c (p::ps) (y::ys):=fun cx ρ A res outer π₀ s₀ π Hc s x=>zjh x (h1 x) fun z z z z x'=>h2 x'
theorem zkG (hinj:(c.ctx.map (·.2)).Nodup) (q:Bool):∀ (ps:List PS) (xs:List Stmt),ckTs c ps xs=true→TsJ am n q F c ps xs
 |[],xs,h=>by
  cases xs with
  |nil=>exact fun cx ρ A res outer π₀ s₀ π Hc s x=>zmS x
  |cons _ _=>cases h
 |p::ps,xs,h=>by
  cases xs with
  |nil=>cases h
  |cons x xs =>
   obtain⟨h1,h2⟩:=yK.mp (show(ckT c p x&&ckTs c ps xs)=true from h);refine znz ?_ (zkG hinj q ps xs h2);intro cx ρ A res outer π₀ s₀ π Hc s X
   cases p with
   |«try» body d i hd=>exact zmB hinj q h1 X
   |_=>exact znm hinj q _ _ h1 X
end
theorem zmk {α β:Type}{f g:α→Option β}{l:List α}(h:∀ x∈l,f x=g x):l.filterMap f=l.filterMap g:=by
 induction l with
 |nil=>rfl
 |cons a l ih=>rw[filterMap_cons,filterMap_cons,h a (zZ ..),ih fun x hx=>h x (zY _ hx)]
theorem zij {ns:List Str}(hn:ns.Nodup):∀ {vs:List Value},vs.length=ns.length→ns.filterMap (fun n=>((ns.zip vs).lookup n).map (n,·))=ns.zip vs:=by
 induction ns with
 |nil=>intro vs _;simp
 |cons a ns ih =>
  intro vs hl
  cases vs with
  |nil=>simp at hl
  |cons v vs =>
   rw[nodup_cons] at hn;simp only[zip_cons_cons,filterMap_cons,lookup_cons,beq_self_eq_true,Option.map_some]
   congr 1
   refine Eq.trans (zmk fun x hx=>?_) (ih hn.2 (vs:=vs) (by simpa using hl))
   have:(x == a)=false:=by
    rw[beq_eq_false_iff_ne];rintro rfl;exact hn.1 hx
   rw[this]
theorem zgv {ns:List Str}:∀ {vs:List Value},vs.length=ns.length→∀ n∈ns,((ns.zip vs).lookup n).isSome=true:=by
 induction ns with
 |nil=>intro vs _ n hn;cases hn
 |cons a ns ih =>
  intro vs hl n hn
  cases vs with
  |nil=>simp at hl
  |cons v vs =>
   simp only[zip_cons_cons,lookup_cons]
   cases hq:n == a with
   |true=>rfl
   |false =>
    rcases zN.mp hn with rfl|h
    ·simp at hq
    ·exact ih (by simpa using hl) n h
theorem ziD :
  ∃ (X Y:Sem (List (Str × Value))) (f:Str × Value→List (Str × Value)→Sem (ForInStep (List (Str × Value)))) (g:List (Str × Value)→Sem (List (Str × Value))),(∀ slots,g slots=pure ((as.map Arg.arg++[]).filterMap fun n=>(List.lookup n slots).map (n,·))) ∧
   bindArgs ⟨nm,qn,⟨[],as,none,[],kd,none,df⟩,body,scope,globals,closure,.none,kwd,doc,pm,an,co,ct,bi⟩ ⟨vals,[]⟩ =
    (if(decide (vals.length > (as.map Arg.arg).length)&&true)=true then X
    else if(!((((as.map Arg.arg).take ((as.map Arg.arg).length - (([]:List Value).drop (([]:List Value).length - (as.map Arg.arg).length)).length)).filter fun n=>(List.lookup n ((as.map Arg.arg).zip vals)).isNone).isEmpty))=true then Y
    else forIn (((as.map Arg.arg).drop ((as.map Arg.arg).length - (([]:List Value).drop (([]:List Value).length - (as.map Arg.arg).length)).length)).zip (([]:List Value).drop (([]:List Value).length - (as.map Arg.arg).length))) ((as.map Arg.arg).zip vals) f >>= g):=by
 refine⟨_,_,_,_,fun z=>rfl,rfl⟩
theorem ziE {fd:FuncData}{vals:List Value}(hp:fd.params.posonlyargs=[]) (hk:fd.params.kwonlyargs=[]) (hv:fd.params.vararg=none) (hw:fd.params.kwarg=none) (hd:fd.defaults=.none)
  (hn:(fd.params.args.map (·.arg)).Nodup) (hl:vals.length=fd.params.args.length):bindArgs fd ⟨vals,[]⟩=pure ((fd.params.args.map (·.arg)).zip vals):=by
 have hl':vals.length=(fd.params.args.map (·.arg)).length:=by simpa using hl
 have hm:((fd.params.args.map (·.arg)).filter fun n=>(((fd.params.args.map (·.arg)).zip vals).lookup n).isNone)=[]:=by
  rw[List.filter_eq_nil_iff];intro n hn';have:=zgv hl' n hn'
  cases hq:((fd.params.args.map (·.arg)).zip vals).lookup n with
  |none=>rw[hq] at this;cases this
  |some _=>simp
 have hz:=zij hn hl';obtain⟨nm,qn,⟨po,as,va,ko,kd,kw,df⟩,body,scope,globals,closure,dfl,kwd,doc,pm,an,co,ct,bi⟩:=fd;simp only at hp hk hv hw hd hm hz hl';subst hp hk hv hw hd;obtain⟨X,Y,f,g,hg,e⟩:=ziD (nm:=nm) (qn:=qn) (as:=as) (kd:=kd) (df:=df) (body:=body) (scope:=scope) (globals:=globals) (closure:=closure) (kwd:=kwd) (doc:=doc) (pm:=pm) (an:=an) (co:=co) (ct:=ct) (bi:=bi) (vals:=vals);rw[e];generalize as.map Arg.arg=ns at hl' hm hz hg
 have hgt:¬ vals.length > ns.length:=by rw[hl'];exact Nat.lt_irrefl _
 rw[List.drop_nil,zR (by simp[hgt]),List.zip_nil_right,zR (by simp[hm])]
 show g (ns.zip vals)=_;rw[hg,append_nil,hz]
noncomputable def zjb:FuncBody→Option (List Stmt)
 |.stmts b=>some b
 |_=>none
noncomputable def ckFn (fns:List String) (nums:List (String × Int)) (d:FnDef) (nm:List String) (fd:FuncData):Bool :=
 let ns:=nm.map Str.ofString
 (match zjb fd.body with|some b=>ckTs ⟨ns.zipIdx,fd.scope.names,fns,nums⟩ d.body b|none=>false) &&
 fd.params.posonlyargs.isEmpty&&fd.params.kwonlyargs.isEmpty&&fd.params.vararg.isNone&&fd.params.kwarg.isNone&&fd.defaults == .none &&
 decide (fd.params.args.map (·.arg)=ns.take d.arity)&&decide (d.arity≤nm.length)&&decide (nm.length≤d.slots)&&decide ns.Nodup &&
 fd.closure.isEmpty&&fd.scope.kind == .function&&!fd.scope.isGenerator&&!fd.scope.isCoroutine&&decide (fd.globals=mainGlobals)&&decide (fd.builtins=builtinsNs) &&
 ns.all (fun x=>fd.scope.names.lookup x == some .local||fd.scope.names.lookup x == some .cell)&&fd.scope.names.all (fun p=>p.2 != .free)
structure FnC (fns:List String) (nums:List (String × Int)) (d:FnDef) (nm:List String) (fd:FuncData):Prop where
 body:∃ b,fd.body=.stmts b∧ckTs ⟨(nm.map Str.ofString).zipIdx,fd.scope.names,fns,nums⟩ d.body b=true
 k2:fd.params.posonlyargs=[]
 k3:fd.params.kwonlyargs=[]
 k4:fd.params.vararg=none
 k5:fd.params.kwarg=none
 k6:fd.defaults=.none
 k7:fd.params.args.map (·.arg)=(nm.map Str.ofString).take d.arity
 k8:d.arity≤nm.length
 k10:(nm.map Str.ofString).Nodup
 k11:fd.closure=[]
 k12:fd.scope.kind=.function
 k13:fd.scope.isGenerator=false
 k14:fd.scope.isCoroutine=false
 k15:fd.globals=mainGlobals
 k16:fd.builtins=builtinsNs
 k17:∀ x∈nm.map Str.ofString,fd.scope.names.lookup x=some .local∨fd.scope.names.lookup x=some .cell
 k18:∀ x,fd.scope.names.lookup x≠some .free
theorem zpe {f:List Stmt→Bool}(h:(match zjb fb with|some b=>f b|none=>false)=true):∃ b,fb=.stmts b∧f b=true:=by
 cases fb with
 |stmts b=>exact⟨b,rfl,h⟩
 |expr e=>cases h
theorem zq2 {fns:List String}{nums:List (String × Int)}{d:FnDef}{nm:List String}{fd:FuncData}(h:ckFn fns nums d nm fd=true):FnC fns nums d nm fd :=
 ⟨zpe (al (al (al (al (al (al (al (al (al (al (al (al (al (al (al (al (al (h)))))))))))))))))),
  List.isEmpty_iff.mp (ar (al (al (al (al (al (al (al (al (al (al (al (al (al (al (al (al (h)))))))))))))))))),
  List.isEmpty_iff.mp (ar (al (al (al (al (al (al (al (al (al (al (al (al (al (al (al (h))))))))))))))))),
  Option.isNone_iff_eq_none.mp (ar (al (al (al (al (al (al (al (al (al (al (al (al (al (al (h)))))))))))))))),
  Option.isNone_iff_eq_none.mp (ar (al (al (al (al (al (al (al (al (al (al (al (al (al (h))))))))))))))),
  eq_of_beq (ar (al (al (al (al (al (al (al (al (al (al (al (al (h)))))))))))))),
  zV (ar (al (al (al (al (al (al (al (al (al (al (al (h))))))))))))),
  zV (ar (al (al (al (al (al (al (al (al (al (al (h)))))))))))),
  zV (ar (al (al (al (al (al (al (al (al (h)))))))))),
  List.isEmpty_iff.mp (ar (al (al (al (al (al (al (al (h))))))))),
  eq_of_beq (ar (al (al (al (al (al (al (h)))))))),
  (Bool.not_eq_true' _).mp (ar (al (al (al (al (al (h))))))),
  (Bool.not_eq_true' _).mp (ar (al (al (al (al (h)))))),
  zV (ar (al (al (al (h))))),
  zV (ar (al (al (h)))),
  fun x hx=>or2 (List.all_eq_true.mp (ar (al (h))) x hx),
  fun x hx=>absurd (List.all_eq_true.mp (ar h) _ (zaz hx)) (by simp)⟩
structure ProgOK (am:Amb) (P:Tab) (nm:String→List String) (fns:List String) (nums:List (String × Int)):Prop where
 fn:∀ f d a o fd,P f=some d→am.mg (Str.ofString f)=some (.ref a)→am.B.get? a=some o→o.data=.func fd→ckFn fns nums d (nm f) fd=true∧am.B.CodeRec fd.code fd.qualname
 fns:∀ f∈fns,∃ a,FunAt am f a
 nums:∀ p∈nums,∃ t,am.mg (Str.ofString p.1)=some (.int p.2 t)
theorem VR.more {am:Amb}{π:List Addr}{h:Heap}{r:List Addr}{v:V}{x:Value}(new:List Addr) (hl:∀ l∈new,h.get? l=none) (e:VR (am.at r) π h v x):VR (am.at (new++r)) π h v x:=by
 induction new with
 |nil=>exact e
 |cons l new ih=>exact VR.held (am:=am.at (new++r)) (hl l (zZ ..)) (ih fun a ha=>hl a (zY _ ha))
theorem VRs.more {am:Amb}{π:List Addr}{h:Heap}{r:List Addr}{vs:List V}{xs:List Value}(new:List Addr) (hl:∀ l∈new,h.get? l=none) (e:VRs (am.at r) π h vs xs):VRs (am.at (new++r)) π h vs xs:=by
 induction new with
 |nil=>exact e
 |cons l new ih=>exact VRs.held (am:=am.at (new++r)) (hl l (zZ ..)) (ih fun a ha=>hl a (zY _ ha))
set_option tactic.hygienic true in
theorem zco (names:List (Str × NameKind)) (k:Nat) (acc:List (Str × Addr)) (x:Str) (h:names.lookup x=some .cell∨(acc.lookup x).isSome=true):((cellsFrom k names acc).lookup x).isSome=true:=by
 induction names generalizing k acc with
 |nil=>exact h.elim (fun h=>no h) id
 |cons p r ih =>
  obtain⟨y,kd⟩:=p;unfold cellsFrom
  cases hxy:x == y with
  |true =>
   have hxy:=beq_iff_eq.mp hxy;subst hxy
   split
   ·exact ih _ _ (.inr (by rw[lookup_cons,beq_self_eq_true];rfl))
   ·rename_i hk
    refine ih _ _ (h.imp (fun h=>?_) id);rw[lookup_cons,beq_self_eq_true] at h
    cases h;exact absurd rfl hk
  |false =>
   rw[lookup_cons,hxy] at h
   split
   ·exact ih _ _ (h.imp id fun h=>by rw[lookup_cons,hxy];exact h)
   ·exact ih _ _ h
theorem ziF (kd:Str→Option NameKind) (ns:List Str) (vs:List Value) (m:Str→Option Value) (x:Str) (hx:x ∉ ns):bindL kd (ns.zip vs) m x=m x:=by
 induction ns generalizing vs m with
 |nil=>rfl
 |cons b ns ih=>cases vs with
  |nil=>rfl
  |cons u vs =>
   rw[zN,not_or] at hx;rw[zip_cons_cons,bindL,ih _ _ hx.2]
   split
   ·exact zR hx.1
   ·exact rfl
theorem zkH (kd:Str→Option NameKind) (ns:List Str) (vs:List Value) (m:Str→Option Value) (hn:ns.Nodup) (hl:vs.length=ns.length) (i:Nat) (x:Str) (v:Value) (h1:ns[i]?=some x) (h2:vs[i]?=some v) (h3:kd x=some .local):bindL kd (ns.zip vs) m x=some v:=by
 induction ns generalizing vs m i with
 |nil=>cases h1
 |cons a ns ih=>cases vs with
  |nil=>cases h2
  |cons w vs =>
   rw[nodup_cons] at hn;rw[zip_cons_cons,bindL]
   cases i with
   |zero =>
    cases h1;cases h2
    rw[ziF _ _ _ _ _ hn.1,zT h3];exact zT rfl
   |succ i=>exact ih vs _ hn.2 (Nat.succ.inj hl) i h1 h2
theorem ziG (kd:Str→Option NameKind) (ns:List Str) (vs:List Value) (m:Str→Option Value) (x:Str) (hx:x ∉ ns):bindC kd (ns.zip vs) m x=m x:=by
 induction ns generalizing vs m with
 |nil=>rfl
 |cons b ns ih=>cases vs with
  |nil=>rfl
  |cons u vs =>
   rw[zN,not_or] at hx;rw[zip_cons_cons,bindC,ih _ _ hx.2]
   split
   ·exact rfl
   ·exact zR hx.1
theorem zkI (kd:Str→Option NameKind) (ns:List Str) (vs:List Value) (m:Str→Option Value) (hn:ns.Nodup) (hl:vs.length=ns.length) (i:Nat) (x:Str) (v:Value) (h1:ns[i]?=some x) (h2:vs[i]?=some v) (h3:kd x=some .cell):bindC kd (ns.zip vs) m x=some v:=by
 induction ns generalizing vs m i with
 |nil=>cases h1
 |cons a ns ih=>cases vs with
  |nil=>cases h2
  |cons w vs =>
   rw[nodup_cons] at hn;rw[zip_cons_cons,bindC]
   cases i with
   |zero =>
    cases h1;cases h2
    rw[ziG _ _ _ _ _ hn.1,zR (by rw[h3];decide)];exact zT rfl
   |succ i=>exact ih vs _ hn.2 (Nat.succ.inj hl) i h1 h2
theorem zd2 {ns:List Str}{x:Str}{i:Nat}(h:ns.zipIdx.lookup x=some i):ns[i]?=some x:=by
 have:=zaz h;rw[List.mem_zipIdx_iff_getElem?] at this
 simpa using this
theorem zeW (ns:List Str):(ns.zipIdx.map (·.2)).Nodup:=by
 have:ns.zipIdx.map (·.2)=List.range ns.length:=by
  apply List.ext_getElem
  ·simp
  ·intro i h1 h2;simp
 rw[this];exact nodup_range
section
variable {am:Amb}{P:Tab}{nm:String→List String}{fns:List String}{nums:List (String × Int)}
theorem VRs.len' (e:VRs am π h vs xs):xs.length=vs.length:=by
 exact e.len
theorem zmH (e:ArgR am q π h vs xs):xs.length=vs.length:=by
 rcases e with e|⟨_,c,a,rfl,rfl,_⟩
 ·exact e.len'
 ·rfl
theorem zmI {am:Amb}{q:Bool}{π:List Addr}{h:Heap}{vs:List V}{xs:List Value}(e:ArgR am q π h vs xs){i:Nat}{v:V}(hv:vs[i]?=some v):∃ x,xs[i]?=some x∧SR am π h v x:=by
 rcases e with e|⟨_,c,a,rfl,rfl,h1,h2⟩
 ·obtain⟨x,h1,h2⟩:=e.get i v hv
  exact⟨x,h1,.inl h2⟩
 ·cases i with
  |zero =>
   simp only[List.getElem?_cons_zero,Option.some.injEq] at hv;subst hv;exact⟨_,rfl,.inr ⟨c,a,rfl,rfl,h1,h2⟩⟩
  |succ i=>simp at hv
set_option tactic.hygienic true in
theorem zmW (ok:AmbX am) (pk:ProgOK am P nm fns nums):∀ n,FnOK am n (run P n)
 |0=>⟨fun res q f a vs xs sk A π Hc s u u u u u=>.inl rfl⟩
 |n+1=>⟨fun res q f a vs xs sk A π Hc s fa as hr hd ha=>by
  have IH:=zmW ok pk n;refine hold fun u k_=>?_;obtain⟨hga,o,fd,ho,hdata⟩:=fa;refine k_ ?_;show JAt _ _ _ _ (match P f with|some d=>runD q (run P n) d vs Hc|Option.none=>.bad) _ _ _
  cases hP:P f with
  |none=>exact .inl rfl
  |some d =>
  simp only;obtain⟨hck,hcode⟩:=pk.fn f d a o fd hP hga ho hdata;unfold runD
  by_cases hlen':¬ vs.length=d.arity
  ·rw[zR hlen'];exact .inl rfl
  have hlen:=Classical.not_not.mp hlen';rw[zT hlen];have k:=zq2 hck;refine hold fun u k_=>?_;obtain⟨body,hbody,k1⟩:=k.body;refine k_ ?_
  let ns:=(nm f).map Str.ofString
  let c:Ck:=⟨ns.zipIdx,fd.scope.names,fns,nums⟩
  have hns:ns.Nodup:=k.k10;have hpn:fd.params.args.map (·.arg)=ns.take d.arity:=k.k7;have hnl:ns.length=(nm f).length:=by simp[ns]
  have hxl:xs.length=d.arity:=by rw[zmH ha,hlen]
  have hpl:fd.params.args.length=d.arity:=by
   have:=congrArg List.length hpn;rw[zJ,length_take,hnl,Nat.min_eq_left k.k8] at this;exact this
  have hbind:bindArgs fd ⟨xs,[]⟩=pure ((ns.take d.arity).zip xs):=by
   rw[←hpn];refine ziE k.k2 k.k3 k.k4 k.k5 k.k6 ?_ (hxl.trans hpl.symm);rw[hpn];exact hns.sublist (List.take_sublist _ _)
  have TS:=zkG (am:=am) (n:=n) (F:=run P n) (c:=c) (zeW ns) q d.body body k1;have hlim:s.heap.NoLimit:=ok.nolimit.keeps hr.base
  by_cases hbad:exSs q (run P n) d.body (vs++List.replicate (d.slots - d.arity) .uu) Hc=.bad
  ·rw[hbad];exact .inl rfl
  refine .inr (wpAny_call (codeAny_call_cells (binds:=(ns.take d.arity).zip xs) (body:=body) (o:=o) (fd:=fd) (by unfold recursionLimit;exact as.dk (k:=0) (by decide)) (hr.base a o ho) hdata hlim (hcode.keeps hr.base) hbody hbind k.k11 (fun x hx=>?_) (fun s₁ I=>?_) k.k14 k.k13 k.k12))
  ·have hm:x.1∈ns:=mem_of_mem_take (List.of_mem_zip hx).1
   rcases k.k17 x.1 hm with h|h
   ·exact .inl h
   ·exact .inr ⟨h,zco _ _ _ _ (.inl h)⟩
  generalize hE:callEnvC fd s.heap.objs.size a=env at I;have eloc:env.locals=s.heap.objs.size:=by rw[←hE];rfl
  have efr:env.frame=some env.locals:=by rw[←hE];rfl
  have esc:env.scope=fd.scope:=by rw[←hE];rfl
  have egl:env.globals=mainGlobals:=by rw[←hE];exact k.k15
  have ebl:env.builtins=builtinsNs:=by rw[←hE];exact k.k16
  have ecl:env.cells=cellsFrom (s.heap.objs.size+1) fd.scope.names []:=by rw[←hE];rfl
  have ekd:∀ x,env.kindOf x=fd.scope.names.lookup x:=fun x=>by unfold Env.kindOf;rw[esc]
  have hfresh:∀ b,s.heap.objs.size≤b→s.heap.get? b=none:=fun b hb=>by
   cases hq:s.heap.get? b with
   |none=>rfl
   |some o'=>exact absurd (Heap.lt_size hq) (Nat.not_lt_of_le hb)
  have fL:s.heap.get? env.locals=none:=hfresh _ (by rw[eloc];exact Nat.le_refl _)
  have fC:∀ x cc,(x,cc)∈env.cells→s.heap.get? cc=none:=fun x cc h=>hfresh _ (Nat.le_of_lt (eloc ▸ I.above x cc h))
  let new:List Addr:=env.locals::env.cells.filterMap fun p=>env.cells.lookup p.1
  have hcm:∀ l,l∈env.cells.filterMap (fun p=>env.cells.lookup p.1)→∃ y,env.cells.lookup y=some l:=by
   intro l hl;obtain⟨p,_,h2⟩:=List.mem_filterMap.mp hl;exact⟨p.1,h2⟩
  have hmc:∀ y l,env.cells.lookup y=some l→l∈env.cells.filterMap (fun p=>env.cells.lookup p.1):=fun y l h=>List.mem_filterMap.mpr ⟨(y,l),mem_of_lookup h,h⟩;have hnew:∀ l∈new,s.heap.get? l=none:=by
   intro l hl
   rcases zN.mp hl with rfl|hl
   ·exact fL
   ·obtain⟨y,h1⟩:=hcm l hl
    exact fC y l (mem_of_lookup h1)
  have keep:=I.toInCall.keep;have nfL:=Ns.nf I.toInCall.ns;have bn:∀ l,s.heap.get? l=none→am.B.get? l=none:=fun l h=>zai hr.base h;have hdn:∀ a'∈π,∃ o,s.heap.get? a'=some o:=by
   intro a' ha';obtain⟨i,hi,e1⟩:=getElem_of_mem ha';have h1:π[i]?=some a':=by rw[zM hi,e1]
   have h2:i < Hc.length:=by rw[←hr.len];exact hi
   obtain⟨o,ho,_⟩:=(hr.cell i Hc[i] a' (by simp[h2]) h1).obj
   exact⟨o,ho⟩
  have offN:∀ l,s.heap.get? l=none→l ∉ π:=fun l h hm=>by obtain⟨o,ho⟩:=hdn l hm;rw[h] at ho;cases ho
  let cx:Cx:=⟨env,env::sk,ns.zipIdx⟩
  have hr1:HR (am.at (new++res)) (env::sk) π Hc s₁.heap:=by
   refine⟨fun b o e=>keep b o (hr.base b o e),⟨by rw[esc,k.k12];simp,?_,hr.frames.of_keeps fun b o e u=>⟨o,keep b o e,rfl⟩⟩,hr.len,hr.nodup,?_,?_,?_⟩
   ·obtain⟨o,ho,hn⟩:=nfL
    exact⟨env.locals,o,efr,bn _ fL,ho,hn⟩
   ·intro l hl
    rcases zP.mp hl with hl|hl
    ·rcases zN.mp hl with rfl|hl
     ·exact nfL
     ·obtain⟨y,h1⟩:=hcm l hl
      obtain⟨o,ho,hd'⟩:=I.cell y l h1;exact⟨o,ho,fun us q=>by rw[hd'] at q;cases q⟩
    ·obtain⟨o,ho,hn⟩:=hr.res l hl
     exact⟨o,keep l o ho,hn⟩
   ·intro l hl
    refine⟨(hr.off l hl).1,?_⟩;rw[filterMap_cons,efr];rw[zN,not_or];exact⟨fun q=>offN _ fL (q ▸ hl),(hr.off l hl).2⟩
   ·intro i cc l h1 h2
    obtain⟨o,ys,q0,q1,q2,q3⟩:=hr.cell i cc l h1 h2;exact(show CellAt (am.at (new++res)) π s.heap cc l from⟨o,ys,q0,q1,q2,VRs.more new hnew q3⟩).keeps keep
  have sr1:∀ {v:V}{x:Value},SR (am.at res) π s.heap v x→SR (am.at (new++res)) π s₁.heap v x:=by
   intro v x e
   rcases e with e|⟨d',b,e1,e2,e3,C,o',us,e4,e5,e6⟩
   ·exact .inl ((VR.more new hnew e).keeps keep)
   ·exact .inr ⟨d',b,e1,e2,e3,C,o',us,e4,keep b o' e5,e6⟩
  have er1:ER (am.at (new++res)) cx (vs++List.replicate (d.slots - d.arity) .uu) π s₁.heap:=by
   refine⟨⟨_,I.toInCall.ns⟩,offN _ fL,fun y l hl=>⟨offN _ (fC y l (mem_of_lookup hl)),?_,_,I.cell y l hl⟩,fun x y l h1 h2=>?_,fun x i v h1 h2 h3 h4=>?_⟩
   ·exact Nat.ne_of_gt (I.above y l (mem_of_lookup hl))
   ·exact name_of_addr I.apart (mem_of_lookup h1) (mem_of_lookup h2)
   ·have hx:ns[i]?=some x:=zd2 h1
    have hi:i < vs.length:=by
     rcases Nat.lt_or_ge i vs.length with h|h
     ·exact h
     ·rw[List.getElem?_append_right h] at h2
      have:=mem_of_getElem? h2;rw[List.mem_replicate] at this;exact absurd this.2 h3
    rw[List.getElem?_append_left hi] at h2;obtain⟨xv,h5,h6⟩:=zmI ha h2;have hxi:(ns.take d.arity)[i]?=some x:=by rw[List.getElem?_take_of_lt (hlen ▸ hi)];exact hx
    have hnt:(ns.take d.arity).Nodup:=hns.sublist (List.take_sublist _ _);have hlt:xs.length=(ns.take d.arity).length:=by rw[length_take,hnl,Nat.min_eq_left k.k8];exact hxl
    refine⟨xv,?_,sr1 h6⟩
    rcases k.k17 x (mem_of_getElem? hx) with hk|hk
    ·have hk':env.kindOf x=some .local:=by rw[ekd];exact hk
     exact .inl ⟨hk',_,I.toInCall.ns,zkH _ _ _ _ hnt hlt i x xv hxi h5 hk'⟩
    ·have hk':env.kindOf x=some .cell:=by rw[ekd];exact hk
     have hcs:=zco fd.scope.names (s.heap.objs.size+1) [] x (.inl hk);rw[←ecl] at hcs;obtain⟨l,hl⟩:=Option.isSome_iff_exists.mp hcs;refine .inr ⟨.inl hk',l,hl,?_⟩;have:=I.cell x l hl;rw[zkI _ _ _ _ hnt hlt i x xv hxi h5 hk'] at this;exact this
  have as1:AS n (env::sk) (A.deeper env):=by
   refine⟨?_,?_,?_⟩
   ·show A.frames.map (env::·)=_;rw[as.frames];rfl
   ·show A.depth+1+n < 800;rw[Nat.add_assoc,Nat.add_comm 1 n];exact as.depth
   ·exact Nat.lt_of_le_of_lt (by show A.units+3+10 * n≤A.units+10 * (n+1);rw[Nat.add_assoc];exact Nat.add_le_add_left (by rw[Nat.mul_succ,Nat.add_comm];exact Nat.add_le_add_left (by decide) _) _) as.units
  have hd1:Hd q (A.deeper env) π (Fs (env::sk)) s₁.heap:=by
   unfold Hd at hd ⊢
   split
   ·rename_i hq;rw[zT hq] at hd;exact hd
   ·rename_i hq
    rw[zR hq] at hd;refine hold fun u k_=>?_;obtain⟨he,o',us,e1,e2,e3,e4,e5⟩:=hd;refine k_ ?_;refine⟨he,o',us,e1,e2,?_,keep he o' e4,e5⟩;simp only[Fs,filterMap_cons,efr,zN,not_or];exact⟨(fun q'=>by rw[q',fL] at e4;cases e4),e3⟩
  have topE:TopEnv env:=⟨by rw[esc];exact k.k13,by rw[esc];exact k.k14,egl,ebl⟩
  have cxk:CxOK cx:=by
   refine⟨fun x hx=>?_,by show env.scope.kind=_;rw[esc];exact k.k12,egl,ebl,⟨env,sk,rfl,rfl,topE⟩⟩
   rcases hx with hx|hx
   ·have hx:fd.scope.names.lookup x=some .cell:=by rw[←ekd];exact hx
    have hcs:=zco fd.scope.names (s.heap.objs.size+1) [] x (.inl hx);rw[←ecl] at hcs;exact Option.isSome_iff_exists.mp hcs
   ·have hx:fd.scope.names.lookup x=some .free:=by rw[←ekd];exact hx
    exact absurd hx (k.k18 x)
  have ne1:q=true→NoExc (vs++List.replicate (d.slots - d.arity) .uu):=by
   intro hq v hv k hk;subst hk
   rcases zP.mp hv with hv|hv
   ·rcases ha with ha|⟨h,_⟩
    ·obtain⟨i,hi,e1⟩:=getElem_of_mem hv
     obtain⟨x,_,h2⟩:=ha.get i (.exc k) (by rw[zM hi,e1])
     exact h2
    ·rw[hq] at h;cases h
   ·rw[List.mem_replicate] at hv;cases hv.2
  have st1:Step (Fs sk) π s π s₁:=by
   obtain⟨h',tk,e⟩:=I.toInCall.same;exact⟨⟨h',tk,e⟩,.of_keeps keep,[],by simp,by simp⟩
  have X:Stm am n q (run P n) c cx (A.deeper env) (new++res) sk π s (fun u u=>True) (vs++List.replicate (d.slots - d.arity) .uu) π Hc s₁ :=
   ⟨⟨ok,IH,⟨rfl,by show env.scope.names=_;rw[esc],pk.fns,pk.nums⟩,cxk,as1,ne1⟩,
    ⟨⟨rfl,efr⟩,zP.mpr (.inl zZ),bn _ fL,fL,fun y l hl=>⟨zP.mpr (.inl (zY _ (hmc y l hl))),bn _ (fC y l (mem_of_lookup hl)),fC y l (mem_of_lookup hl)⟩⟩,
    st1,⟨hr1,er1,hd1⟩,fun b o e=>hideAll_get _ (hr.base b o e) (by
     rw[zP,not_or];refine⟨fun hm=>?_,fun hm=>?_⟩
     ·have z:am.B.get? b=none:=(hr.off b hm).1
      rw[z] at e;cases e
     ·have z:am.B.get? b=none:=(hr.frames.mem hm).1
      rw[z] at e;cases e),trivial,fun u u u u u u=>trivial⟩
  have down:∀ {π':List Addr}{H':H}{h':Heap},HR (am.at (new++res)) (env::sk) π' H' h'→HR (am.at res) sk π' H' h':=fun {π' H' h'} z=>by
   have z:=HR.sub (am:=am) (r:=new++res) (r':=res) (fun a ha=>zP.mpr (.inr ha)) z;refine⟨z.base,z.frames.2.2,z.len,z.nodup,z.res,fun a ha=>⟨(z.off a ha).1,?_⟩,z.cell⟩;have:=(z.off a ha).2;rw[filterMap_cons,efr,zN,not_or] at this;exact this.2
  rcases TS X with h|h
  ·exact absurd h hbad
  refine yV h (fun fl s' z=>?_) fun y s' z=>?_
  ·refine hold fun u k_=>?_
   obtain⟨fl',ρ',H',π',z1,z2,z3,z4,z5,_⟩:=z;refine k_ ?_;rw[z1]
   cases fl' with
   |next=>cases z5;exact⟨.none,H',π',rfl,z2,down z3.hr,rfl⟩
   |ret w=>obtain⟨xv,rfl,hxv⟩:=z5;exact⟨w,H',π',rfl,z2,down z3.hr,hxv.sub fun a ha=>zP.mpr (.inr ha)⟩
  ·refine hold fun u k_=>?_
   obtain⟨d',ρ',H',π',e,C,fl,z1,rfl,z3,z4,z5,z6,z7⟩:=z;refine k_ ?_;have fl':=zcm (π₀:=π) X.f z5.hr;refine zns as1.frames fl' efr z7 fun h' x' t'=>?_;rw[z1];refine⟨d',H',π',e,C,_,rfl,rfl,z3,z4.touch X.f z5.hr t',?_,x'⟩;exact(down z5.hr).upto t'.slots fun b o e=>t'.stays b o (X.low b o e)⟩
end
end Mine.Internal
namespace Mine.Internal
noncomputable def forkR {α:Type}(o:Option Bool) (a b:Unit→R α):R α :=
 match o with
 |some true=>a ()
 |some false=>b ()
 |none=>.bad
noncomputable def forkS (o:Option Bool) (a b:Unit→RS):RS :=
 match o with
 |some true=>a ()
 |some false=>b ()
 |none=>.bad
noncomputable def tabOf (tl:List (String × FnDef × List String)):Tab:=fun f=>(tl.lookup f).map (·.1)
noncomputable def nmOf (tl:List (String × FnDef × List String)):String→List String:=fun f=>((tl.lookup f).map (·.2)).getD []
variable (q:Bool) (F:Fn) (ρ:List V) (h:H)
@[simp] theorem truthy_bool (b:Bool):truthy (.bool b)=some b:=rfl
@[simp] theorem e_and2 (e d:PE) (es:List PE):evAnd q F ρ (e::d::es) h=(evE q F ρ e h).bind fun x h=>forkR (truthy x) (fun z=>evAnd q F ρ (d::es) h) (fun z=>.ok x h):=rfl
@[simp] theorem s_ifs (t:PE) (a b:List PS):exS q F (.ifs t a b) ρ h=(evE q F ρ t h).st ρ fun x h=>forkS (truthy x) (fun z=>exSs q F a ρ h) (fun z=>exSs q F b ρ h):=rfl
def V.val:V→Prop
 |.uu=>False
 |.exc _=>False
 |_=>True
@[simp] theorem e_and (es:List PE):evE q F ρ (.and es) h=evAnd q F ρ es h:=rfl
@[simp] theorem zqX (a i:PE):evE q F ρ (.idx a i) h=(evE q F ρ a h).bind fun x h=>(evE q F ρ i h).bind fun y h=>R.opt (pyIdx h x y) h:=rfl
noncomputable def lstR (r:R (List V)):R V :=
 match r with
 |.ok r h=>R.opt (mkL r) h
 |_=>.bad
@[simp] theorem lstR_ok (r:List V):lstR (.ok r h)=R.opt (mkL r) h:=rfl
@[simp] theorem e_comp (elt:PE) (x:Nat) (it:PIt) (cond:Option PE):evE q F ρ (.comp elt x it cond) h=if !q then .bad else(evIt q F ρ it h).bind fun vs h =>
   lstR (compL vs.2 (fun v h=>evE q F (ρ.set x v) elt h) (fun v h=>evC q F (ρ.set x v) cond h) vs.1 h):=rfl
@[simp] theorem zaa (e:PE) (es:List PE):evEs q F ρ (e::es) h=(evE q F ρ e h).bind fun v h=>(evEs q F ρ es h).bind fun vs h=>.ok (v::vs) h:=rfl
@[simp] theorem i_seq (e:PE):evIt q F ρ (.seq e) h=(evE q F ρ e h).bind fun x h=>R.opt (iterOf h x) h:=rfl
noncomputable def rngR (v:V) (h:H):R (List V × Watch) :=
 match v with
 |.int n=>if -1000000≤n∧n≤1000000 then .ok (upto n,Option.none) h else .bad
 |_=>.bad
theorem zlf (h1:-1000000≤n) (h2:n≤1000000):rngR (.int n) h=.ok (upto n,Option.none) h:=by simp[rngR,h1,h2]
@[simp] theorem i_range1 (a:PE):evIt q F ρ (.range1 a) h=(evE q F ρ a h).bind fun x h=>rngR x h:=rfl
@[simp] theorem ss_cons' (s:PS) (ss:List PS):exSs q F (s::ss) ρ h=(exS q F s ρ h).then fun ρ h=>exSs q F ss ρ h:=rfl
@[simp] theorem s_expr' (e:PE):exS q F (.expr e) ρ h=(evE q F ρ e h).st ρ fun v h=>noneS v ρ h:=rfl
@[simp] theorem s_asg' (x:Nat) (e:PE):exS q F (.asg x e) ρ h=(evE q F ρ e h).st ρ fun v h=>.ok .next (ρ.set x v) h:=rfl
@[simp] theorem s_ret' (e:PE):exS q F (.ret e) ρ h=(evE q F ρ e h).st ρ fun v h=>.ok (.ret v) ρ h:=rfl
@[simp] theorem s_for1' (x:Nat) (it:PIt) (body:List PS):exS q F (.for1 x it body) ρ h=if !q then .bad else(evIt q F ρ it h).st ρ fun vs h=>forL vs.2 (bind1 x) (fun ρ h=>exSs q F body ρ h) vs.1 ρ h:=rfl
theorem znV (d:FnDef) (vs:List V) (hl:vs.length=d.arity):runD q F d vs h=(exSs q F d.body (vs++List.replicate (d.slots - d.arity) .uu) h).out:=by
 simp[runD,hl]
theorem zaY {vs:List V}(hl:vs.length≤1000000):mkL vs=some (.l vs):=by simp[mkL,hl]
theorem zan (hv:v.plain=true) (h:H):pcall h (.ok v h)=.ok v h:=by
 simp[pcall,frz,zaL _ v hv]
theorem zfg (h n:H) (hv:frz h.length (h++n) v=some w):pcall h (.ok v (h++n))=.ok w h:=by
 simp[pcall,hv]
theorem zfh (c:String) (h n:H):pcall h (.err c (h++n))=.err c h:=by simp[pcall]
theorem zeA (h:H) (i:Nat) (vs:List V) (e:h[i]?=some (.list vs)):isTy h (.ref i) .list=some true:=by show refTy h[i]? _=_;rw[e];rfl
@[simp] theorem cmp_lt_int (h:H) (a b:Int):pyCmp .lt h (.int a) (.int b)=some (decide (a < b)):=rfl
@[simp] theorem cmp_gt_int (h:H) (a b:Int):pyCmp .gt h (.int a) (.int b)=some (decide (b < a)):=rfl
@[simp] theorem cmp_le_int (h:H) (a b:Int):pyCmp .le h (.int a) (.int b)=some (decide (a≤b)):=by
 show some (!decide (b < a))=_
 by_cases e:b < a
 ·rw[zW e,zU (Int.not_le.2 e)];rfl
 ·rw[zU e,zW (Int.not_lt.1 e)];rfl
theorem zcf (h:H) (ha:a.plain=true) (hb:b.plain=true) (oa:V.ok 8 a=true) (ob:V.ok 8 b=true):pyEq h a b=some (peq a b):=by
 simp[pyEq,frz,zaL _ a ha,zaL _ b hb,oa,ob]
@[simp] theorem pyEq_int (h:H) (a b:Int):pyEq h (.int a) (.int b)=some (decide (a=b)):=by
 rw[zcf h rfl rfl rfl rfl];simp only[zlp,zlq,zeh,zoc,zob,zeg,Option.some.injEq];exact Bool.eq_iff_iff.2 (by simp)
theorem zgP (h:H) (a b:Int) (e:b.natAbs < 9223372036854775808):pyBin .mul h (.int a) (.int b)=some (.int (a * b)):=zT (.inr e)
theorem zfS (h:H) (a b:Int) (e:b≠0):pyBin .fdiv h (.int a) (.int b)=some (.int (a.fdiv b)):=zR e
theorem zgQ (h:H) (a b:Int) (e:b≠0):pyBin .mod h (.int a) (.int b)=some (.int (a.fmod b)):=zR e
@[simp] theorem cell_get (h:H) (c:Cell):(h++[c])[h.length]?=some c:=by simp
@[simp] theorem cell_set (h:H) (c d:Cell):(h++[c]).set h.length d=h++[d]:=by simp
theorem zhn (a b:Nat):(a:Int).fmod (b:Int)=((a % b:Nat):Int):=by
 rw[Int.fmod_eq_emod_of_nonneg _ (Int.natCast_nonneg b)];rfl
theorem zhq (a b:Nat):(a:Int).fdiv (b:Int)=((a / b:Nat):Int):=by
 rw[Int.fdiv_eq_ediv_of_nonneg _ (Int.natCast_nonneg b)];rfl
theorem zad {h:H}{v:V}{vs:List V}(e:litems h v=some vs):v=.l vs∨∃ i,v=.ref i∧h[i]?=some (.list vs):=by
 cases v with
 |l us=>exact .inl (congrArg V.l (Option.some.inj e))
 |ref i =>
  refine .inr ⟨i,rfl,?_⟩;change (match h[i]? with|some (.list us)=>some us|_=>Option.none)=_ at e
  cases hc:h[i]? with
  |none=>rw[hc] at e;cases e
  |some c =>
   rw[hc] at e
   cases c with
   |dict es=>cases e
   |list us=>cases e;rfl
 |_=>cases e
theorem zfr {h:H}{w:V}{vs:List V}(hl:litems h w=some vs):Mine.Internal.bf .len h w=some (.int vs.length):=by
 rcases zad hl with rfl|⟨i,rfl,hc⟩
 ·rfl
 ·show(match h[i]? with|some (.list vs)=>some (V.int vs.length)|some (.dict _)=>Option.none|none=>Option.none)=_
  rw[hc]
theorem zfJ {h:H}{w:V}{vs:List V}(hl:litems h w=some vs):isTy h w .list=some true:=by
 rcases zad hl with rfl|⟨i,rfl,hc⟩
 ·rfl
 ·exact zeA _ _ _ hc
theorem zci {h:H}{w:V}{vs:List V}(hl:litems h w=some vs):∃ t:Watch,iterOf h w=some (vs,t)∧t.ok h=true:=by
 rcases zad hl with rfl|⟨i,rfl,hc⟩
 ·exact⟨Option.none,rfl,rfl⟩
 ·exact⟨some (i,.list vs),by show(match h[i]? with|some (.list vs)=>some (vs,some (i,Cell.list vs))|some (.dict _)=>Option.none|none=>Option.none)=_;rw[hc],zW hc⟩
noncomputable def okV (h:H) (v:V):Prop :=
 match v with
 |.uu=>False
 |.exc _=>False
 |.ref i=>(h[i]?).isSome=true
 |_=>True
theorem okV.val (hv:okV h v):v.val:=by
 cases v<;>first|trivial|exact hv.elim
theorem zfk {h:H}{w:V}{vs:List V}(hl:litems h w=some vs):okV h w:=by
 rcases zad hl with rfl|⟨i,rfl,hc⟩
 ·trivial
 ·show(h[i]?).isSome=true
  rw[hc];rfl
set_option tactic.hygienic true in
theorem zif {h:H}{w:V}(hv:okV h w) (hl:litems h w=Option.none):isTy h w .list=some false:=by
 cases w<;>first|rfl|exact hv.elim|cases hl|skip
 rename_i i
 obtain⟨c,hc⟩:=Option.isSome_iff_exists.1 hv
 cases c with
 |list vs=>change (match h[i]? with|some (.list us)=>some us|_=>Option.none)=_ at hl;rw[hc] at hl;cases hl
 |dict es=>show refTy h[i]? .list=_;rw[hc];rfl
@[simp] theorem asBools_map {α:Type}(l:List α) (f:α→Bool):zby (l.map fun v=>.bool (f v))=some (l.map f):=by
 induction l with
 |nil=>rfl
 |cons a l ih =>
  show(zby (l.map fun v=>.bool (f v))).map (f a::·)=_;rw[ih];rfl
@[simp] theorem bf_all:Mine.Internal.bf .all h (.l vs)=(zby vs).map fun bs=>.bool (bs.all id):=rfl
theorem zq9 {h:H}{w:V}{vs:List V}(hl:litems h w=some vs):Mine.Internal.bf .listRev h w=some (.l vs.reverse):=by show(litems h w).map _=_;rw[hl];rfl
theorem zah {h:H}{i:Nat}{vs:List V}(hc:h[i]?=some (.list vs)):litems h (.ref i)=some vs:=by show(match h[i]? with|some (.list us)=>some us|_=>Option.none)=_;rw[hc]
@[simp] theorem litems_lst (h:H) (vs:List V):litems h (.l vs)=some vs:=rfl
theorem zbt {h:H}{i:Nat}{vs:List V}(hc:h[i]?=some (.list vs)):lcell h (.ref i)=true:=by simp[lcell,hc]
theorem za4 {h:H}{i:Nat}{vs:List V}(hc:h[i]?=some (.list vs)) (f:List V→Option (V × List V)) (v:V) (vs':List V) (e:f vs=some (v,vs')) (hl:vs'.length≤1000000) :
  onList h (.ref i) f=.ok v (h.set i (.list vs')):=by simp[onList,hc,e,hl]
theorem zax {q:Bool}{F:Fn}{x:Nat}{e:PE}{ss:List PS}{ρ ρ':List V}{h h':H}{v:V}{r:R V}(he:evE q F ρ e h=.ok v h') (hρ:ρ.set x v=ρ') (k:(exSs q F ss ρ' h').out=r):(exSs q F (.asg x e::ss) ρ h).out=r:=by
 subst hρ;rw[ss_cons',s_asg',he];exact k
theorem zaQ {q:Bool}{F:Fn}{e:PE}{ss:List PS}{ρ:List V}{h h':H}{v:V}(he:evE q F ρ e h=.ok v h'):(exSs q F (.ret e::ss) ρ h).out=.ok v h':=by
 rw[ss_cons',s_ret',he];rfl
theorem zaD {q:Bool}{F:Fn}{e:PE}{ss:List PS}{ρ:List V}{h h':H}{r:R V}(he:evE q F ρ e h=.ok .none h') (k:(exSs q F ss ρ h').out=r):(exSs q F (.expr e::ss) ρ h).out=r:=by
 rw[ss_cons',s_expr',he];exact k
theorem zch {q:Bool}{F:Fn}{e:PE}{ss:List PS}{ρ:List V}{h h':H}{c:String}(he:evE q F ρ e h=.err c h'):(exSs q F (.expr e::ss) ρ h).out=.err c h':=by
 rw[ss_cons',s_expr',he];rfl
theorem zb6 (q:Bool) (F:Fn) (a b:List PS) (ρ:List V) (h:H):exSs q F (a++b) ρ h=(exSs q F a ρ h).then fun ρ h=>exSs q F b ρ h:=by
 induction a generalizing ρ h with
 |nil=>rfl
 |cons s a ih =>
  rw[cons_append,ss_cons',ss_cons']
  cases exS q F s ρ h with
  |bad=>rfl
  |err c ρ h=>rfl
  |ok f ρ h=>cases f with
   |next=>simp only[RS.then_next];exact ih ρ h
   |ret v=>rfl
theorem zdv {q:Bool}{F:Fn}{t:PE}{a b ss:List PS}{ρ:List V}{h h':H}{r:R V}(ht:evE q F ρ t h=.ok (.bool true) h') (k:(exSs q F (a++ss) ρ h').out=r):(exSs q F (.ifs t a b::ss) ρ h).out=r:=by
 rw[ss_cons',s_ifs,ht];rw[zb6] at k;exact k
theorem zaU {q:Bool}{F:Fn}{t:PE}{a b ss:List PS}{ρ:List V}{h h':H}{r:R V}(ht:evE q F ρ t h=.ok (.bool false) h') (k:(exSs q F (b++ss) ρ h').out=r):(exSs q F (.ifs t a b::ss) ρ h).out=r:=by
 rw[ss_cons',s_ifs,ht];rw[zb6] at k;exact k
set_option tactic.hygienic true in
theorem zgE {h:H}{v:V}(hv:okV h v) (h1:∀ a,v≠.int a) (h2:∀ b,v≠.bool b):isTy h v .int=some false:=by
 cases v<;>first|rfl|exact hv.elim|exact absurd rfl (h1 _)|exact absurd rfl (h2 _)|skip
 rename_i i
 obtain⟨c,hc⟩:=Option.isSome_iff_exists.mp hv;show refTy h[i]? .int=_;rw[hc]
 cases c<;>rfl
theorem zox (v:V):(∃ a,v=.int a)∨(∃ b,v=.bool b)∨((∀ a,v≠.int a)∧∀ b,v≠.bool b):=by
 cases v<;>first|exact .inl ⟨_,rfl⟩|exact .inr (.inl ⟨_,rfl⟩)|exact .inr (.inr ⟨(fun z q=>nomatch q),(fun z q=>nomatch q)⟩)
end Mine.Internal
namespace Mine.Internal
open PySem PySem.W PyProof.Rows
theorem zg9 {f:Addr→Bool}(h:refB o f=true):∃ C,o=some (some (.ref C))∧f C=true:=by
 cases o with
 |none=>exact noB h
 |some o=>cases o with
  |none=>exact noB h
  |some v=>cases v<;>first|exact noB h|exact⟨_,rfl,h⟩
noncomputable def zgb (p:Program):Bool:=zaf.all fun c=>specOf p (Str.ofString c) == some ("ValueError.__new__",[.type "ValueError",.type "Exception",.type "BaseException",.type "object"])
noncomputable def defChk (p:Program) (fns:List String) (nums:List (String × Int)) (tl:List (String × FnDef × List String)):Bool :=
 tl.all fun t=>match (recsOf p).find? (fun r=>r.name == Str.ofString t.1) with
  |some r=>ckFn fns nums t.2.1 t.2.2 (Calls.docDef r.name r.params r.body r.scope .none .none .none)
  |none=>false
noncomputable def fnsChk (p:Program) (fns:List String):Bool:=fns.all fun f=>((recsOf p).find? (fun r=>r.name == Str.ofString f)).isSome
theorem zl8 (h:intB o i=true):∃ t,o=some (some (.int i t)):=by
 cases o with
 |none=>exact noB h
 |some o=>cases o with
  |none=>exact noB h
  |some v=>cases v<;>first|exact noB h|exact⟨_,by rw[eq_of_beq (show(_ == i)=true from h)]⟩
section
variable {p prog:Program}{w:World}{loose:List Str}{mean:ExcName→Option Value}{mg mb:Str→Option Value}{h:Heap}{K:Frag}
theorem zni (X:K.In h) (G:h.Ns mainGlobals mg) (hx:excChk K=true) (hc:c∈zaf):∃ C,mg (Str.ofString c)=some (.ref C)∧excOne K c C=true:=by
 obtain⟨C,e,x⟩:=zg9 (List.all_eq_true.mp hx c hc);exact⟨C,mg_of X G e,x⟩
theorem znh (X:K.In h) (G:h.Ns mainGlobals mg) (hx:excChk K=true) (hc:c∈zaf) (e:mg (Str.ofString c)=some (.ref C)):excOne K c C=true:=by
 obtain⟨C',e',x⟩:=zni X G hx hc;rw[e] at e';cases e';exact x
theorem zjp (X:K.In h) (G:h.Ns mainGlobals mg){f:Addr→Bool}(y:refB (nsIn K mainGlobals (Str.ofString d)) f=true) (e:mg (Str.ofString d)=some (.ref D)):f D=true:=by
 obtain⟨D',e',x⟩:=zg9 y;rw[mg_of X G e'] at e;cases e;exact x
theorem zrf (T:Top p loose mean am.mg am.mb am.B) (X:Frag.In am.K am.B) (himp:importsNone p=true) (htree:am.prog.given.tree=none) (hx:excChk am.K=true) (ho:zgb p=true) (hb:btChk am.K=true):AmbX am where
 g:=T.g
 b:=T.b
 nolimit:=T.nolimit
 noseer:=T.seer himp
 tree:=htree
 K:=X
 bt:=fun q hq=>by
  have:=List.all_eq_true.mp hb q hq;simp only[Bool.and_eq_true,beq_iff_eq,bne_iff_ne,ne_eq] at this;exact⟨mg_none_of X T.g this.1.1,(T.builtins q.1 this.2).trans this.1.2⟩
 exc:=fun c hc=>by
  obtain⟨C,e,x⟩:=zni X T.g hx hc;exact⟨C,e,⟨eq_of_beq (al x),eq_of_beq (al (ar x))⟩,al (ar (ar x)),eq_of_beq (al (ar (ar (ar x)))),eq_of_beq (al (ar (ar (ar (ar x))))),eq_of_beq (al (ar (ar (ar (ar (ar x)))))),eq_of_beq (al (ar (ar (ar (ar (ar (ar x))))))),eq_of_beq (al (ar (ar (ar (ar (ar (ar (ar x))))))))⟩
 sub:=fun c hc d hd C D e1 e2=>eq_of_beq (zjp X T.g (List.all_eq_true.mp (al (ar (ar (ar (ar (ar (ar (ar (ar (znh X T.g hx hc e1)))))))))) d hd) e2)
 exm:=fun c hc C D e1 e2=>eq_of_beq (zjp X T.g (ar (ar (ar (ar (ar (ar (ar (ar (ar (znh X T.g hx hc e1)))))))))) e2)
 rs:=fun c hc C e1=>by
  have hs:=List.all_eq_true.mp ho c hc;rw[beq_iff_eq] at hs;obtain⟨C',O,_⟩:=T.ownAt hs;have h1:C'=C:=by have:=O.bound.symm.trans e1;cases this;rfl
  subst h1;refine hold fun z k_=>?_;obtain⟨bm,N,nm,q,bs,hdct,sn,sub,ab,col,dd,k0,k1,k2,k3,k5,mN,hC,hN,hq,TQ⟩:=O.obj;refine k_ ?_;exact⟨nm,q,N,bs,bm,hdct,sn,sub,ab,col,dd,k0,k1,k2,k3,k5,mN,hC,hN,hq,TQ⟩
theorem zmC (pm cd doc:Value) :
  ckFn fns nums d nm (Calls.docDef n ps b sc pm cd doc)=ckFn fns nums d nm (Calls.docDef n ps b sc .none .none .none):=rfl
set_option tactic.hygienic true in
theorem zn9 (T:Top p loose mean am.mg am.mb am.B) (X:Frag.In am.K am.B) (hd:defChk p fns nums tl=true) (hf:fnsChk p fns=true) (hn:zei am.K nums=true) :
  ProgOK am (tabOf tl) (nmOf tl) fns nums where
 fn:=fun f d a o fd e1 e2 e3 e4=>by
  unfold tabOf at e1;unfold nmOf
  cases hl:tl.lookup f with
  |none=>rw[hl] at e1;cases e1
  |some t =>
   rw[hl] at e1;simp only[Option.map_some,Option.some.injEq] at e1;subst e1;have hm:(f,t)∈tl:=by
    clear hd
    induction tl with
    |nil=>simp at hl
    |cons u tl ih =>
     obtain⟨g,u⟩:=u;rw[lookup_cons] at hl
     cases hq:f == g with
     |true=>rw[hq] at hl;cases hl;rw[beq_iff_eq.mp hq];exact zZ
     |false=>rw[hq] at hl;exact zY _ (ih hl)
   have:=List.all_eq_true.mp hd _ hm
   split at this
   ·rename_i r hr
    have hrm:=List.mem_of_find?_eq_some hr;have hrn:r.name=Str.ofString f:=by have:=List.find?_some hr;simpa using this
    refine hold fun z k_=>?_;obtain⟨a',o',pm,code,doc,t1,t2,t3,t4⟩:=T.fn r hrm;refine k_ ?_;rw[hrn] at t1;have h1:a'=a:=by have:=t1.symm.trans e2;cases this;rfl
    subst h1;have h2:o'=o:=by have:=t2.symm.trans e3;cases this;rfl
    subst h2;rw[t3] at e4
    cases e4
    refine⟨?_,t4⟩;rw[zmC];exact this
   ·cases this
 fns:=fun f hf'=>by
  have:=List.all_eq_true.mp hf f hf';obtain⟨r,hr⟩:=Option.isSome_iff_exists.mp this;have hrm:=List.mem_of_find?_eq_some hr;have hrn:r.name=Str.ofString f:=by have:=List.find?_some hr;simpa using this
  refine hold fun z k_=>?_;obtain⟨a',o',pm,code,doc,t1,t2,t3,t4⟩:=T.fn r hrm;refine k_ ?_;rw[hrn] at t1;exact⟨a',t1,o',_,t2,t3⟩
 nums:=fun q hq=>by
  obtain⟨t,e⟩:=zl8 (List.all_eq_true.mp hn q hq);exact⟨t,mg_of X T.g e⟩
theorem zj9 (hi:IntsAre xs l):VRs am π h (l.map .int) xs:=by
 induction hi with
 |nil=>exact rfl
 |cons n t _ ih=>exact⟨_,_,rfl,⟨t,rfl⟩,ih⟩
theorem zqo (T:Top p loose mean mg mb s₁.heap) (X:K.In s₁.heap) (himp:importsNone p=true) (htree:prog.given.tree=none)
  (hx:excChk K=true) (ho:zgb p=true) (hb:btChk K=true) (hd:defChk p fns nums tl=true) (hf:fnsChk p fns=true) (hn:zei K nums=true) (hlaw:"law"∈fns)
  (hmg:mg "law"=some (.ref fa)) (hl:s₁.heap.IsList a xs.toArray) (hi:IntsAre xs l) (h63:¬ (63:Int) < (l.length:Int)) (hn9:n≤400)
  (hrun:run (tabOf tl) n true "law" [V.ints l] []=.ok (.bool true) H'){Q:Value→Shared→Prop}{E:Value→Shared→Prop}
  (hQ:∀ s',(∃ h' tk,s'={ s₁ with heap:=h',toks:=tk })→(∀ b o,s₁.heap.get? b=some o→s'.heap.get? b=some o)→Q (.bool true) s') :
  wpAny (model prog w) callerA (PySem.call (.ref fa) [.ref a]) Q E s₁:=by
 have ok:AmbX { prog:=prog,w:=w,B:=s₁.heap,mg:=mg,mb:=mb,P:=tabOf tl,K:=K }:=zrf T X himp htree hx ho hb;have pk:=zn9 (am:={ prog:=prog,w:=w,B:=s₁.heap,mg:=mg,mb:=mb,P:=tabOf tl,K:=K }) T X hd hf hn;obtain⟨fa',ff⟩:=pk.fns "law" hlaw;have hfa:fa'=fa:=by have:=ff.1.symm.trans hmg;cases this;rfl
 subst hfa;have hr:HR (({ prog:=prog,w:=w,B:=s₁.heap,mg:=mg,mb:=mb,P:=tabOf tl,K:=K }:Amb).at []) [] [] [] s₁.heap :=
  ⟨fun y y e=>e,trivial,rfl,List.nodup_nil,(fun a ha=>by cases ha),(fun a ha=>by cases ha),(fun i c a h1=>by simp at h1)⟩
 have hlen:xs.length=l.length:=by have:=(zj9 (am:={ prog:=prog,w:=w,B:=s₁.heap,mg:=mg,mb:=mb,P:=tabOf tl,K:=K }) (π:=[]) (h:=s₁.heap) hi).len;simpa using this
 have J:=(zmW ok pk n).call [] true "law" fa' [V.ints l] [.ref a] [] callerA [] [] s₁ ff ⟨rfl,Nat.lt_of_le_of_lt (Nat.add_le_add_left hn9 (1+claimMargin)) (by decide),Nat.lt_of_le_of_lt (Nat.add_le_add_left (Nat.mul_le_mul_left 10 hn9) 4) (by decide)⟩ hr rfl (.inl (by
  exact⟨_,_,rfl,⟨a,xs,rfl,⟨by simp,by simp[Amb.at]⟩,hl,by rw[zJ];exact zX (Int.ofNat_le.1 (Int.not_lt.1 h63)) (by decide),zj9 hi⟩,rfl⟩))
 rw[hrun] at J
 rcases J with J|J
 ·cases J
 ·refine yV J (fun v s' z=>?_) fun e s' z=>?_
  ·refine hold fun y k_=>?_
   obtain⟨b,H2,π',z1,z2,z3,z4⟩:=z;refine k_ ?_
   cases z1
   subst z4;exact hQ s' z2.same fun b o e=>z2.ext.keep b o e (by simp) (by simp[Fs])
  ·obtain⟨_,_,_,_,_,_,z,_⟩:=z;cases z
end
def Leans (nums:List (String × Int)) (h:Heap):Prop:=∃ K:Frag,K.In h∧excChk K=true∧btChk K=true∧zei K nums=true
theorem zki (h:Heap):∀ as:List Addr,(fragAt h as).In h:=by
 intro as a o e;have hm:=zaz e;obtain⟨b,_,hb⟩:=List.mem_filterMap.mp hm
 cases hq:h.get? b with
 |none=>rw[hq] at hb;cases hb
 |some o'=>rw[hq] at hb;cases hb;exact hq
theorem zlQ {l:OpenLaw}{q:Program}{N:Nat}{nums:List (String × Int)}(said:l.wellSaid=true) (hrs:l.row.wellSaid=true)
  (left:LeftO l.row.prog q [] (fun s=>xlAt q [] s&&recOk (RowW.records l.row.toRowW) s) (fun s=>hookB nums s.heap) (fun y=>true) N)
  (d1:(defOf q l.row.name).isSome=true) (d2:l.row.prog.theDef l.row.name=(defOf q l.row.name).map fun x=>(x.1.params,x.1.body,x.1.scope))
  (d3:((defOf q l.row.name).map fun x=>kwWritten? x.1.params.kwonlyargs x.1.params.kw_defaults)=(defOf q l.row.name).map fun x=>some x.2)
  (hwr:(!l.row.writes||l.row.records.isEmpty)=true) (ok:(chainsOk q&&opensWell l.row.prog&&(frees l.row.toRowW&&l.row.within.isEmpty))=true) (hb:l.row.prog.bare) (hw:l.row.toRowW.promised)
  (walk:∀ d kwd,defOf q l.row.name=some (d,kwd)→WalkO q [] (XL q []) (fun y h=>Leans nums h) l.row.toRowW d kwd fun f vs=>PySem.call f vs):l.Holds:=by
 obtain⟨⟨d,kwd⟩,hdef⟩:=Option.isSome_iff_exists.mp d1;rw[hdef] at d2 d3;simp only[Option.map_some,Option.some.injEq] at d2 d3;refine⟨said,holds_open (q:=q) (loose:=[]) (Xt:=fun s=>xlAt q [] s&&recOk (RowW.records l.row.toRowW) s) (XP:=XL q []) (YP:=fun y h=>Leans nums h) left (fun w s e=>?_) (fun w h h' e k=>?_)
  (fun s e=>xl_of s (yK.mp e).1) XL.keeps hdef d2 d3 (fun s e=>recFacts_of (yK.mp e).2) hwr hrs ok hb hw (walk d kwd hdef)⟩
 ·simp only[hookB,Bool.and_eq_true] at e
  exact⟨exFrag s.heap,zki _ _,e.1.1,e.1.2,e.2⟩
 ·obtain⟨K,k1,k2⟩:=e
  exact⟨K,fun a o z=>k a o (k1 a o z),k2⟩
end Mine.Internal
namespace Mine.Internal
@[simp] theorem pcall_bool (h:H) (b:Bool):pcall h (.ok (.bool b) h)=.ok (.bool b) h:=zan rfl h
@[simp] theorem pcall_int (h:H) (b:Int):pcall h (.ok (.int b) h)=.ok (.int b) h:=zan rfl h
@[simp] theorem pcall_none (h:H):pcall h (.ok .none h)=.ok .none h:=zan rfl h
noncomputable def V.nat (d:Nat):V:=.int d
noncomputable def V.nats (l:List Nat):List V:=l.map V.nat
@[simp] theorem nats_length (l:List Nat):(V.nats l).length=l.length:=by simp[V.nats]
theorem zbq (a:Nat) (l:List Nat):V.nats (a::l)=.int a::V.nats l:=rfl
theorem zas (a b:List Nat):V.nats (a++b)=V.nats a++V.nats b:=by simp[V.nats]
theorem zjM (n:Nat) (l:List Nat):(V.nats l).take n=V.nats (l.take n):=by simp[V.nats]
theorem zjN (n:Nat) (l:List Nat):(V.nats l).drop n=V.nats (l.drop n):=by simp[V.nats]
theorem zaX {l:List Nat}{i:Nat}{d:Nat}(e:l[i]?=some d):(V.nats l)[i]?=some (.int d):=by simp[V.nats,e,V.nat]
theorem zbO (l:List Nat):V.plains (V.nats l)=true:=by
 induction l with
 |nil=>rfl
 |cons a l ih=>exact ih
theorem zak (l:List Nat):V.plain (.l (V.nats l))=true:=zbO l
theorem zbB (hv:v∈V.nats l):∃ d∈l,v=.int d:=by
 simp only[V.nats,yQ] at hv;obtain⟨d,hd,rfl⟩:=hv;exact⟨d,hd,rfl⟩
theorem zff (a b:List Nat):peqs (V.nats a) (V.nats b)=decide (a=b):=by
 induction a generalizing b with
 |nil=>cases b<;>rfl
 |cons x a ih=>cases b with
  |nil=>rfl
  |cons y b =>
   rw[zbq,zbq,zjA,zeh,ih]
   by_cases e1:x=y<;>by_cases e2:a=b<;>simp[e1,e2]
   omega
theorem zok (l:List Nat) (n:Nat):(V.nats l).all (V.ok (n+1))=true:=by
 rw[all_eq_true];intro v hv;obtain⟨d,_,rfl⟩:=zbB hv;rfl
theorem zcG (l:List Nat) (n:Nat):V.ok (n+2) (.l (V.nats l))=true:=zok l n
theorem zhb (ha:frz 0 h a=some a') (hb:frz 0 h b=some b') (oa:V.ok 8 a'=true) (ob:V.ok 8 b'=true):pyEq h a b=some (peq a' b'):=by
 simp[pyEq,ha,hb,oa,ob]
theorem za7 (n:Nat) (h:H) (v:V) (hv:v.plain=true):frz n h v=some v:=zaL _ v hv
def IsL (h:H) (v:V) (l:List Nat):Prop:=litems h v=some (V.nats l)
theorem IsL.lst (h:H) (l:List Nat):IsL h (.l (V.nats l)) l:=rfl
theorem IsL.ref {h:H}{i:Nat}{l:List Nat}(e:h[i]?=some (.list (V.nats l))):IsL h (.ref i) l:=zah e
theorem zcl (hn:n≤i) (e:h[i]?=some (.list (V.nats l))):frzAt (k+1) n h i=some (.l (V.nats l)):=by
 rw[zeE,zR (by omega),e]
 show Option.map _ (V.mapRefs _ (V.nats l))=_;rw[zaF _ _ (zbO l)];rfl
theorem IsL.frz {h:H}{v:V}{l:List Nat}(e:IsL h v l):frz 0 h v=some (.l (V.nats l)):=by
 rcases zad e with rfl|⟨i,rfl,hc⟩
 ·exact za7 0 h _ (zak l)
 ·exact zcl (Nat.zero_le _) hc
theorem IsL.okV {h:H}{v:V}{l:List Nat}(e:IsL h v l):okV h v:=zfk e
theorem IsL.val {h:H}{v:V}{l:List Nat}(e:IsL h v l):v.val:=(zfk e).val
theorem IsL.items (e:IsL h v l):∀ vs,litems h v=some vs→∀ x∈vs,Mine.Internal.okV h x:=by
 intro vs hv x hx;rw[e] at hv;cases hv
 obtain⟨d,_,rfl⟩:=zbB hx;trivial
theorem zfb {h:H}{a b:V}{x y:List Nat}(ha:IsL h a x) (hb:IsL h b y):pyEq h a b=some (decide (x=y)):=by
 rw[zhb ha.frz hb.frz (zcG x 6) (zcG y 6),zeg,zff]
theorem zg5 {h:H}{v:V}{vs:List V}(e:litems h v=some vs) (lo hi:Option V) (a b:Option Int) (ha:lo.mapM asInt?=some a) (hb:hi.mapM asInt?=some b):zbM h v lo hi=some (.l (slc vs a b)):=by
 rw[zbM,ha,hb]
 rcases zad e with rfl|⟨i,rfl,hc⟩
 ·rfl
 ·simp only
  rw[zah hc];rfl
theorem zpD {α:Type}(vs:List α) (j:Nat):slc vs Option.none (some (j:Int))=vs.take j:=by
 simp only[slc,cut,Int.not_lt.2 (Int.natCast_nonneg j),if_false,Int.toNat_natCast,drop_zero]
 rcases Nat.le_total j vs.length with hj|hj
 ·rw[Nat.min_eq_left hj]
 ·rw[Nat.min_eq_right hj,take_length,take_of_length_le hj]
theorem zk9 {α:Type}(vs:List α) (i:Nat):slc vs (some (i:Int)) Option.none=vs.drop i:=by
 simp only[slc,cut,Int.not_lt.2 (Int.natCast_nonneg i),if_false,Int.toNat_natCast,take_length]
 rcases Nat.le_total i vs.length with hj|hj
 ·rw[Nat.min_eq_left hj]
 ·rw[Nat.min_eq_right hj,List.drop_length,drop_of_length_le hj]
theorem zk8 (e:litems h v=some vs) (j:Nat):zbM h v Option.none (some (.int j))=some (.l (vs.take j)):=by
 rw[zg5 e _ _ Option.none (some (j:Int)) rfl rfl,zpD]
theorem zhZ (e:litems h v=some vs) (i:Nat):zbM h v (some (.int i)) Option.none=some (.l (vs.drop i)):=by
 rw[zg5 e _ _ (some (i:Int)) Option.none rfl rfl,zk9]
theorem zfK {h:H}{v:V}{vs:List V}(e:litems h v=some vs){j:Nat}{x:V}(hj:vs[j]?=some x):pyIdx h v (.int j)=some x:=by
 have hl:j < vs.length:=(List.getElem?_eq_some_iff.1 hj).1;have hp:place vs.length (j:Int)=some j:=by simp[place,hl]
 rcases zad e with rfl|⟨i,rfl,hc⟩
 ·show(place vs.length (j:Int)).bind _=_
  rw[hp];exact hj
 ·show(match h[i]? with|some (.dict es)=>if keyFit (.int j) es then dfind (.int j) es else Option.none|some (.list vs)=>(place vs.length (j:Int)).bind fun j=>vs[j]?|none=>Option.none)=_
  rw[hc];show(place vs.length (j:Int)).bind _=_;rw[hp];exact hj
theorem IsL.idx {h:H}{v:V}{l:List Nat}(e:IsL h v l){j d:Nat}(hj:l[j]?=some d):pyIdx h v (.int j)=some (.int d):=zfK e (zaX hj)
theorem addLL (h:H) (vs ws:List V) (hl:vs.length+ws.length≤1000000):pyBin .add h (.l vs) (.l ws)=some (.l (vs++ws)):=by
 exact zaY (by rw[zQ];exact hl)
theorem zrg {h:H}{a b:V}{vs ws:List V}(ha:litems h a=some vs) (hb:litems h b=some ws) (hl:vs.length+ws.length≤1000000):pyBin .add h a b=some (.l (vs++ws)):=by
 have e:((litems h a).bind fun x=>(litems h b).bind fun y=>mkL (x++y))=some (.l (vs++ws)):=by
  rw[ha,hb];exact zaY (by simpa using hl)
 rcases zad ha with rfl|⟨i,rfl,_⟩<;>exact e
theorem za8 (x:Int) (m:Nat) (hm:0 < m):∃ j:Nat,j < m∧x.fmod m=j:=by
 have h2:=Int.fmod_lt_of_pos x (Int.natCast_pos.2 hm);obtain⟨j,hj⟩:=Int.eq_ofNat_of_zero_le (Int.fmod_nonneg_of_pos x (Int.natCast_pos.2 hm));exact⟨j,Int.ofNat_lt.1 (hj ▸ h2),hj⟩
noncomputable def cellAt (l:List Int) (k:Nat):Int:=l.getD k 0
noncomputable def setS (v:V) (ρ:List V) (xs:List Nat) (h:H):RS :=
 match v with
 |.tup vs=>(match setAll ρ xs vs with
  |some ρ=>.ok .next ρ h
  |Option.none=>.bad)
 |_=>.bad
theorem znU (q:Bool) (F:Fn) (ρ:List V) (h:H) (xs:List Nat) (e:PE):exS q F (.asgT xs e) ρ h=if !q then .bad else(evE q F ρ e h).st ρ fun v h=>setS v ρ xs h:=rfl
theorem zm3 (he:evE true F ρ e h=.ok (.tup vs) h') (hρ:setAll ρ xs vs=some ρ') (k:(exSs true F ss ρ' h').out=r):(exSs true F (.asgT xs e::ss) ρ h).out=r:=by
 rw[ss_cons',znU,zR (by decide),he,R.st_ok,setS,hρ];exact k
theorem znX (h:H) (n:Nat) (hn:n≤1000000):rngR (.int n) h=.ok (upto n,Option.none) h:=zlf h (Int.le_trans (by decide) (Int.natCast_nonneg n)) (Int.ofNat_le.2 hn)
theorem start {P:Tab}{f:String}{d:FnDef}{n:Nat}{q:Bool}{vs ρ:List V}{h:H}{r:R V}(hf:P f=some d) (hl:vs.length=d.arity) (hρ:vs++List.replicate (d.slots - d.arity) .uu=ρ)
  (k:(exSs q (run P n) d.body ρ h).out=r):run P (n+1) q f vs h=r:=by
 rw[zld hf,znV _ _ _ _ _ hl,hρ];exact k
theorem zqz {q:Bool}{F:Fn}{ρ:List V}{h h':H}{a:PE}{n:Nat}(e:evE q F ρ a h=.ok (.int n) h') (hn:n≤1000000):evIt q F ρ (.range1 a) h=.ok (upto n,Option.none) h':=by
 rw[i_range1,e,R.bind_ok,znX _ _ hn]
theorem zj7 (e:evE q F ρ a h=.ok (.l vs) h'):evIt q F ρ (.seq a) h=.ok (vs,Option.none) h':=by
 rw[i_seq,e];rfl
theorem zkE {α:Type}{elt cond:V→H→R V}(c e:α→V) (b:α→Bool) (h:H) (w:Watch) (hw:w.ok h=true) (l:List α)
  (hc:∀ a∈l,cond (c a) h=.ok (.bool (b a)) h) (he:∀ a∈l,b a=true→elt (c a) h=.ok (e a) h) :
  compL w elt cond (l.map c) h=.ok ((l.filter b).map e) h:=by
 induction l with
 |nil=>simp[zgK,hw]
 |cons a l ih =>
  have ih:=ih (fun v hv=>hc v (zY _ hv)) (fun v hv=>he v (zY _ hv));rw[yY,zgL,zT hw,hc a (zZ ..),R.bind_ok,truthy_bool]
  cases hb:b a with
  |true=>dsimp only;rw[he a (zZ ..) hb,R.bind_ok,ih,R.bind_ok,List.filter_cons_of_pos hb,yY]
  |false=>dsimp only;rw[ih,List.filter_cons_of_neg (by rw[hb];exact Bool.false_ne_true)]
theorem zmm {α:Type}{F:Fn}{ρ:List V}{h h':H}{elt cond:PE}{x:Nat}{it:PIt}{l:List α}{c:α→V}{t:Watch}{r:V}(hi:evIt true F ρ it h=.ok (l.map c,t) h') (ht:t.ok h'=true) (e:α→V) (b:α→Bool)
  (hc:∀ a∈l,evE true F (ρ.set x (c a)) cond h'=.ok (.bool (b a)) h') (he:∀ a∈l,b a=true→evE true F (ρ.set x (c a)) elt h'=.ok (e a) h') (hr:mkL ((l.filter b).map e)=some r) :
  evE true F ρ (.comp elt x it (some cond)) h=.ok r h':=by
 rw[e_comp,zR (by decide),hi,R.bind_ok,zkE c e b h' t ht l hc he,lstR_ok,hr];rfl
theorem zbk {α:Type}{F:Fn}{ρ:List V}{h h':H}{elt:PE}{x:Nat}{it:PIt}{l:List α}{c:α→V}{t:Watch}{r:V}(hi:evIt true F ρ it h=.ok (l.map c,t) h') (ht:t.ok h'=true) (e:α→V)
  (he:∀ a∈l,evE true F (ρ.set x (c a)) elt h'=.ok (e a) h') (hr:mkL (l.map e)=some r) :
  evE true F ρ (.comp elt x it Option.none) h=.ok r h':=by
 rw[e_comp,zR (by decide),hi,R.bind_ok,zkE c e (fun z=>true) h' t ht l (fun z z=>rfl) (fun a ha z=>he a ha),lstR_ok,List.filter_eq_self.2 (fun z z=>rfl),hr];rfl
theorem zaT {q:Bool}{F:Fn}{ρ:List V}{h h':H}{a:PE}{n:Nat}(e:evE q F ρ a h=.ok (.int n) h') (hn:n≤1000000):evIt q F ρ (.range1 a) h=.ok ((List.range n).map fun i:Nat=>V.int i,Option.none) h':=zqz e hn
theorem zqJ {α:Type}{body:List V→H→RS}(l:List α) (c:α→V) (f:List α→V→List V) (g:List α→H) (ht:∀ p,t.ok (g p)=true)
  (hb:∀ p a q w,l=p++a::q→body ((f p w).set x (c a)) (g p)=.ok .next (f (p++[a]) (c a)) (g (p++[a]))) (w:V) :
  ∃ w',forL t (bind1 x) body (l.map c) (f [] w) (g [])=.ok .next (f l w') (g l):=by
 have key:∀ (q p:List α) (w:V),l=p++q→∃ w',forL t (bind1 x) body (q.map c) (f p w) (g p)=.ok .next (f l w') (g l):=by
  intro q
  induction q with
  |nil=>intro p w e;rw[append_nil] at e;subst e;exact⟨w,zT (ht _)⟩
  |cons a q ih =>
   intro p w e;obtain⟨w',e'⟩:=ih (p++[a]) (c a) (by rw[e,yJ];rfl)
   refine⟨w',?_⟩;rw[yY,zhm,zT (ht _)];show(body ((f p w).set x (c a)) (g p)).then _=_;rw[hb p a q w e,RS.then_next,e']
 exact key l [] w rfl
theorem zfn {α:Type}{F:Fn}{x:Nat}{it:PIt}{body ss:List PS}{ρ:List V}{h h':H}{l:List α}{c:α→V}{t:Watch}{r:R V}(f:List α→V→List V) (g:List α→H) (w:V)
  (hi:evIt true F ρ it h=.ok (l.map c,t) h') (ht:∀ p,t.ok (g p)=true) (hρ:f [] w=ρ) (hh:g []=h')
  (hb:∀ p a q w,l=p++a::q→exSs true F body ((f p w).set x (c a)) (g p)=.ok .next (f (p++[a]) (c a)) (g (p++[a])))
  (hk:∀ w',(exSs true F ss (f l w') (g l)).out=r):(exSs true F (.for1 x it body::ss) ρ h).out=r:=by
 subst hρ hh;rw[ss_cons',s_for1',zR (by decide),hi,R.st_ok]
 obtain⟨w',e⟩:=zqJ l c f g ht hb w;rw[e,RS.then_next];exact hk w'
theorem zqc {α:Type}{F:Fn}{x:Nat}{it:PIt}{body ss:List PS}{ρ:List V}{h h':H}{l:List α}{c:α→V}{t:Watch}{r:R V}{w₀:V}(b:α→Bool)
  (hi:evIt true F ρ it h=.ok (l.map c,t) h') (ht:t.ok h'=true) (hx:ρ.set x w₀=ρ)
  (hb:∀ a∈l,b a=true→exSs true F body (ρ.set x (c a)) h'=.ok .next (ρ.set x (c a)) h')
  (hk:(∀ a∈l,b a=true)→∀ w,(exSs true F ss (ρ.set x w) h').out=r)
  (hl:∀ p a q,l=p++a::q→(∀ d∈p,b d=true)→b a=false→∀ k,((exSs true F body (ρ.set x (c a)) h').then k).out=r) :
  (exSs true F (.for1 x it body::ss) ρ h).out=r:=by
 rw[ss_cons',s_for1',zR (by decide),hi,R.st_ok]
 have key:∀ (q p:List α) (w:V),l=p++q→(∀ d∈p,b d=true)→((forL t (bind1 x) (fun ρ h=>exSs true F body ρ h) (q.map c) (ρ.set x w) h').then fun ρ h=>exSs true F ss ρ h).out=r:=by
  intro q
  induction q with
  |nil =>
   intro p w e hp;rw[append_nil] at e;subst e;rw[map_nil,znd,zT ht];exact hk hp w
  |cons a q ih =>
   intro p w e hp;rw[yY,zhm,zT ht];show(((exSs true F body ((ρ.set x w).set x (c a)) h').then _).then _).out=r;rw[set_set]
   cases hba:b a with
   |true =>
    rw[hb a (by rw[e];simp) hba,RS.then_next]
    exact ih (p++[a]) (c a) (by rw[e,yJ];rfl) (fun d hd=>by
     rcases zP.1 hd with h|h
     ·exact hp d h
     ·rw[zK] at h;rw[h];exact hba)
   |false =>
    have:=hl p a q e hp hba
    cases hq:exSs true F body (ρ.set x (c a)) h' with
    |bad=>rw[hq] at this;exact this fun z z=>.bad
    |err d ρ' h=>rw[hq] at this;exact this fun z z=>.bad
    |ok fl ρ' h=>rw[hq] at this;cases fl with
     |next=>exact this fun ρ h=>(forL t (bind1 x) (fun ρ h=>exSs true F body ρ h) (List.map c q) ρ h).then fun ρ h=>exSs true F ss ρ h
     |ret v=>exact this fun z z=>.bad
 have:=key l [] w₀ rfl (fun z h=>nomatch h);rw[hx] at this;exact this
section
variable {q:Bool}{F:Fn}{ρ:List V}{h:H}{a b:PE}{x y:Int}
theorem zfT (ea:evE q F ρ a h=.ok (.int x) h) (eb:evE q F ρ b h=.ok (.int y) h):evE q F ρ (.bin .add a b) h=.ok (.int (x+y)) h:=by rw[zkX,ea,R.bind_ok,eb];rfl
theorem ziH (ea:evE q F ρ a h=.ok (.int x) h) (eb:evE q F ρ b h=.ok (.int y) h):evE q F ρ (.bin .sub a b) h=.ok (.int (x - y)) h:=by rw[zkX,ea,R.bind_ok,eb];rfl
theorem zmE (ea:evE q F ρ a h=.ok (.int x) h) (eb:evE q F ρ b h=.ok (.int y) h) (hy:y.natAbs < 9223372036854775808):evE q F ρ (.bin .mul a b) h=.ok (.int (x * y)) h:=by rw[zkX,ea,R.bind_ok,eb,R.bind_ok,zgP h _ _ hy];rfl
theorem zbJ (ea:evE q F ρ a h=.ok (.int x) h) (eb:evE q F ρ b h=.ok (.int y) h) (hy:y≠0):evE q F ρ (.bin .fdiv a b) h=.ok (.int (x.fdiv y)) h:=by rw[zkX,ea,R.bind_ok,eb,R.bind_ok,zfS h _ _ hy];rfl
theorem zbw (ea:evE q F ρ a h=.ok (.int x) h) (eb:evE q F ρ b h=.ok (.int y) h) (hy:y≠0):evE q F ρ (.bin .mod a b) h=.ok (.int (x.fmod y)) h:=by rw[zkX,ea,R.bind_ok,eb,R.bind_ok,zgQ h _ _ hy];rfl
theorem zap {i:Nat}{v:V}(e:ρ[i]?=some v) (hv:v.val):evE q F ρ (.v i) h=.ok v h:=by
 rw[zsd,e]
 cases v<;>first|rfl|exact hv.elim
theorem zfQ (ea:evE q F ρ a h=.ok (.int x) h) (eb:evE q F ρ b h=.ok (.int y) h):evE q F ρ (.cmp .eq a b) h=.ok (.bool (decide (x=y))) h:=by
 rw[zbo,ea,R.bind_ok,eb,R.bind_ok];show R.opt (Option.map V.bool (pyEq h (.int x) (.int y))) h=_;rw[zcf h rfl rfl rfl rfl,zeh];rfl
theorem ziM {f:Bf}(hr:((!true&&f.walks)||!f.ready)=false):evE true F ρ (.bf f a) h=(evE true F ρ a h).bind fun x h=>R.opt (Mine.Internal.bf f h x) h:=by rw[zju,hr];exact zR Bool.false_ne_true
theorem zaE {f:String}{v w r:V}(ea:evE q F ρ a h=.ok v h) (eb:evE q F ρ b h=.ok w h) (hc:pcall h (F q f [v,w] h)=.ok r h):evE q F ρ (.call false f [a,b]) h=.ok r h:=by
 rw[za2,zbn,ea,R.bind_ok,zbn,eb,R.bind_ok,zn6,R.bind_ok,R.bind_ok,R.bind_ok];exact hc
theorem zaH {f:String}{c:PE}{v w x r:V}(ea:evE true F ρ a h=.ok v h) (eb:evE true F ρ b h=.ok w h) (ec:evE true F ρ c h=.ok x h) (hc:pcall h (F true f [v,w,x] h)=.ok r h):evE true F ρ (.call false f [a,b,c]) h=.ok r h:=by
 rw[za2,zbn,ea,R.bind_ok,zbn,eb,R.bind_ok,zbn,ec,R.bind_ok,zn6,R.bind_ok,R.bind_ok,R.bind_ok,R.bind_ok];exact hc
theorem zhA (ea:evE true F ρ a h=.ok v h) (hc:pcall h (F true f [v] h)=.ok r h):evE true F ρ (.call false f [a]) h=.ok r h:=by
 rw[za2,zbn,ea,R.bind_ok,zn6,R.bind_ok,R.bind_ok];exact hc
end
noncomputable def zd0:FnDef:=⟨3,3,[
 .ret (.and [.isinst (.v 0) [.int],.not (.isinst (.v 0) [.bool]),.cmp2 .le .le (.v 1) (.v 0) (.v 2)])]⟩
noncomputable def zd1:FnDef:=⟨2,4,[
 .asg 2 (.int 1),
 .for1 3 (.range1 (.v 1)) [
  .asg 2 (.bin .mul (.v 2) (.v 0))],
 .ret (.v 2)]⟩
noncomputable def zcz:FnDef:=⟨1,1,[
 .ifs (.not (.call false "is_among" [.v 0,.int 1,.glob "MOST_SIGNS" 9])) [
  .raise "BadSize"] []]⟩
noncomputable def zdp:FnDef:=⟨1,1,[
 .ifs (.not (.call false "is_among" [.v 0,.int 1,.glob "MOST_SIZE" 8])) [
  .raise "BadSize"] []]⟩
noncomputable def zdr:FnDef:=⟨2,2,[
 .expr (.call false "need_signs" [.v 0]),
 .expr (.call false "need_size" [.v 1]),
 .ifs (.cmp .gt (.call false "how_many" [.v 0,.v 1]) (.glob "MOST_WORDS" 256)) [
  .raise "BadSize"] []]⟩
noncomputable def zf0:FnDef:=⟨2,3,[
 .ifs (.or [.not (.isinst (.v 1) [.list]),.not (.cmp2 .le .le (.int 1) (.bf .len (.v 1)) (.glob "MOST_SIZE" 8))]) [
  .ret (.bool false)] [],
 .ret (.bf .all (.comp (.call false "is_among" [.v 2,.int 0,.bin .sub (.v 0) (.int 1)]) 2 (.seq (.v 1)) .none))]⟩
noncomputable def zdZ:FnDef:=⟨3,6,[
 .asg 3 (.own (.list [])),
 .asg 4 (.v 2),
 .for1 5 (.range1 (.v 1)) [
  .expr (.append (.v 3) (.bin .mod (.v 4) (.v 0))),
  .asg 4 (.bin .fdiv (.v 4) (.v 0))],
 .ret (.bf .listRev (.v 3))]⟩
noncomputable def zdt:FnDef:=⟨2,3,[
 .expr (.call false "need_both" [.v 0,.v 1]),
 .ret (.comp (.call false "numbered" [.v 0,.v 1,.v 2]) 2 (.range1 (.call false "how_many" [.v 0,.v 1])) .none)]⟩
noncomputable def zdq:FnDef:=⟨2,3,[
 .ifs (.or [.not (.isinst (.v 1) [.list]),.not (.cmp2 .le .le (.int 1) (.bf .len (.v 1)) (.glob "MOST_WORDS" 256))]) [
  .raise "BadRing"] [],
 .for1 2 (.seq (.v 1)) [
  .ifs (.not (.call false "is_among" [.v 2,.int 0,.bin .sub (.v 0) (.int 1)])) [
   .raise "BadRing"] []]]⟩
noncomputable def zfZ:FnDef:=⟨3,4,[
 .ret (.comp (.idx (.v 0) (.bin .mod (.bin .add (.v 2) (.v 3)) (.bf .len (.v 0)))) 3 (.range1 (.v 1)) .none)]⟩
noncomputable def zdY:FnDef:=⟨2,3,[
 .expr (.call false "need_size" [.v 1]),
 .expr (.call false "need_ring" [.glob "MOST_SIGNS" 9,.v 0]),
 .ret (.comp (.call false "read_at" [.v 0,.v 1,.v 2]) 2 (.range1 (.bf .len (.v 0))) .none)]⟩
noncomputable def zds:FnDef:=⟨3,5,[
 .expr (.call false "need_both" [.v 0,.v 1]),
 .ifs (.or [.not (.isinst (.v 2) [.list]),.cmp .eq (.bf .len (.v 2)) (.int 0)]) [
  .raise "BadBook"] [],
 .asg 3 .newDict,
 .for1 4 (.seq (.v 2)) [
  .ifs (.or [.not (.call false "is_word" [.v 0,.v 4]),.cmp .ne (.bf .len (.v 4)) (.v 1),.cmp .isin (.bf .tuple (.v 4)) (.v 3)]) [
   .raise "BadBook"] [],
  .setIdx (.v 3) (.bf .tuple (.v 4)) (.bool true)]]⟩
noncomputable def zcB:FnDef:=⟨4,4,[
 .expr (.call false "need_book" [.v 0,.v 1,.v 2]),
 .expr (.call false "need_ring" [.v 0,.v 3]),
 .ret (.and [.cmp .eq (.bf .len (.v 3)) (.bf .len (.v 2)),.cmp .eq (.bf .sorted (.call false "words_on" [.v 3,.v 1])) (.bf .sorted (.v 2))])]⟩
noncomputable def zb8:FnDef:=⟨3,6,[
 .asg 3 .newDict,
 .for1 4 (.range1 (.bf .len (.v 2))) [
  .expr (.setdef (.v 3) (.bf .tuple (.call false "read_at" [.v 2,.bin .sub (.v 0) (.int 1),.v 4])) (.v 4))],
 .for1 4 (.range1 (.bf .len (.v 1))) [
  .asg 5 (.bf .tuple (.call false "read_at" [.v 1,.bin .sub (.v 0) (.int 1),.v 4])),
  .ifs (.cmp .isin (.v 5) (.v 3)) [
   .ret (.tup [.v 4,.idx (.v 3) (.v 5)])] []],
 .ret .none]⟩
noncomputable def zhJ:FnDef:=⟨3,3,[
 .ret (.own (.bin .add (.bin .add (.bin .add (.slice (.v 0) .none (some (.idx (.v 2) (.int 0)))) (.slice (.v 1) (some (.idx (.v 2) (.int 1))) .none)) (.slice (.v 1) .none (some (.idx (.v 2) (.int 1))))) (.slice (.v 0) (some (.idx (.v 2) (.int 0))) .none)))]⟩
noncomputable def zbK:FnDef:=⟨3,6,[
 .for2 3 4 (.enum (.v 2)) [
  .asg 5 (.call false "meeting" [.v 0,.v 1,.v 4]),
  .ifs (.cmp .isNot (.v 5) .none) [
   .ret (.tup [.v 3,.v 5])] []],
 .ret .none]⟩
noncomputable def zcA:FnDef:=⟨2,7,[
 .expr (.call false "need_size" [.v 0]),
 .ifs (.or [.not (.isinst (.v 1) [.list]),.cmp .eq (.bf .len (.v 1)) (.int 0)]) [
  .raise "BadRing"] [],
 .for1 2 (.seq (.v 1)) [
  .expr (.call false "need_ring" [.glob "MOST_SIGNS" 9,.v 2])],
 .ifs (.cmp .gt (.bf .sum (.comp (.bf .len (.v 6)) 6 (.seq (.v 1)) .none)) (.glob "MOST_WORDS" 256)) [
  .raise "BadRing"] [],
 .asg 3 (.own (.bf .list (.idx (.v 1) (.int 0)))),
 .asg 4 (.own (.bf .list (.slice (.v 1) (some (.int 1)) .none))),
 .while (.cmp .gt (.bf .len (.v 4)) (.int 0)) [
  .asg 5 (.call false "first_joined" [.v 0,.v 3,.v 4]),
  .ifs (.cmp .is (.v 5) .none) [
   .raise "NoJoin"] [],
  .asg 3 (.call true "put_in" [.v 3,.popAt (.v 4) (.idx (.v 5) (.int 0)),.idx (.v 5) (.int 1)])],
 .ret (.v 3)]⟩
noncomputable def zb9:FnDef:=⟨3,6,[
 .asg 3 (.own (.list [])),
 .asg 4 (.v 2),
 .while (.or [.cmp .eq (.bf .len (.v 3)) (.int 0),.cmp .ne (.v 4) (.v 2)]) [
  .for1 5 (.seq (.v 1)) [
   .expr (.append (.v 3) (.v 4)),
   .asg 4 (.bin .mod (.bin .add (.v 4) (.v 5)) (.v 0))]],
 .ret (.v 3)]⟩
noncomputable def zeV:FnDef:=⟨2,6,[
 .expr (.call false "need_signs" [.v 0]),
 .expr (.call false "need_ring" [.v 0,.v 1]),
 .ifs (.cmp .gt (.bin .mul (.bf .len (.v 1)) (.v 0)) (.glob "MOST_WORDS" 256)) [
  .raise "BadRing"] [],
 .asg 2 (.own (.list [])),
 .asg 3 .newDict,
 .for1 4 (.range1 (.v 0)) [
  .ifs (.cmp .notIn (.v 4) (.v 3)) [
   .expr (.append (.v 2) (.call true "lifted_from" [.v 0,.v 1,.v 4])),
   .for1 5 (.range3 (.int 0) (.bf .len (.idx (.v 2) (.neg 1))) (.bf .len (.v 1))) [
    .setIdx (.v 3) (.idx (.idx (.v 2) (.neg 1)) (.v 5)) (.bool true)]] []],
 .ret (.v 2)]⟩
noncomputable def zgU:FnDef:=⟨3,3,[
 .expr (.call false "need_both" [.v 0,.v 1]),
 .expr (.call false "need_both" [.v 0,.bin .add (.v 1) (.int 1)]),
 .expr (.call false "need_ring" [.v 0,.v 2]),
 .ifs (.not (.call false "is_ring_of" [.v 0,.v 1,.call false "all_words" [.v 0,.v 1],.v 2])) [
  .raise "BadRing"] [],
 .ret (.call true "joined_all" [.bin .add (.v 1) (.int 1),.call false "lifted" [.v 0,.v 2]])]⟩
noncomputable def zfY:FnDef:=⟨2,2,[
 .ifs (.cmp .lt (.v 1) (.bf .len (.v 0))) [
  .ret (.idx (.v 0) (.v 1))] [],
 .ret (.int 0)]⟩
noncomputable def zfX:FnDef:=⟨1,2,[
 .asg 1 (.bin .add (.bin .add (.bin .mul (.list [.int 0]) (.bf .int (.isexc 0 (.own "BadSize")))) (.bin .mul (.list [.int 1]) (.bf .int (.isexc 0 (.own "BadWord"))))) (.bin .mul (.list [.int 2]) (.bf .int (.isexc 0 (.own "BadBook"))))),
 .asg 1 (.bin .add (.bin .add (.v 1) (.bin .mul (.list [.int 3]) (.bf .int (.isexc 0 (.own "BadRing"))))) (.bin .mul (.list [.int 4]) (.bf .int (.isexc 0 (.own "NoWord"))))),
 .asg 1 (.bin .add (.bin .add (.v 1) (.bin .mul (.list [.int 5]) (.bf .int (.isexc 0 (.own "NoRing"))))) (.bin .mul (.list [.int 6]) (.bf .int (.isexc 0 (.own "NoJoin"))))),
 .ret (.bf .tuple (.bin .mul (.v 1) (.bf .int (.isexc 0 .valueError))))]⟩
noncomputable def zkV:FnDef:=⟨2,4,[
 .asg 2 (.int 1),
 .for1 3 (.range1 (.v 1)) [
  .asg 2 (.bin .mul (.v 2) (.v 0))],
 .ret (.v 2)]⟩
noncomputable def zhI:FnDef:=⟨4,6,[
 .asg 4 (.int 0),
 .for1 5 (.range1 (.v 3)) [
  .asg 4 (.bin .add (.bin .mul (.v 4) (.v 2)) (.idx (.v 0) (.bin .mod (.bin .add (.v 1) (.v 5)) (.bf .len (.v 0)))))],
 .ret (.v 4)]⟩
noncomputable def znr:FnDef:=⟨2,8,[
 .asg 2 (.own (.bin .mul (.list [.int 0]) (.v 1))),
 .asg 3 (.own (.list [.int 0])),
 .while (.cmp .lt (.bf .len (.v 3)) (.call false "_law_power" [.v 0,.v 1])) [
  .asg 4 (.bin .add (.bin .sub (.bf .len (.v 2)) (.v 1)) (.int 1)),
  .asg 5 (.comp (.call false "_law_number" [.bin .add (.v 2) (.list [.v 7]),.v 4,.v 0,.v 1]) 7 (.range1 (.v 0)) .none),
  .asg 6 (.comp (.v 7) 7 (.range1 (.v 0)) (some (.cmp .notIn (.idx (.v 5) (.v 7)) (.v 3)))),
  .expr (.append (.v 2) (.idx (.v 6) (.neg 1))),
  .expr (.append (.v 3) (.idx (.v 5) (.idx (.v 6) (.neg 1))))],
 .ret (.slice (.v 2) .none (some (.call false "_law_power" [.v 0,.v 1])))]⟩
noncomputable def znq:FnDef:=⟨3,9,[
 .asg 3 (.call false "_law_cell_at" [.v 0,.int 1]),
 .asg 4 (.call false "_law_full" [.v 1,.v 2]),
 .asg 5 (.own (.bf .listRange (.v 1))),
 .for1 6 (.range1 (.v 1)) [
  .asg 7 (.bin .mod (.bin .fdiv (.v 3) (.idx (.list [.int 1,.int 3,.int 9,.int 27,.int 81,.int 243,.int 729,.int 2187,.int 6561]) (.v 6))) (.v 1)),
  .swap (.v 5) (.v 6) (.v 5) (.v 7) (.tup [.idx (.v 5) (.v 7),.idx (.v 5) (.v 6)])],
 .asg 4 (.comp (.idx (.v 5) (.v 8)) 8 (.seq (.v 4)) .none),
 .asg 7 (.bin .mod (.call false "_law_cell_at" [.v 0,.int 2]) (.bf .len (.v 4))),
 .asg 4 (.bin .add (.slice (.v 4) (some (.v 7)) .none) (.slice (.v 4) .none (some (.v 7)))),
 .ifs (.cmp .eq (.bin .mod (.bin .fdiv (.call false "_law_cell_at" [.v 0,.int 2]) (.int 256)) (.int 2)) (.int 1)) [
  .asg 4 (.rev (.v 4))] [],
 .ret (.v 4)]⟩
noncomputable def zkW:FnDef:=⟨3,4,[
 .try [
  .ret (.call true "grown" [.v 0,.v 1,.v 2])] "RingError" 3 [
  .ret (.callX "_law_classes" 3)]]⟩
noncomputable def zrj:FnDef:=⟨4,8,[
 .asg 4 (.bin .mod (.bin .fdiv (.v 3) (.int 12)) (.bf .len (.v 2))),
 .ifs (.cmp .lt (.bin .mod (.v 3) (.int 12)) (.int 3)) [
  .asg 5 (.list [.tup [.int 0,.v 1],.tup [.v 0,.int 0],.tup [.bool true,.v 1],.tup [.v 0,.str "1"],.tup [.int 2,.int 8],.tup [.int 9,.int 2],.tup [.int 10,.int 1],.tup [.int 16,.int 1],.tup [.none,.int 1],.tup [.int 4,.int 4]]),
  .ret (.tup [.idx (.idx (.v 5) (.bin .mod (.bin .fdiv (.v 3) (.int 12)) (.int 10))) (.int 0),.idx (.idx (.v 5) (.bin .mod (.bin .fdiv (.v 3) (.int 12)) (.int 10))) (.int 1),.idx (.list [.v 2,.list [.int 9],.none]) (.bin .mod (.bin .fdiv (.v 3) (.int 120)) (.int 3)),.tup [.int 0]])] [],
 .asg 6 (.bin .add (.bin .add (.slice (.v 2) .none (some (.v 4))) (.list [.idx (.list [.neg 1,.v 0,.bool true,.none]) (.bin .mod (.bin .fdiv (.v 3) (.int 3)) (.int 4))])) (.slice (.v 2) (some (.bin .add (.v 4) (.int 1))) .none)),
 .ifs (.and [.cmp .lt (.bin .mod (.v 3) (.int 12)) (.int 6),.cmp .gt (.v 0) (.int 1)]) [
  .asg 7 (.bin .mod (.bin .add (.bin .add (.idx (.v 2) (.v 4)) (.int 1)) (.bin .mod (.bin .fdiv (.v 3) (.int 200)) (.bin .sub (.v 0) (.int 1)))) (.v 0)),
  .asg 6 (.bin .add (.bin .add (.slice (.v 2) .none (some (.v 4))) (.list [.v 7])) (.slice (.v 2) (some (.bin .add (.v 4) (.int 1))) .none))] [],
 .ifs (.cmp .eq (.bin .mod (.v 3) (.int 12)) (.int 6)) [
  .asg 6 (.idx (.list [.list [],.none,.bf .tuple (.v 2),.bin .add (.v 2) (.v 2),.slice (.v 2) (some (.int 1)) .none]) (.bin .mod (.bin .fdiv (.v 3) (.int 12)) (.int 5)))] [],
 .ret (.tup [.v 0,.v 1,.v 6,.tup [.int 3]])]⟩
noncomputable def zfW:FnDef:=⟨3,6,[
 .ifs (.or [.not (.isinst (.v 0) [.list]),.cmp .ne (.bf .len (.v 0)) (.call false "_law_power" [.v 1,.v 2])]) [
  .ret (.bool false)] [],
 .for1 3 (.seq (.v 0)) [
  .ifs (.or [.isinst (.v 3) [.bool],.not (.isinst (.v 3) [.int]),.not (.cmp2 .le .lt (.int 0) (.v 3) (.v 1))]) [
   .ret (.bool false)] []],
 .asg 4 (.comp (.call false "_law_number" [.v 0,.v 5,.v 1,.v 2]) 5 (.range1 (.bf .len (.v 0))) .none),
 .ret (.cmp .eq (.bf .sorted (.v 4)) (.bf .listRange (.call false "_law_power" [.v 1,.v 2])))]⟩
noncomputable def zmL:FnDef:=⟨1,10,[
 .asg 1 (.list [.tup [.int 2,.int 2],.tup [.int 3,.int 1],.tup [.int 2,.int 3],.tup [.int 2,.int 1],.tup [.int 3,.int 2],.tup [.int 4,.int 1],.tup [.int 2,.int 4],.tup [.int 5,.int 1],.tup [.int 1,.int 1],.tup [.int 9,.int 1],.tup [.int 1,.int 5],.tup [.int 3,.int 3],.tup [.int 8,.int 1]]),
 .asgT [2,3] (.idx (.v 1) (.bin .mod (.call false "_law_cell_at" [.v 0,.int 0]) (.int 13))),
 .asg 4 (.call false "_law_ring" [.v 0,.v 2,.v 3]),
 .asg 5 (.call false "_law_cell_at" [.v 0,.int 3]),
 .ifs (.cmp .eq (.bin .mod (.v 5) (.int 5)) (.int 1)) [
  .asgT [2,3,4,6] (.call false "_law_odd" [.v 2,.v 3,.v 4,.bin .fdiv (.v 5) (.int 5)]),
  .ret (.cmp .eq (.call false "_law_asked" [.v 2,.v 3,.v 4]) (.v 6))] [],
 .asg 7 (.own (.bf .list (.v 4))),
 .asg 8 (.call true "_law_asked" [.v 2,.v 3,.v 7]),
 .ifs (.or [.not (.call false "_law_is_full" [.v 8,.v 2,.bin .add (.v 3) (.int 1)]),.cmp .ne (.v 7) (.v 4)]) [
  .ret (.bool false)] [],
 .ifs (.cmp .ne (.v 8) (.call false "joined_all" [.bin .add (.v 3) (.int 1),.call false "lifted" [.v 2,.bf .list (.v 4)]])) [
  .ret (.bool false)] [],
 .asg 9 (.bf .list (.v 8)),
 .expr (.append (.v 8) (.int 0)),
 .expr (.clear (.v 7)),
 .ret (.and [.cmp .eq (.call false "_law_asked" [.v 2,.v 3,.bf .list (.v 4)]) (.v 9),.cmp .eq (.v 8) (.bin .add (.v 9) (.list [.int 0]))])]⟩
namespace L13
noncomputable def tl:List (String × FnDef × List String):=[
 ("is_among",zd0,["thing","low","high"]),
 ("how_many",zd1,["signs","size","found","turn"]),
 ("need_signs",zcz,["signs"]),
 ("need_size",zdp,["size"]),
 ("need_both",zdr,["signs","size"]),
 ("is_word",zf0,["signs","word"]),
 ("numbered",zdZ,["signs","size","number","found","left","turn"]),
 ("all_words",zdt,["signs","size"]),
 ("need_ring",zdq,["signs","ring","sign"]),
 ("read_at",zfZ,["ring","size","place"]),
 ("words_on",zdY,["ring","size"]),
 ("need_book",zds,["signs","size","book","met","word"]),
 ("is_ring_of",zcB,["signs","size","book","ring"]),
 ("meeting",zb8,["size","one","other","first","place","word"]),
 ("put_in",zhJ,["one","other","places"]),
 ("first_joined",zbK,["size","ring","left","at","other","places"]),
 ("joined_all",zcA,["size","rings","ring","found","left","first"]),
 ("lifted_from",zb9,["signs","ring","start","found","sign","step"]),
 ("lifted",zeV,["signs","ring","found","met","start","place"]),
 ("grown",zgU,["signs","size","ring"]),
 ("_law_cell_at",zfY,["_law_script","_law_k"]),
 ("_law_classes",zfX,["_law_e","_law_found"]),
 ("_law_power",zkV,["_law_signs","_law_size","_law_found","_law_step"]),
 ("_law_number",zhI,["_law_ring_here","_law_place","_law_signs","_law_size","_law_found","_law_step"]),
 ("_law_full",znr,["_law_signs","_law_size","_law_row","_law_met","_law_place","_law_numbers","_law_some"]),
 ("_law_ring",znq,["_law_script","_law_signs","_law_size","_law_cell","_law_row","_law_names","_law_k","_law_at"]),
 ("_law_asked",zkW,["_law_signs","_law_size","_law_ring_here","_law_e"]),
 ("_law_odd",zrj,["_law_signs","_law_size","_law_ring_here","_law_cell","_law_at","_law_far","_law_bad","_law_sign"]),
 ("_law_is_full",zfW,["_law_ring_here","_law_signs","_law_size","_law_sign","_law_numbers"]),
 ("law",zmL,["_law_script","_law_some","_law_signs","_law_size","_law_ring_here","_law_cell","_law_due","_law_handed","_law_told","_law_copy"])]
noncomputable def fns:List String:=["is_among","how_many","need_signs","need_size","need_both","is_word","numbered","all_words","need_ring","read_at","words_on","need_book","is_ring_of","meeting","put_in","first_joined","joined_all","lifted_from","lifted","grown","_law_cell_at","_law_classes","_law_power","_law_number","_law_full","_law_ring","_law_asked","_law_odd","_law_is_full","law"]
end L13
noncomputable def PP:Tab:=tabOf L13.tl
theorem zdF:PP "is_among"=some zd0:=rfl
theorem zhT:PP "how_many"=some zd1:=rfl
theorem zct:PP "need_signs"=some zcz:=rfl
theorem zbL:PP "need_size"=some zdp:=rfl
theorem zcU:PP "need_both"=some zdr:=rfl
theorem zja:PP "is_word"=some zf0:=rfl
theorem zhR:PP "numbered"=some zdZ:=rfl
theorem zf9:PP "all_words"=some zdt:=rfl
theorem zcT:PP "need_ring"=some zdq:=rfl
theorem ze2:PP "read_at"=some zfZ:=rfl
theorem zhQ:PP "words_on"=some zdY:=rfl
theorem zf4:PP "need_book"=some zds:=rfl
theorem ze5:PP "is_ring_of"=some zcB:=rfl
theorem zi7:PP "meeting"=some zb8:=rfl
theorem zk2:PP "put_in"=some zhJ:=rfl
theorem zdu:PP "first_joined"=some zbK:=rfl
theorem ze4:PP "joined_all"=some zcA:=rfl
theorem zd8:PP "lifted_from"=some zb9:=rfl
theorem zk3:PP "lifted"=some zeV:=rfl
theorem zf8:PP "grown"=some zgU:=rfl
theorem zf7:PP "_law_cell_at"=some zfY:=rfl
theorem zf6:PP "_law_classes"=some zfX:=rfl
theorem zi8:PP "_law_power"=some zkV:=rfl
theorem zhS:PP "_law_number"=some zhI:=rfl
theorem zk5:PP "_law_full"=some znr:=rfl
theorem zk4:PP "_law_ring"=some znq:=rfl
theorem ze3:PP "_law_asked"=some zkW:=rfl
theorem zi9:PP "_law_odd"=some zrj:=rfl
theorem zf5:PP "_law_is_full"=some zfW:=rfl
theorem znD:PP "law"=some zmL:=rfl
noncomputable def among (v:V) (lo hi:Int):Bool :=
 match v with
 |.int a=>decide (lo≤a)&&decide (a≤hi)
 |_=>false
theorem zbS (n:Nat) (q:Bool) (v:V) (lo hi:Int) (h:H) (hv:okV h v) :
  run PP (n+1) q "is_among" [v,.int lo,.int hi] h=.ok (.bool (among v lo hi)) h:=by
 refine start zdF rfl (ρ:=[v,.int lo,.int hi]) rfl (zaQ ?_)
 rcases zox v with⟨a,rfl⟩|⟨b,rfl⟩|⟨h1,h2⟩
 ·show(match pyCmp .le h (.int lo) (.int a) with|some true=>R.opt ((pyCmp .le h (.int a) (.int hi)).map V.bool) h|some false=>R.ok (V.bool false) h|Option.none=>R.bad)=_
  rw[cmp_le_int,cmp_le_int];show _=R.ok (V.bool (decide (lo≤a)&&decide (a≤hi))) h
  cases decide (lo≤a)<;>rfl
 ·rfl
 ·have e:among v lo hi=false:=by
   cases v<;>first|rfl|exact absurd rfl (h1 _)
  rw[zn7,zrC,zll,zap rfl hv.val,R.bind_ok,show isTys h v [.int]=some false by unfold isTys;rw[zgE hv h1 h2];rfl,e];rfl
theorem zbT (n:Nat) (s:Int) (hs:s.natAbs < 1000) (z:Nat) (hz:z≤1000) (h:H) :
  run PP (n+1) true "how_many" [.int s,.int z] h=.ok (.int (s ^ z)) h:=by
 refine start zhT rfl (ρ:=[.int s,.int z,.uu,.uu]) rfl (zax (v:=.int 1) (h':=h) rfl rfl ?_);refine zfn (l:=List.range z) (fun p w=>[.int s,.int z,.int (s ^ p.length),w]) (fun u=>h) .uu (zaT (n:=z) rfl (zX hz (by decide))) (fun u=>rfl) (by rw[length_nil,Int.pow_zero];rfl) rfl (fun p a q w u=>?_) fun w=>?_
 ·rw[zQ,length_singleton,Int.pow_succ,ss_cons',s_asg',zmE (x:=s ^ p.length) (y:=s) rfl rfl (Nat.lt_trans hs (by decide)),R.st_ok];rfl
 ·rw[length_range];exact zaQ rfl
theorem zb1 (n:Nat) (v:V) (h:H) (hv:okV h v) :
  run PP (n+2) true "need_signs" [v] h=if among v 1 9 then .ok .none h else .err "BadSize" h:=by
 refine start zct rfl (ρ:=[v]) rfl ?_;have ec:evE true (run PP (n+1)) [v] (.call false "is_among" [.v 0,.int 1,.glob "MOST_SIGNS" 9]) h=.ok (.bool (among v 1 9)) h:=zaH (zap (v:=v) rfl hv.val) rfl rfl (by rw[zbS  n true v _ _ h hv,pcall_bool])
 show(exSs true (run PP (n+1)) [.ifs (.not (.call false "is_among" [.v 0,.int 1,.glob "MOST_SIGNS" 9])) [.raise "BadSize"] []] [v] h).out=_;rw[ss_cons',zlh,zmY,ec]
 cases among v 1 9<;>rfl
theorem zcx (n:Nat) (v:V) (h:H) (hv:okV h v) :
  run PP (n+2) true "need_size" [v] h=if among v 1 8 then .ok .none h else .err "BadSize" h:=by
 refine start zbL rfl (ρ:=[v]) rfl ?_;have ec:evE true (run PP (n+1)) [v] (.call false "is_among" [.v 0,.int 1,.glob "MOST_SIZE" 8]) h=.ok (.bool (among v 1 8)) h:=zaH (zap (v:=v) rfl hv.val) rfl rfl (by rw[zbS  n true v _ _ h hv,pcall_bool])
 show(exSs true (run PP (n+1)) [.ifs (.not (.call false "is_among" [.v 0,.int 1,.glob "MOST_SIZE" 8])) [.raise "BadSize"] []] [v] h).out=_;rw[ss_cons',zlh,zmY,ec]
 cases among v 1 8<;>rfl
noncomputable def fits (vs vz:V):Bool :=
 among vs 1 9&&among vz 1 8&&(match vs,vz with
  |.int s,.int z=>decide (s ^ z.toNat≤256)
  |_,_=>false)
theorem zfV (e:among v lo hi=true):∃ a:Int,v=.int a∧lo≤a∧a≤hi:=by
 cases v with
 |int a=>exact⟨a,rfl,zV (yK.1 e).1,zV (yK.1 e).2⟩
 |_=>exact Bool.noConfusion e
theorem zjB (b:Bool) (c:String) (h:H):pcall h (if b then .ok .none h else .err c h)=if b then .ok .none h else .err c h:=by
 cases b
 ·have:=zfh c h []
  rw[append_nil] at this;exact this
 ·exact zan rfl h
theorem zgI (e:(among v 1 9&&among w 1 8)=false):fits v w=false:=by
 unfold fits;rw[e];rfl
theorem zcy (n:Nat) (v w:V) (h:H) (hv:okV h v) (hw:okV h w) :
  run PP (n+3) true "need_both" [v,w] h=if fits v w then .ok .none h else .err "BadSize" h:=by
 refine start zcU rfl (ρ:=[v,w]) rfl ?_;have a1:evE true (run PP (n+2)) [v,w] (.call false "need_signs" [.v 0]) h=if among v 1 9 then .ok .none h else .err "BadSize" h:=by
  rw[za2,zbn,zap (v:=v) rfl hv.val];show pcall h (run PP (n+2) true "need_signs" [v] h)=_;rw[zb1  n v h hv,zjB]
 have a2:evE true (run PP (n+2)) [v,w] (.call false "need_size" [.v 1]) h=if among w 1 8 then .ok .none h else .err "BadSize" h:=by
  rw[za2,zbn,zap (v:=w) rfl hw.val];show pcall h (run PP (n+2) true "need_size" [w] h)=_;rw[zcx  n w h hw,zjB]
 cases e1:among v 1 9 with
 |false=>rw[e1] at a1;rw[zgI (by rw[e1];rfl)];exact zch a1
 |true =>
  rw[e1] at a1;refine zaD a1 ?_
  cases e2:among w 1 8 with
  |false=>rw[e2] at a2;rw[zgI (by rw[e1,e2];rfl)];exact zch a2
  |true =>
   rw[e2] at a2;refine zaD a2 ?_;obtain⟨s,rfl,hs1,hs2⟩:=zfV e1;obtain⟨z,rfl,hz1,hz2⟩:=zfV e2;obtain⟨z',rfl⟩:=Int.eq_ofNat_of_zero_le (Int.le_trans (by decide) hz1)
   have ef:fits (.int s) (.int z')=decide (s ^ z'≤256):=by
    unfold fits;rw[e1,e2];rfl
   have t:evE true (run PP (n+2)) [.int s,.int z'] (.cmp .gt (.call false "how_many" [.v 0,.v 1]) (.glob "MOST_WORDS" 256)) h=.ok (.bool (decide (256 < s ^ z'))) h:=by
    rw[zbo,zaE (v:=.int s) (w:=.int z') rfl rfl (by rw[zbT  (n+1) s (by omega) z' (by omega),zan rfl]),R.bind_ok]
    show R.opt ((pyCmp .gt h (.int (s ^ z')) (.int 256)).map V.bool) h=_;rw[cmp_gt_int];rfl
   rw[ef]
   by_cases e:s ^ z'≤256
   ·rw[zU (Int.not_lt.2 e)] at t
    rw[zW e];exact zaU t rfl
   ·rw[zW (Int.not_le.1 e)] at t
    rw[zU e];exact zdv t rfl
noncomputable def lenB (h:H) (w:V) (N:Nat):Bool :=
 match litems h w with
 |some vs=>decide (1≤vs.length)&&decide (vs.length≤N)
 |none=>false
theorem zfs {h:H}{w:V}{vs:List V}(hl:litems h w=some vs) (N:Nat):lenB h w N=(decide (1≤vs.length)&&decide (vs.length≤N)):=by unfold lenB;rw[hl]
theorem zft {h:H}{w:V}(hl:litems h w=Option.none) (N:Nat):lenB h w N=false:=by unfold lenB;rw[hl]
theorem zmz {F:Fn}{ρ:List V}{h:H}{g:String}{N:Nat}{w:V}(e1:ρ[1]?=some w) (hw:okV h w):evE true F ρ (.or [.not (.isinst (.v 1) [.list]),.not (.cmp2 .le .le (.int 1) (.bf .len (.v 1)) (.glob g N))]) h=.ok (.bool (!lenB h w N)) h:=by
 have v1:=zap (q:=true) (F:=F) (h:=h) e1 hw.val;rw[zgh,zmX,zmY,zll,v1,R.bind_ok]
 cases hl:litems h w with
 |none=>rw[show isTys h w [.list]=some false by unfold isTys;rw[zif hw hl];rfl,zft hl];rfl
 |some vs =>
  have e:evE true F ρ (.cmp2 .le .le (.int 1) (.bf .len (.v 1)) (.glob g N)) h=.ok (.bool (lenB h w N)) h:=by
   rw[zjx,zpX,R.bind_ok,ziM (f:=.len) rfl,v1,R.bind_ok,zfr hl,R.opt_some,R.bind_ok,cmp_le_int,zfs hl,show decide ((1:Int)≤(vs.length:Int))=decide (1≤vs.length) from decide_eq_decide.2 Int.ofNat_le]
   cases decide (1≤vs.length) with
   |false=>rfl
   |true =>
    show R.opt (Option.map V.bool (pyCmp .le h (.int vs.length) (.int N))) h=_;rw[cmp_le_int,decide_eq_decide.2 Int.ofNat_le];rfl
  rw[show isTys h w [.list]=some true by unfold isTys;rw[zfJ hl]]
  show evE true F ρ (.not _) h=_;rw[zmY,e];rfl
noncomputable def word (s:Nat):Nat→Nat→List Nat
 |0,_=>[]
 |z+1,k=>word s z (k / s)++[k % s]
theorem zpq (s k:Nat):word s 0 k=[]:=rfl
theorem ze0 (s z k:Nat):word s (z+1) k=word s z (k / s)++[k % s]:=rfl
theorem zcS (s z k:Nat):(word s z k).length=z:=by
 induction z generalizing k with
 |zero=>rfl
 |succ z ih=>rw[ze0,zQ,ih];rfl
theorem znw (hs:0 < s) (z k:Nat):∀ d∈word s z k,d < s:=by
 induction z generalizing k with
 |zero=>intro d hd;cases hd
 |succ z ih =>
  intro d hd
  rcases zP.1 hd with h|h
  ·exact ih _ d h
  ·simp at h;subst h;exact Nat.mod_lt _ hs
theorem zhM (s z i k:Nat) (hi:i≤z):word s z k=word s (z - i) (k / s ^ i)++word s i k:=by
 induction i generalizing z k with
 |zero=>rw[Nat.pow_zero,Nat.div_one,zpq,append_nil];rfl
 |succ i ih =>
  cases z with
  |zero=>exact absurd hi (Nat.not_succ_le_zero i)
  |succ z=>rw[ze0,ih z (k / s) (Nat.le_of_succ_le_succ hi),ze0,Nat.pow_succ,Nat.mul_comm,← Nat.div_div_eq_div_mul,yJ,Nat.add_sub_add_right]
noncomputable def V.lists (ls:List (List Nat)):List V:=ls.map fun l=>.l (V.nats l)
noncomputable def words (s z:Nat):List (List Nat):=(List.range (s ^ z)).map (word s z)
theorem lists_plains (ls:List (List Nat)):V.plains (V.lists ls)=true:=by
 induction ls with
 |nil=>rfl
 |cons a l ih=>exact yK.2 ⟨zbO a,ih⟩
theorem ziC (n:Nat) (q:Bool) (l:List Int) (k:Nat) (h:H) :
  run PP (n+1) q "_law_cell_at" [V.ints l,.int k] h=.ok (.int (cellAt l k)) h:=by
 refine start zf7 rfl (ρ:=[V.ints l,.int k]) rfl ?_;have c:evE q (run PP n) [V.ints l,.int k] (.cmp .lt (.v 1) (.bf .len (.v 0))) h=.ok (.bool (decide ((k:Int) < ((l.map V.int).length:Nat)))) h:=by cases q<;>rfl
 rw[zJ] at c
 by_cases hk:k < l.length
 ·refine zdv (c.trans (by rw[zW (Int.ofNat_lt.2 hk)])) (zaQ ?_)
  show R.opt (pyIdx h (.l (l.map V.int)) (.int k)) h=_;rw[zfK (h:=h) (x:=.int (cellAt l k)) rfl (j:=k) (by rw[List.getElem?_map,zM hk,cellAt,List.getD_eq_getElem?_getD,zM hk];rfl)];rfl
 ·refine zaU (c.trans (by rw[zU fun e=>hk (Int.ofNat_lt.1 e)])) (zaQ ?_)
  rw[cellAt,List.getD_eq_getElem?_getD,List.getElem?_eq_none (Nat.le_of_not_lt hk)];rfl
noncomputable def codeOf (c:String):Int :=
 if c="BadSize" then 0 else if c="BadWord" then 1 else if c="BadBook" then 2 else if c="BadRing" then 3 else if c="NoWord" then 4 else if c="NoRing" then 5 else 6
theorem ziA (n:Nat) (q:Bool) (c:String) (hc:c∈["BadSize","BadWord","BadBook","BadRing","NoWord","NoRing","NoJoin"]) (h:H) :
  run PP (n+1) q "_law_classes" [.exc c] h=.ok (.tup [.int (codeOf c)]) h:=by
 refine start zf6 rfl (ρ:=[.exc c,.uu]) rfl ?_;simp only[zN,not_mem_nil,or_false] at hc
 cases q<;>rcases hc with rfl|rfl|rfl|rfl|rfl|rfl|rfl<;>rfl
theorem zln (n:Nat) (s:Int) (hs:s.natAbs < 1000) (z:Nat) (hz:z≤1000) (h:H) :
  run PP (n+1) true "_law_power" [.int s,.int z] h=.ok (.int (s ^ z)) h:=by
 refine start zi8 rfl (ρ:=[.int s,.int z,.uu,.uu]) rfl ?_;refine zax (v:=.int 1) (h':=h) rfl (ρ':=[.int s,.int z,.int 1,.uu]) rfl ?_;refine zfn (fun p w=>[.int s,.int z,.int (s ^ p.length),w]) (fun u=>h) .uu (zaT (n:=z) rfl (zX hz (by decide))) (fun u=>rfl) (by rw[length_nil,Int.pow_zero]) rfl ?_ fun w=>by rw[length_range];exact zaQ rfl
 intro p a q w hp;rw[zQ,length_singleton,Int.pow_succ,ss_cons',s_asg',zmE (x:=s ^ p.length) (y:=s) rfl rfl (Nat.lt_trans hs (by decide))];rfl
theorem IsL.len {h:H}{v:V}{l:List Nat}(e:IsL h v l):Mine.Internal.bf .len h v=some (.int l.length):=by
 rw[zfr e,nats_length]
theorem zdN {h:H}{v:V}{vs:List V}(e:litems h v=some vs) (k:H):litems (h++k) v=some vs:=by
 rcases zad e with rfl|⟨i,rfl,hc⟩
 ·rfl
 ·refine zah ?_
  rw[List.getElem?_append_left (List.getElem?_eq_some_iff.1 hc).1];exact hc
theorem IsL.app (e:IsL h v l) (k:H):IsL (h++k) v l:=zdN e k
theorem zdf {h:H}{v:V}{vs:List V}(e:litems h v=some vs) (hp:V.plains vs=true):frz 0 h v=some (.l vs):=by
 rcases zad e with rfl|⟨i,rfl,hc⟩
 ·exact za7 0 h _ hp
 ·show frzAt 4 0 h i=_
  rw[zeE,zR (Nat.not_lt_zero i),hc];show Option.map _ (V.mapRefs _ vs)=_;rw[zaF _ _ hp];rfl
theorem zh7 (a b:List (List Nat)):peqs (V.lists a) (V.lists b)=decide (a=b):=by
 induction a generalizing b with
 |nil=>cases b<;>rfl
 |cons x a ih=>cases b with
  |nil=>rfl
  |cons y b =>
   show(peq (.l (V.nats x)) (.l (V.nats y))&&peqs (V.lists a) (V.lists b))=_;rw[zeg,zff,ih]
   by_cases e1:x=y<;>by_cases e2:a=b<;>simp[e1,e2]
theorem zhe (l:List (List Nat)) (n:Nat):V.ok (n+3) (.l (V.lists l))=true:=by
 show(V.lists l).all (V.ok (n+2))=true;rw[all_eq_true];intro v hv;simp only[V.lists,yQ] at hv;obtain⟨x,_,rfl⟩:=hv;exact zcG x n
theorem zn8 {h:H}{a b:V}{x y:List (List Nat)}(ha:frz 0 h a=some (.l (V.lists x))) (hb:frz 0 h b=some (.l (V.lists y))):pyEq h a b=some (decide (x=y)):=by
 rw[zhb ha hb (zhe x 5) (zhe y 5),zeg,zh7]
def clean (v:V):Prop:=v.plain=true∧v.val∧∀ vs,v=.l vs→∀ x∈vs,x.val
theorem zfd (hp:v.plain=true) (hv:v.val) (h:H):okV h v:=by
 cases v<;>first|trivial|exact hv.elim|cases hp
theorem zh5 (hp:V.plains vs=true) (hv:v∈vs):v.plain=true:=by
 induction vs with
 |nil=>cases hv
 |cons a l ih =>
  have hp:=yK.1 (show(V.plain a&&V.plains l)=true from hp)
  rcases zN.1 hv with rfl|hm
  ·exact hp.1
  ·exact ih hp.2 hm
theorem clean.okV (hc:clean v) (h:H):okV h v:=zfd hc.1 hc.2.1 h
theorem clean.items {v:V}(hc:clean v) (h:H):∀ vs,litems h v=some vs→∀ x∈vs,Mine.Internal.okV h x:=by
 intro vs hl x hx
 rcases zad hl with rfl|⟨i,rfl,_⟩
 ·exact zfd (zh5 hc.1 hx) (hc.2.2 _ rfl x hx) h
 ·cases hc.1
theorem ziz (l:List Nat):clean (.l (V.nats l)):=⟨zak l,trivial,fun vs e x hx=>by cases e;obtain⟨d,_,rfl⟩:=zbB hx;trivial⟩
theorem zfc (h:∀ v∈vs,v.plain=true):V.plains vs=true:=by
 induction vs with
 |nil=>rfl
 |cons a l ih=>exact yK.2 ⟨h a (zZ ..),ih fun v hv=>h v (zY _ hv)⟩
theorem Watch.app {t:Watch}{h:H}(e:t.ok h=true) (k:H):t.ok (h++k)=true:=by
 cases t with
 |none=>rfl
 |some p =>
  have:h[p.1]?=some p.2:=zV e;show decide ((h++k)[p.1]?=some p.2)=true;rw[List.getElem?_append_left (List.getElem?_eq_some_iff.1 this).1,this];exact zW rfl
theorem zdo {α:Type}{P:α→Prop}:∀ x∈([]:List α),P x:=fun z h=>nomatch h
theorem zab {α:Type}{P:α→Prop}{a:α}{l:List α}(h:P a) (t:∀ x∈l,P x):∀ x∈a::l,P x:=fun x hx=>(zN.1 hx).elim (fun e=>e ▸ h) (t x)
theorem zgG {h:H}{vs:List V}{i:Int}{m:Nat}(hm:0 < m) (hl:vs.length=m):∃ j:Nat,j < m∧i.fmod m=j∧∃ x,vs[j]?=some x∧pyIdx h (.l vs) (.int (i.fmod m))=some x:=by
 obtain⟨j,hj,e⟩:=za8 i m hm;have hx:vs[j]?=some vs[j]:=zM (hl ▸ hj);exact⟨j,hj,e,_,hx,by rw[e];exact zfK rfl hx⟩
noncomputable def cells (ps:List (List Nat)):H:=ps.map fun p=>.list (V.nats p)
noncomputable def refs (b m:Nat):List V:=(List.range m).map fun i=>.ref (b+i)
theorem zfq (f:Nat→Option V) (b:Nat) (ps:List (List Nat)) (hf:∀ i (hi:i < ps.length),f (b+i)=some (.l (V.nats ps[i]))):V.mapRefs f (refs b ps.length)=some (V.lists ps):=by
 have key:∀ (q:List (List Nat)) (b:Nat),(∀ i (hi:i < q.length),f (b+i)=some (.l (V.nats q[i])))→V.mapRefs f (refs b q.length)=some (V.lists q):=by
  intro q
  induction q with
  |nil=>intro _ _;rfl
  |cons p q ih =>
   intro b hb;have e:refs b (p::q).length=.ref b::refs (b+1) q.length:=by
    rw[refs,refs,length_cons,List.range_succ_eq_map,yY,map_map]
    congr 1
    refine map_congr_left fun i z=>?_;show V.ref (b+(i+1))=V.ref (b+1+i);rw[Nat.add_assoc,Nat.add_comm 1]
   rw[e];show((f b).bind fun v'=>(V.mapRefs f (refs (b+1) q.length)).map (v'::·))=_;rw[show f b=some (.l (V.nats p)) from hb 0 (by simp),Option.bind_some,ih (b+1) (fun i hi=>by
    have:=hb (i+1) (by simpa using hi)
    rw[show b+(i+1)=b+1+i by rw[Nat.add_assoc,Nat.add_comm 1]] at this
    simpa using this)]
   rfl
 exact key ps b hf
section
variable {n:Nat}{h:H}{F:Fn}
theorem zqI {α:Type}{body:List V→H→RS}(l:List α) (c:α→V) (Inv:List α→List V→H→Prop) (hw:∀ p ρ g,Inv p ρ g→t.ok g=true)
  (hb:∀ p a q ρ g,l=p++a::q→Inv p ρ g→∃ ρ' g',body (ρ.set x (c a)) g=.ok .next ρ' g'∧Inv (p++[a]) ρ' g') (h0:Inv [] ρ h) :
  ∃ ρ' g',forL t (bind1 x) body (l.map c) ρ h=.ok .next ρ' g'∧Inv l ρ' g':=by
 have key:∀ (q p:List α) (ρ:List V) (g:H),l=p++q→Inv p ρ g→∃ ρ' g',forL t (bind1 x) body (q.map c) ρ g=.ok .next ρ' g'∧Inv l ρ' g':=by
  intro q
  induction q with
  |nil=>intro p ρ g e hi;rw[append_nil] at e;subst e;exact⟨ρ,g,by rw[map_nil,znd,zT (hw _ _ _ hi)],hi⟩
  |cons a q ih =>
   intro p ρ g e hi;obtain⟨ρ1,g1,e1,i1⟩:=hb p a q ρ g e hi;obtain⟨ρ2,g2,e2,i2⟩:=ih (p++[a]) ρ1 g1 (by rw[e,yJ];rfl) i1
   refine⟨ρ2,g2,?_,i2⟩;rw[yY,zhm,zT (hw _ _ _ hi)];show(body (ρ.set x (c a)) g).then _=_;rw[e1,RS.then_next,e2]
 exact key l [] ρ h rfl h0
theorem zg7 {α:Type}{t:Watch}{x:Nat}{it:PIt}{body:List PS}{ρ:List V}{h':H}{l:List α}{c:α→V}(Inv:List α→List V→H→Prop)
  (hi:evIt true F ρ it h=.ok (l.map c,t) h') (hw:∀ p ρ g,Inv p ρ g→t.ok g=true) (h0:Inv [] ρ h')
  (hb:∀ p a q ρ g,l=p++a::q→Inv p ρ g→∃ ρ' g',exSs true F body (ρ.set x (c a)) g=.ok .next ρ' g'∧Inv (p++[a]) ρ' g') :
  ∃ ρ' g',exS true F (.for1 x it body) ρ h=.ok .next ρ' g'∧Inv l ρ' g':=by
 rw[s_for1',zR (by decide),hi,R.st_ok]
 exact zqI (x:=x) (body:=fun ρ h=>exSs true F body ρ h) l c Inv hw hb h0
theorem zg6 (Inv:Nat→List V→H→Prop) (m:Nat) (hm:m < turns) (h0:Inv 0 ρ h)
  (ht:∀ i ρ g,i < m→Inv i ρ g→evE true F ρ t g=.ok (.bool true) g∧∃ ρ' g',exSs true F body ρ g=.ok .next ρ' g'∧Inv (i+1) ρ' g') (he:∀ ρ g,Inv m ρ g→evE true F ρ t g=.ok (.bool false) g) :
  ∃ ρ' g',exS true F (.while t body) ρ h=.ok .next ρ' g'∧Inv m ρ' g':=by
 rw[zn4,zR (by decide)]
 have key:∀ k i,i+k=m→∀ N,k < N→∀ ρ g,Inv i ρ g→∃ ρ' g',whileL (fun ρ h=>evE true F ρ t h) (fun ρ h=>exSs true F body ρ h) N ρ g=.ok .next ρ' g'∧Inv m ρ' g':=by
  intro k
  induction k with
  |zero =>
   intro i hi N hN ρ g hI;rw[Nat.add_zero] at hi;subst hi
   cases N with
   |zero=>exact absurd hN (Nat.not_lt_zero _)
   |succ N =>
    refine⟨ρ,g,?_,hI⟩;show((evE true F ρ t g).st ρ _)=_;rw[he ρ g hI];rfl
  |succ k ih =>
   intro i hi N hN ρ g hI
   cases N with
   |zero=>exact absurd hN (Nat.not_lt_zero _)
   |succ N =>
    obtain⟨e1,ρ1,g1,e2,I1⟩:=ht i ρ g (by omega) hI
    obtain⟨ρ2,g2,e3,I2⟩:=ih (i+1) (by omega) N (Nat.lt_of_succ_lt_succ hN) ρ1 g1 I1
    refine⟨ρ2,g2,?_,I2⟩;show((evE true F ρ t g).st ρ _)=_;rw[e1];show(exSs true F body ρ g).then _=_;rw[e2,RS.then_next,e3]
 exact key m 0 (Nat.zero_add m) turns hm ρ h h0
theorem zhf {s:PS}{ss:List PS}{ρ ρ':List V}{h':H}{r:R V}(e:exS true F s ρ h=.ok .next ρ' h') (k:(exSs true F ss ρ' h').out=r):(exSs true F (s::ss) ρ h).out=r:=by
 rw[ss_cons',e,RS.then_next];exact k
end
namespace L13
section
variable {n:Nat}{h:H}{F:Fn}
noncomputable def rd (l:List Nat) (z p:Nat):List Nat:=(List.range z).map fun t=>l.getD ((p+t) % l.length) 0
theorem zaV (l:List Nat) (z p:Nat):(rd l z p).length=z:=by simp[rd]
theorem zeD {l:List Nat}(hl:0 < l.length) (i:Nat):l[i % l.length]?=some (l.getD (i % l.length) 0):=by
 have:=Nat.mod_lt i hl;simp[zM this]
noncomputable def ringy (sg:Int) (vs:List V):Bool:=decide (1≤vs.length)&&decide (vs.length≤256)&&vs.all fun v=>among v 0 (sg - 1)
noncomputable def ringB (sg:Int) (h:H) (w:V):Bool :=
 match litems h w with
 |some vs=>ringy sg vs
 |none=>false
noncomputable def rws (l:List Nat) (z:Nat):List (List Nat):=(List.range l.length).map (rd l z)
theorem zaM (l:List Nat) (z:Nat):(rws l z).length=l.length:=by simp[rws]
theorem zbs {F:Fn}{ρ:List V}{i:Nat}{w:V}{vs:List V}(e:ρ[i]?=some w) (hl:litems h w=some vs):evE true F ρ (.bf .len (.v i)) h=.ok (.int vs.length) h:=by
 rw[ziM (f:=.len) rfl,zap e (zfk hl).val,R.bind_ok,zfr hl];rfl
theorem zo5 (e:ρ[i]?=some v) (hv:v.val):evE true F ρ (.call false f [.v i]) h=pcall h (F true f [v] h):=by
 rw[za2,zbn,zap e hv];rfl
theorem zeG (e:ρ[i]?=some v) (hv:v.val) (e':ρ[j]?=some w) (hw:w.val):evE true F ρ (.call false f [.v i,.v j]) h=pcall h (F true f [v,w] h):=by
 rw[za2,zbn,zap e hv,R.bind_ok,zbn,zap e' hw];rfl
theorem zkx (e:ρ[i]?=some v) (hv:v.val):evE true F ρ (.call false f [.glob g k,.v i]) h=pcall h (F true f [.int k,v] h):=by
 rw[za2,zbn,zrl,R.bind_ok,zbn,zap e hv];rfl
def okI (h:H) (w:V):Prop:=okV h w∧∀ vs,litems h w=some vs→∀ v∈vs,okV h v
theorem IsL.okI {w:V}{l:List Nat}(e:IsL h w l):okI h w:=⟨e.okV,e.items⟩
theorem zkP {k lo hi:Nat}(e:among (.int k) lo hi=true):lo≤k∧k≤hi:=by
 simp only[among,Bool.and_eq_true,decide_eq_true_eq] at e;omega
theorem zem (hm:m≤999999):m < turns:=by
 exact Nat.lt_of_le_of_lt hm (show 999999 < 1000000 by decide)
theorem zaa (e1:evE true F ρ e h=.ok v h) (e2:evEs true F ρ es h=.ok vs h):evEs true F ρ (e::es) h=.ok (v::vs) h:=by rw[zbn,e1,R.bind_ok,e2];rfl
theorem zc0 (l:List Nat) (p:Nat) (hp:p < l.length):rd l l.length p=l.drop p++l.take p:=by
 refine ext_getElem? fun i=>?_
 by_cases hi:i < l.length
 ·have e1:(rd l l.length p)[i]?=some (l.getD ((p+i) % l.length) 0):=by
   unfold rd;rw[List.getElem?_map,List.getElem?_range hi];rfl
  rw[e1,← zeD (Nat.zero_lt_of_lt hp)]
  by_cases h1:p+i < l.length
  ·rw[Nat.mod_eq_of_lt h1,List.getElem?_append_left (by rw[length_drop];exact Nat.lt_sub_iff_add_lt'.2 h1),List.getElem?_drop]
  ·have h2:=Nat.le_of_not_lt h1
   rw[List.getElem?_append_right (by rw[length_drop];exact Nat.sub_le_iff_le_add'.2 h2),length_drop,Nat.sub_sub_right i (Nat.le_of_lt hp),Nat.add_comm i p,Nat.mod_eq_sub_mod h2,Nat.mod_eq_of_lt (Nat.sub_lt_left_of_lt_add h2 (Nat.add_lt_add hp hi)),List.getElem?_take_of_lt (Nat.sub_lt_left_of_lt_add h2 (by rw[Nat.add_comm p i];exact Nat.add_lt_add_right hi p))]
 ·have h2:=Nat.le_of_not_lt hi
  rw[List.getElem?_eq_none (by rw[zaV];exact h2),List.getElem?_eq_none (by rw[zQ,length_drop,length_take,Nat.min_eq_left (Nat.le_of_lt hp),Nat.sub_add_cancel (Nat.le_of_lt hp)];exact h2)]
theorem zr4 {l:List Nat}{k:Nat}(hk:k < l.length):l[k]?=some (l.getD k 0):=by
 rw[List.getD_eq_getElem?_getD,zM hk];rfl
theorem zpg (a b:Nat):((a:Int) == (b:Int))=decide (a=b):=by
 by_cases e:a=b
 ·rw[e,beq_self_eq_true,zW rfl]
 ·rw[zU e];exact beq_false_of_ne fun h=>e (Int.natCast_inj.1 h)
theorem znp (s:List Int) (k:Nat):pcall h (run PP (n+1) true "_law_cell_at" [V.ints s,.int k] h)=.ok (.int (cellAt s k)) h:=by
 rw[ziC  n true s k h,zan rfl]
noncomputable def zi (l:List Nat):List Int:=l.map fun d:Nat=>(d:Int)
theorem zmM (e:zi a=zi b):a=b:=by
 unfold zi at e;exact List.map_inj_right (fun x y h=>Int.natCast_inj.1 h) |>.1 e
theorem zbW (l:List Nat):asInts (V.nats l)=some (zi l):=by
 induction l with
 |nil=>rfl
 |cons d l ih =>
  show(asInts (V.nats l)).map ((d:Int)::·)=_;rw[ih];rfl
theorem zfE {α β:Type}{f:V→Option α}(c:β→V) (k:β→α):∀ (l:List β),(∀ b∈l,f (c b)=some (k b))→keyed f (l.map c)=some (l.map fun b=>(k b,c b)):=by
 intro l__
 induction l__ with
 |nil=>exact fun z=>rfl
 |cons b l ih =>
  intro e;rw[yY,zoy,e b (zZ ..),ih fun x hx=>e x (zY _ hx)];rfl
theorem zqK {α:Type}{body:List V→H→RS}(l:List α) (c:α→V) (Inv:List α→List V→H→Prop)
  (hb:∀ p a q ρ g,l=p++a::q→Inv p ρ g→∃ ρ' g',body (ρ.set x (c a)) g=.ok .next ρ' g'∧Inv (p++[a]) ρ' g') (h0:Inv [] ρ h) :
  ∃ ρ' g',forL Option.none (bind1 x) body (l.map c) ρ h=.ok .next ρ' g'∧Inv l ρ' g':=by
 have key:∀ (q p:List α) (ρ:List V) (g:H),l=p++q→Inv p ρ g→∃ ρ' g',forL Option.none (bind1 x) body (q.map c) ρ g=.ok .next ρ' g'∧Inv l ρ' g':=by
  intro q
  induction q with
  |nil=>intro p ρ g e hi;rw[append_nil] at e;subst e;exact⟨ρ,g,rfl,hi⟩
  |cons a q ih =>
   intro p ρ g e hi;obtain⟨ρ1,g1,e1,i1⟩:=hb p a q ρ g e hi;obtain⟨ρ2,g2,e2,i2⟩:=ih (p++[a]) ρ1 g1 (by rw[e,yJ];rfl) i1
   refine⟨ρ2,g2,?_,i2⟩;rw[yY,zhm,zT (Watch.ok_none g)];show(body (ρ.set x (c a)) g).then _=_;rw[e1,RS.then_next,e2]
 exact key l [] ρ h rfl h0
theorem zpG {α:Type}{x:Nat}{it:PIt}{body:List PS}{ρ:List V}{h':H}{l:List α}{c:α→V}(Inv:List α→List V→H→Prop)
  (hi:evIt true F ρ it h=.ok (l.map c,Option.none) h') (h0:Inv [] ρ h')
  (hb:∀ p a q ρ g,l=p++a::q→Inv p ρ g→∃ ρ' g',exSs true F body (ρ.set x (c a)) g=.ok .next ρ' g'∧Inv (p++[a]) ρ' g') :
  ∃ ρ' g',exSs true F [.for1 x it body] ρ h=.ok .next ρ' g'∧Inv l ρ' g':=by
 rw[ss_cons',s_for1',zR (by decide),hi,R.st_ok]
 obtain⟨ρ',g',e,i⟩:=zqK (x:=x) (body:=fun ρ h=>exSs true F body ρ h) l c Inv hb h0;exact⟨ρ',g',by rw[e];rfl,i⟩
theorem pick {F:Fn}{ρ:List V}{es:List PE}{i:PE}{vs:List V}{c:Int}{m:Nat}(Pr:V→Prop) (hm:0 < m) (hl:vs.length=m) (he:evEs true F ρ es h=.ok vs h) (hi:evE true F ρ i h=.ok (.int (c.fmod m)) h) (hp:∀ x∈vs,Pr x) (hn:vs.length≤1000000) :
  ∃ v,evE true F ρ (.idx (.list es) i) h=.ok v h∧Pr v:=by
 obtain⟨j,hj,ej,x,hx,ex⟩:=zgG (h:=h) (i:=c) (m:=m) hm hl;refine⟨x,?_,hp x (mem_of_getElem? hx)⟩;rw[zce,zjw,he,R.bind_ok,zaY hn,R.opt_some,R.bind_ok,hi,R.bind_ok,ex];rfl
theorem zdU (hp:v.plain=true) (hv:v.val) (hn:∀ us,v≠.l us):clean v:=⟨hp,hv,fun us e=>absurd e (hn us)⟩
theorem znY {h:H}{w:V}{l:List Nat}(hl:IsL h w l) (h0:0 < l.length) (hn:l.length≤256){sg:Nat}(h9:∀ d∈l,d < sg):ringB sg h w=true:=by
 unfold ringB;rw[show litems h w=some (V.nats l) from hl];show ringy sg (V.nats l)=true;unfold ringy;rw[nats_length,zW (show 1≤l.length from h0),zW hn,Bool.true_and,Bool.true_and];refine List.all_eq_true.2 fun v hv=>?_;obtain⟨d,hd,rfl⟩:=zbB hv;have:=h9 d hd;simp only[among,Bool.and_eq_true,decide_eq_true_eq];omega
theorem zhH (h1:lo≤a) (h2:a≤hi):among (.int a) lo hi=true:=by
 simp only[among,h1,h2,decide_true,Bool.and_self]
theorem zpk {k:Nat}(h1:1≤k) (h8:k≤9):among (.int k) 1 9=true:=zhH (Int.ofNat_le.2 h1) (Int.ofNat_le.2 h8)
theorem zpn {F:Fn}{ρ:List V}{a b:PE}{h:H}{v w:V}{t:Bool}(ea:evE true F ρ a h=.ok v h) (eb:evE true F ρ b h=.ok w h) (e:pyEq h v w=some t):evE true F ρ (.cmp .ne a b) h=.ok (.bool (!t)) h:=by
 rw[zbo,ea,R.bind_ok,eb,R.bind_ok];show R.opt (Option.map V.bool (Option.map (!·) (pyEq h v w))) h=_;rw[e];rfl
theorem zqY (ea:evE true F ρ a h=.ok v h) (eb:evE true F ρ b h=.ok w h) (e:pyEq h v w=some t):evE true F ρ (.cmp .eq a b) h=.ok (.bool t) h:=by
 rw[zbo,ea,R.bind_ok,eb,R.bind_ok];show R.opt (Option.map V.bool (pyEq h v w)) h=_;rw[e];rfl
theorem zqX {F:Fn}{ρ:List V}{a:PE}{h:H}{v x:V}{vs:List V}{j:Nat}(ea:evE true F ρ a h=.ok v h) (hl:litems h v=some vs) (hj:vs[j]?=some x):evE true F ρ (.idx a (.int j)) h=.ok x h:=by
 rw[zce,ea,R.bind_ok,zpX,R.bind_ok,zfK hl hj];rfl
theorem nats0 (m:List Nat):V.nats m++[.int 0]=V.nats (m++[0]):=by rw[zas];rfl
theorem zc3 (ee:evE true F ρ e h=.ok (.l vs) h):evE true F ρ (.own e) h=.ok (.ref h.length) (h++[.list vs]):=by
 rw[zlk,ee];rfl
end
noncomputable def turn (w:List Nat) (p:Nat):List Nat:=w.drop p++w.take p
section
variable {q:Bool}{F:Fn}{ρ:List V}{h h':H}{e t:PE}{v:V}{x:Nat}{ss a b:List PS}
theorem zdG (he:evE q F ρ e h=.ok v h'):exSs q F (.asg x e::ss) ρ h=exSs q F ss (ρ.set x v) h':=by rw[ss_cons',s_asg',he];rfl
theorem zd9 (he:evE q F ρ e h=.ok v h'):exSs q F (.expr e::ss) ρ h=exSs q F ss ρ h':=by rw[ss_cons',s_expr',he];rfl
theorem zje (ht:evE q F ρ t h=.ok (.bool false) h'):exSs q F (.ifs t a b::ss) ρ h=exSs q F (b++ss) ρ h':=by rw[ss_cons',s_ifs,ht,zb6];rfl
end
theorem zfU (h:H) (c:Cell):(h++[c])[h.length]?=some c:=by rw[List.getElem?_append_right (Nat.le_refl _),Nat.sub_self];rfl
theorem zgd (h:H) (c d:Cell):(h++[c]).set h.length d=h++[d]:=by rw[set_append_right _ _ (Nat.le_refl _),Nat.sub_self];rfl
theorem zc8 (L:List (List Nat)):(V.lists L).length=L.length:=zJ ..
theorem lists_plains (L:List (List Nat)):V.plains (V.lists L)=true:=zfc fun v hv=>by
 obtain⟨l,_,rfl⟩:=yQ.1 hv;exact zak l
theorem range_at {n:Nat}{p q:List Nat}{a:Nat}(h:List.range n=p++a::q):a=p.length∧p.length < n:=by
 have e:=congrArg (·[p.length]?) h;simp only[List.getElem?_append_right (Nat.le_refl _),Nat.sub_self,List.getElem?_cons_zero] at e;obtain⟨h1,h2⟩:=List.getElem?_eq_some_iff.1 e;rw[length_range] at h1;rw[List.getElem_range] at h2;exact⟨h2.symm,h1⟩
noncomputable def pre (w:List Nat):List Nat:=w.take (w.length - 1)
theorem within {α:Type} [DecidableEq α]:∀ {a b:List α},a.Nodup→(∀ x∈a,x∈b)→a.length≤b.length:=by
 intro l__
 induction l__ with
 |nil=>intro _ _ _;exact Nat.zero_le _
 |cons x a ih =>
  intro b hn hs;rw[nodup_cons] at hn;have hx:=hs x (zZ ..);have:=ih (b:=b.erase x) hn.2 fun y hy=>(List.mem_erase_of_ne (a:=y) (b:=x) fun e=>hn.1 (e ▸ hy)).2 (hs y (zY _ hy));rw[List.length_erase_of_mem hx] at this;exact Nat.add_le_of_le_sub (List.length_pos_of_mem hx) this
section
variable {n:Nat}{h g:H}
theorem zmK (ea:evE true F ρ a g=.ok (.bool x) g) (eb:x=true→evE true F ρ b g=.ok (.bool y) g):evE true F ρ (.and [a,b]) g=.ok (.bool (x&&y)) g:=by
 rw[e_and,e_and2,ea,R.bind_ok]
 cases x with
 |false=>rfl
 |true=>exact eb rfl
theorem zlC {F:Fn}{ρ:List V}{a b:PE}{x y:Nat}(ea:evE true F ρ a g=.ok (.int x) g) (eb:evE true F ρ b g=.ok (.int y) g) (hy:0 < y):evE true F ρ (.bin .mod a b) g=.ok (.int ((x % y:Nat):Int)) g :=
 (zbw ea eb (Int.natCast_ne_zero.2 (Nat.ne_of_gt hy))).trans (by rw[Int.fmod_eq_emod_of_nonneg _ (Int.natCast_nonneg y)];rfl)
theorem zrP {F:Fn}{ρ:List V}{a b:PE}{x y:Nat}(ea:evE true F ρ a g=.ok (.int x) g) (eb:evE true F ρ b g=.ok (.int y) g) (hy:0 < y):evE true F ρ (.bin .fdiv a b) g=.ok (.int ((x / y:Nat):Int)) g :=
 (zbJ ea eb (Int.natCast_ne_zero.2 (Nat.ne_of_gt hy))).trans (by rw[zhq])
end
section
variable {n:Nat}{h g:H}{F:Fn}{ρ:List V}
theorem zji {a e:PE}{v:V}{l:List Nat}{p:Nat}(ea:evE true F ρ a h=.ok v h) (hl:IsL h v l) (ee:evE true F ρ e h=.ok (.int p) h):evE true F ρ (.slice a .none (some e)) h=.ok (.l (V.nats (l.take p))) h:=by
 rw[zlm,ea,R.bind_ok,zpV,R.bind_ok,zpU,ee,R.bind_ok,R.bind_ok,zk8 hl p,zjM];rfl
theorem zcX {a e:PE}{v:V}{l:List Nat}{p:Nat}(ea:evE true F ρ a h=.ok v h) (hl:IsL h v l) (ee:evE true F ρ e h=.ok (.int p) h):evE true F ρ (.slice a (some e) .none) h=.ok (.l (V.nats (l.drop p))) h:=by
 rw[zlm,ea,R.bind_ok,zpU,ee,R.bind_ok,R.bind_ok,zpV,R.bind_ok,zhZ hl p,zjN];rfl
theorem zaO (ea:evE true F ρ a h=.ok v h) (hl:litems h v=some vs):evE true F ρ (.bf .len a) h=.ok (.int vs.length) h:=by
 rw[ziM (f:=.len) rfl,ea,R.bind_ok,zfr hl];rfl
theorem zb4 {a i:PE}{v x:V}{vs:List V}{j:Nat}(ea:evE true F ρ a h=.ok v h) (ei:evE true F ρ i h=.ok (.int j) h) (hl:litems h v=some vs) (hj:vs[j]?=some x):evE true F ρ (.idx a i) h=.ok x h:=by
 rw[zce,ea,R.bind_ok,ei,R.bind_ok,zfK hl hj];rfl
theorem zkQ (ea:evE true F ρ a h=.ok v h) (eb:evE true F ρ b h=.ok w h) (hv:litems h v=some vs) (hw:litems h w=some ws) (hl:vs.length+ws.length≤1000000):evE true F ρ (.bin .add a b) h=.ok (.l (vs++ws)) h:=by
 rw[zkX,ea,R.bind_ok,eb,R.bind_ok,zrg hv hw hl];rfl
end
section
variable {n:Nat}{h g:H}{F:Fn}{ρ:List V}
end
theorem zfG {α β:Type}{lt:α→α→Bool}{lt':β→β→Bool}(f:α→β) (e:∀ a b,lt' (f a) (f b)=lt a b):∀ l:List α,isort lt' (l.map f)=(isort lt l).map f:=by
 intro l__
 induction l__ with
 |nil=>exact rfl
 |cons x xs ih =>
  have ins:∀ l:List α,isort.insertBy' lt' (f x) (l.map f)=(isort.insertBy' lt x l).map f:=by
   intro l
   induction l with
   |nil=>rfl
   |cons y l ih =>
    rw[yY,zcK,zcK,e y x]
    cases lt y x with
    |true=>rw[zT rfl,zT rfl,ih,yY]
    |false=>rfl
  rw[yY,zoH,ih,ins];rfl
noncomputable def wlt (a b:List Nat):Bool:=lexLt (zi a) (zi b)
theorem zof:Ord wlt:=⟨fun a=>zjU _,fun a b c=>zm8 _ _ _,fun a b h1 h2=>zmM (zjT _ _ h1 h2)⟩
noncomputable def srt (l:List (List Nat)):List (List Nat):=isort wlt l
theorem zea (l:List (List Nat)):(srt l).Perm l:=za5 l
theorem zmT (l:List (List Nat)):(srt l).Pairwise fun a b=>wlt b a=false:=zez (lt:=wlt) (le:=fun a b=>wlt b a=false) (fun a b e=>zof.asymm e) (fun a b e=>e) (fun a b c e1 e2=>zof.le_tr e1 e2) l
theorem ze6 {α:Type}{le:α→α→Prop}{a b:List α}(p:a.Perm b) (ha:a.Pairwise le) (hb:b.Pairwise le) (anti:∀ x y,le x y→le y x→x=y):a=b:=by
 induction a generalizing b with
 |nil=>exact(List.nil_perm.1 p).symm
 |cons x a ih=>cases b with
  |nil=>cases p.length_eq
  |cons y b =>
   have hx:x∈y::b:=p.mem_iff.1 (zZ ..);have hy:y∈x::a:=p.mem_iff.2 (zZ ..);have e:x=y:=by
    rcases zN.1 hx with e|hx'
    ·exact e
    ·rcases zN.1 hy with e|hy'
     ·exact e.symm
     ·exact anti x y ((List.pairwise_cons.1 ha).1 y hy') ((List.pairwise_cons.1 hb).1 x hx')
   subst e;rw[ih (List.perm_cons x |>.1 p) (List.pairwise_cons.1 ha).2 (List.pairwise_cons.1 hb).2]
theorem zpy (p:a.Perm b):srt a=srt b :=
 ze6 ((zea a).trans (p.trans (zea b).symm)) (zmT a) (zmT b) fun x y h1 h2=>zof.tot x y h2 h1
theorem zjf:x∈srt l↔x∈l:=(zea l).mem_iff
theorem znN {c:List Nat→V}(h64:ts.length≤1000):sortBy lexLt (ts.map fun t=>(zi t,c t))=some ((srt ts).map c):=by
 have e:isort (fun a b:List Int × V=>lexLt a.1 b.1) (ts.map fun t=>(zi t,c t))=(srt ts).map fun t=>(zi t,c t):=zfG (lt:=wlt) (fun t=>(zi t,c t)) (fun a b=>rfl) ts;unfold sortBy;rw[zT,e,map_map];rfl
 rw[Bool.and_eq_true];refine⟨zW (by rw[zJ];exact h64),?_⟩
 rw[all_eq_true];intro p hp;rw[all_eq_true];intro q hq;obtain⟨a,_,rfl⟩:=yQ.1 hp;obtain⟨b,_,rfl⟩:=yQ.1 hq;exact zW fun e=>by rw[zmM e]
theorem zcu (h:H) (ts:List (List Nat)) (h64:ts.length≤1000):sortVs h (V.lists ts)=some (V.lists (srt ts)):=by
 cases ts with
 |nil=>rfl
 |cons t ts =>
  have e1:keyed keyI (V.lists (t::ts))=none:=rfl;have e2:keyed (keyL h) (V.lists (t::ts))=some ((t::ts).map fun t=>(zi t,.l (V.nats t))):=zfE (f:=keyL h) (fun t:List Nat=>V.l (V.nats t)) zi _ fun t z=>zbW t;unfold sortVs;rw[e1,e2];exact znN h64
noncomputable def V.tw (l:List Nat):V:=.tup (V.nats l)
noncomputable def tups (ls:List (List Nat)):List V:=ls.map V.tw
theorem zcV (ea:evE true F ρ a h=.ok v h) (hl:litems h v=some vs) (hs:sortVs h vs=some S):evE true F ρ (.bf .sorted a) h=.ok (.l S) h:=by
 rw[ziM (f:=.sorted) rfl,ea,R.bind_ok];show R.opt ((litems h v).bind fun vs=>(sortVs h vs).map V.l) h=_;rw[hl,Option.bind_some,hs];rfl
theorem zhi (e:V.nats a=V.nats b):a=b:=by
 induction a generalizing b with
 |nil=>cases b with
  |nil=>rfl
  |cons _ _=>cases e
 |cons x a ih=>cases b with
  |nil=>cases e
  |cons y b =>
   rw[zbq,zbq] at e;obtain⟨e1,e2⟩:=List.cons.inj e;rw[ih e2,Int.natCast_inj.1 (V.int.inj e1)]
theorem zmO (e:V.tw a=V.tw b):a=b:=zhi (V.tup.inj e)
theorem zd5 (t:List Nat):(tupT (V.tw t)).isSome=true:=by
 show(asInts (V.nats t)).isSome=true;rw[zbW];rfl
theorem zmw (k v:V):∀ es:List (V × V),(dput k v es).length≤es.length+1:=by
 intro l__
 induction l__ with
 |nil=>exact Nat.le_refl _
 |cons p__ es ih =>
  obtain⟨k',v'⟩:=p__;rw[zfN]
  by_cases e:k=k'
  ·rw[zT e];exact Nat.le_succ _
  ·rw[zR e,length_cons,length_cons];exact Nat.succ_le_succ (ih)
noncomputable def dk (f:List Nat→V) (K:List (List Nat)):List (V × V):=K.map fun j=>(V.tw j,f j)
theorem zo6 (f:List Nat→V) (t:List Nat):∀ K:List (List Nat),dfind (V.tw t) (dk f K)=if t∈K then some (f t) else Option.none:=by
 intro l__
 induction l__ with
 |nil=>exact rfl
 |cons j K ih =>
  show(if V.tw t=V.tw j then some (f j) else dfind (V.tw t) (dk f K))=_
  by_cases e:t=j
  ·subst e;rw[zT rfl,zT (zZ ..)]
  ·rw[zR fun q=>e (zmO q),ih]
   by_cases h:t∈K
   ·rw[zT h,zT (zY _ h)]
   ·rw[zR h,zR fun q=>(zN.1 q).elim e h]
theorem zng (f:List Nat→V) (t:List Nat) (K:List (List Nat)):keyFit (V.tw t) (dk f K)=true:=by
 show((tupT (V.tw t)).isSome&&(dk f K).all fun e=>(tupT e.1).isSome)=true;rw[zd5,Bool.true_and];refine List.all_eq_true.2 fun e he=>?_;obtain⟨j,_,rfl⟩:=yQ.1 he;exact zd5 j
theorem zq0 (f:List Nat→V) (K:List (List Nat)) (t:List Nat):dk f (K++[t])=dk f K++[(V.tw t,f t)]:=map_append ..
theorem dput_new {f:List Nat→V}:∀ {K:List (List Nat)},t ∉ K→dput (V.tw t) v (dk f K)=dk f K++[(V.tw t,v)]:=by
 intro l__
 induction l__ with
 |nil=>exact fun z=>rfl
 |cons j K ih =>
  intro h;show(if V.tw t=V.tw j then _ else(V.tw j,f j)::dput (V.tw t) v (dk f K))=_;rw[zR fun q=>h (by rw[zmO q];exact zZ ..),ih fun q=>h (zY _ q)];rfl
theorem zqZ (f:List Nat→V) (K:List (List Nat)):(dk f K).length=K.length:=zJ ..
section
variable {n:Nat}{h g:H}{F:Fn}{ρ:List V}
theorem znH (ee:evE true F ρ e h=.ok v h) (eo:evE true F ρ o h=.ok (.ref r) h) (ei:evE true F ρ i h=.ok (V.tw t) h) (hr:h[r]?=some (.dict es)) (hk:keyFit (V.tw t) es=true) (hl:es.length≤1000) :
  exSs true F (.setIdx o i e::ss) ρ h=exSs true F ss ρ (h.set r (.dict (dput (V.tw t) v es))):=by
 have e:seti h (.ref r) (V.tw t) v=some (h.set r (.dict (dput (V.tw t) v es))):=by
  unfold seti;dsimp only;rw[hr];dsimp only;rw[hk,zW hl];rfl
 rw[ss_cons',zrt,ee,R.st_ok,eo,R.st_ok,ei,R.st_ok,e];rfl
theorem zoI (hr:h[r]?=some (.dict es)) (hk:keyFit (V.tw t) es=true):pyIn h (V.tw t) (.ref r)=some (dfind (V.tw t) es).isSome:=by
 show(match h[r]? with|some (.dict es)=>if keyFit (V.tw t) es then some (dfind (V.tw t) es).isSome else Option.none|_=>isIn h (V.tw t) (.ref r))=_
 rw[hr];show(if keyFit (V.tw t) es then some (dfind (V.tw t) es).isSome else Option.none)=_;rw[hk];rfl
theorem zr3 {f:List Nat→V}(ea:evE true F ρ a h=.ok (V.tw t) h) (eb:evE true F ρ b h=.ok (.ref r) h) (hr:h[r]?=some (.dict (dk f K))):evE true F ρ (.cmp .isin a b) h=.ok (.bool (decide (t∈K))) h:=by
 rw[zbo,ea,R.bind_ok,eb,R.bind_ok];show R.opt ((pyIn h (V.tw t) (.ref r)).map V.bool) h=_;rw[zoI hr (zng ..),zo6]
 by_cases e:t∈K
 ·rw[zT e,zW e];rfl
 ·rw[zR e,zU e];rfl
theorem zmP {a:PE}{v:V}{l:List Nat}(ea:evE true F ρ a h=.ok v h) (hl:IsL h v l):evE true F ρ (.bf .tuple a) h=.ok (V.tw l) h:=by
 rw[ziM (f:=.tuple) rfl,ea,R.bind_ok]
 rcases zad hl with rfl|⟨i,rfl,hc⟩
 ·rfl
 ·show R.opt (Option.map _ (match h[i]? with|some (.list vs)=>some vs|_=>Option.none)) h=_
  rw[hc];rfl
structure HB (h:H) (bv:V) (L:List (V × List Nat)):Prop where
 it:litems h bv=some (L.map (·.1))
 wd:∀ p∈L,IsL h p.1 p.2
theorem HB.app (b:HB h bv L) (k:H):HB (h++k) bv L:=⟨zdN b.it k,fun p hp=>(b.wd p hp).app k⟩
structure GW (S Z:Nat) (B:List (List Nat)):Prop where
 nodup:B.Nodup
 ne:B≠[]
 len:∀ w∈B,w.length=Z
 lt:∀ w∈B,∀ d∈w,d < S
 few:B.length≤1000
theorem zsh (ea:evE true F ρ a h=.ok (.bool x) h) (eb:evE true F ρ b h=.ok (.bool y) h) (ec:evE true F ρ c h=.ok (.bool z) h):evE true F ρ (.or [a,b,c]) h=.ok (.bool (x||(y||z))) h:=by
 rw[zgh,zmX,ea,R.bind_ok]
 cases x with
 |true=>rfl
 |false =>
  show evOr true F ρ [b,c] h=_;rw[zmX,eb,R.bind_ok]
  cases y with
  |true=>rfl
  |false=>exact ec
theorem zaK {a:PE}{x:Bool}(ea:evE true F ρ a h=.ok (.bool x) h):evE true F ρ (.not a) h=.ok (.bool (!x)) h:=by rw[zmY,ea];rfl
theorem zpm {a b:PE}{x y:Bool}(ea:evE true F ρ a h=.ok (.bool x) h) (eb:evE true F ρ b h=.ok (.bool y) h):evE true F ρ (.or [a,b]) h=.ok (.bool (x||y)) h:=by
 rw[zgh,zmX,ea,R.bind_ok]
 cases x with
 |true=>rfl
 |false=>exact eb
theorem zfH (ea:evE true F ρ a h=.ok v h) (hl:litems h v=some vs):evE true F ρ (.isinst a [.list]) h=.ok (.bool true) h:=by
 rw[zll,ea,R.bind_ok,show isTys h v [.list]=some true by unfold isTys;rw[zfJ hl]];rfl
theorem zl2 {w:V}{vs:List V}(hl:litems h w=some vs):∃ t:Watch,∀ k,iterOf (h++k) w=some (vs,t)∧t.ok (h++k)=true:=by
 rcases zad hl with rfl|⟨i,rfl,hc⟩
 ·exact⟨Option.none,fun k=>⟨rfl,rfl⟩⟩
 ·refine⟨some (i,.list vs),fun k=>?_⟩
  have e:(h++k)[i]?=some (.list vs):=by rw[List.getElem?_append_left (List.getElem?_eq_some_iff.1 hc).1];exact hc
  refine⟨?_,zW e⟩;show(match (h++k)[i]? with|some (.list vs)=>some (vs,some (i,Cell.list vs))|some (.dict _)=>Option.none|none=>Option.none)=_
  rw[e]
structure Fit (S Z:Nat):Prop where
 s1:1≤S
 s9:S≤9
 z1:1≤Z
 z8:Z≤8
 few:S ^ Z≤256
theorem zjW {a b c:PE}{x y z:Nat}(ea:evE true F ρ a h=.ok (.int x) h) (eb:evE true F ρ b h=.ok (.int y) h) (ec:evE true F ρ c h=.ok (.int z) h) (h1:x≤y) (h2:y≤z):evE true F ρ (.cmp2 .le .le a b c) h=.ok (.bool true) h:=by
 rw[zjx,ea,R.bind_ok,eb,R.bind_ok,cmp_le_int,zW (Int.ofNat_le.2 h1)];show(evE true F ρ c h).bind _=_;rw[ec,R.bind_ok,cmp_le_int,zW (Int.ofNat_le.2 h2)];rfl
theorem zdn {a lo hi:Nat}(h1:lo≤a) (h2:a≤hi):pcall h (run PP (n+1) true "is_among" [.int a,.int lo,.int hi] h)=.ok (.bool true) h:=by
 rw[start zdF rfl (ρ:=[.int a,.int lo,.int hi]) rfl (zaQ (zjW (F:=run PP n) (ρ:=[.int a,.int lo,.int hi]) (h:=h) (a:=.v 1) (b:=.v 0) (c:=.v 2) rfl rfl rfl h1 h2)),pcall_bool]
theorem zfR {S Z:Nat}(f:Fit S Z):pcall h (run PP (n+3) true "need_both" [.int S,.int Z] h)=.ok .none h:=by
 have e1:pcall h (run PP (n+2) true "need_signs" [.int S] h)=.ok .none h:=by
  rw[start zct rfl (ρ:=[.int S]) rfl (zaU (h':=h) (r:=.ok .none h) (zaK (zaH (b:=.int 1) (c:=.glob "MOST_SIGNS" 9) (zap (v:=.int S) rfl trivial) rfl rfl (zdn (n:=n) (lo:=1) (hi:=9) f.s1 f.s9))) rfl),pcall_none]
 have e2:pcall h (run PP (n+2) true "need_size" [.int Z] h)=.ok .none h:=by
  rw[start zbL rfl (ρ:=[.int Z]) rfl (zaU (h':=h) (r:=.ok .none h) (zaK (zaH (b:=.int 1) (c:=.glob "MOST_SIZE" 8) (zap (v:=.int Z) rfl trivial) rfl rfl (zdn (n:=n) (lo:=1) (hi:=8) f.z1 f.z8))) rfl),pcall_none]
 have e3:evE true (run PP (n+2)) [.int S,.int Z] (.cmp .gt (.call false "how_many" [.v 0,.v 1]) (.glob "MOST_WORDS" 256)) h=.ok (.bool false) h:=by
  rw[zbo,zaE (a:=.v 0) (b:=.v 1) (v:=.int S) (w:=.int Z) rfl rfl (by rw[zbT  (n+1) S (Nat.lt_of_le_of_lt f.s9 (by decide)) Z (zX f.z8 (by decide)),pcall_int]),R.bind_ok]
  show R.opt ((pyCmp .gt h (.int ((S:Int) ^ Z)) (.int 256)).map V.bool) h=_;rw[cmp_gt_int,← Int.natCast_pow,zU (p:=(256:Int) < ((S ^ Z:Nat):Int)) (Int.not_lt.2 (Int.ofNat_le.2 f.few))];rfl
 rw[start zcU rfl (ρ:=[.int S,.int Z]) rfl (zaD (zhA (a:=.v 0) (zap (v:=.int S) rfl trivial) e1) (zaD (zhA (a:=.v 1) (zap (v:=.int Z) rfl trivial) e2) (zaU (r:=.ok .none h) e3 rfl))),pcall_none]
theorem zpr {S:Nat}{w:V}{l:List Nat}(hl:IsL h w l) (h1:1≤l.length) (h8:l.length≤8) (hd:∀ d∈l,d < S):pcall h (run PP (n+2) true "is_word" [.int S,w] h)=.ok (.bool true) h:=by
 have v1:evE true (run PP (n+1)) [.int S,w,.uu] (.v 1) h=.ok w h:=zap rfl hl.val;have ln:=zaO v1 hl;rw[nats_length] at ln;obtain⟨t,ht,hto⟩:=zci hl;have hit:evIt true (run PP (n+1)) [.int S,w,.uu] (.seq (.v 1)) h=.ok (l.map V.nat,t) h:=by rw[zn5,v1,R.bind_ok,ht];rfl
 have ec:=zbk (F:=run PP (n+1)) (ρ:=[.int S,w,.uu]) (elt:=.call false "is_among" [.v 2,.int 0,.bin .sub (.v 0) (.int 1)]) (x:=2) hit hto (fun u=>.bool true) (fun d hm=>zaH (v:=.int d) (w:=.int 0) (x:=.int ((S - 1:Nat):Int)) rfl rfl ((ziH (x:=S) (y:=1) rfl rfl).trans (by rw[Int.ofNat_sub (Nat.lt_of_le_of_lt (Nat.zero_le _) (hd d hm))];rfl)) (zdn (n:=n) (lo:=0) (Nat.zero_le _) (Nat.le_sub_one_of_lt (hd d hm)))) (zaY (by rw[zJ];exact zX h8 (by decide)))
 rw[start zja rfl (ρ:=[.int S,w,.uu]) rfl (zaU (zpm (zaK (zfH v1 hl)) (zaK (zjW (x:=1) rfl ln (z:=8) rfl h1 h8))) (zaQ (v:=.bool true) ?_)),pcall_bool];rw[ziM (f:=.all) rfl,ec,R.bind_ok,bf_all,asBools_map l fun u=>true];show R.ok (V.bool ((l.map fun u=>true).all id)) h=_;rw[all_map];exact congrArg (fun b=>R.ok (V.bool b) h) (List.all_eq_true.2 fun u u=>rfl)
noncomputable def nbBody:List PS:=[
  .ifs (.or [.not (.call false "is_word" [.v 0,.v 4]),.cmp .ne (.bf .len (.v 4)) (.v 1),.cmp .isin (.bf .tuple (.v 4)) (.v 3)]) [
   .raise "BadBook"] [],
  .setIdx (.v 3) (.bf .tuple (.v 4)) (.bool true)]
theorem zon (z1:1≤Z) (z8:Z≤8) (hw:IsL (h++[.dict (dk (fun z=>.bool true) X)]) v l) (hl:l.length=Z) (lt:∀ d∈l,d < S) (new:l ∉ X) (few:X.length≤1000) :
  exSs true (run PP (n+3)) nbBody [.int S,.int Z,bv,.ref h.length,v] (h++[.dict (dk (fun z=>.bool true) X)])=.ok .next [.int S,.int Z,bv,.ref h.length,v] (h++[.dict (dk (fun z=>.bool true) (X++[l]))]):=by
 have hr:=zfU h (.dict (dk (fun z=>V.bool true) X));rw[zq0];generalize hd:dk (fun z=>V.bool true) X=es at *
 have v4:evE true (run PP (n+3)) [.int S,.int Z,bv,.ref h.length,v] (.v 4) (h++[.dict es])=.ok v (h++[.dict es]):=zap rfl hw.val;have c1:evE true (run PP (n+3)) [.int S,.int Z,bv,.ref h.length,v] (.call false "is_word" [.v 0,.v 4]) (h++[.dict es])=.ok (.bool true) (h++[.dict es]):=by
  rw[zeG (v:=.int S) (w:=v) rfl trivial rfl hw.val,zpr (n:=n+1) hw (by rw[hl];exact z1) (by rw[hl];exact z8) lt]
 have c2:=zpn (F:=run PP (n+3)) (ρ:=[.int S,.int Z,bv,.ref h.length,v]) (a:=.bf .len (.v 4)) (b:=.v 1) (w:=.int Z) (t:=true) (zaO v4 hw) rfl (by rw[pyEq_int,nats_length,hl,zW rfl])
 have c3:=zr3 (F:=run PP (n+3)) (ρ:=[.int S,.int Z,bv,.ref h.length,v]) (a:=.bf .tuple (.v 4)) (b:=.v 3) (zmP v4 hw) rfl (hr.trans (by rw[←hd]))
 rw[zU new] at c3;refine(zje (zsh (zaK c1) c2 c3)).trans ?_;show exSs true (run PP (n+3)) [.setIdx (.v 3) (.bf .tuple (.v 4)) (.bool true)] _ _=_;rw[znH (o:=.v 3) rfl rfl (zmP v4 hw) hr (by rw[←hd];exact zng ..) (by rw[←hd,zqZ];exact few),← hd,dput_new new,zgd];rfl
theorem zlz {S Z:Nat}{bv:V}{L:List (V × List Nat)}(hf:Fit S Z) (b:HB h bv L) (w:GW S Z (L.map (·.2))):run PP (n+4) true "need_book" [.int S,.int Z,bv] h=.ok .none (h++[.dict (dk (fun z=>.bool true) (L.map (·.2)))]):=by
 have hv:=(zfk b.it).val;refine start zf4 rfl (ρ:=[.int S,.int Z,bv,.uu,.uu]) rfl ?_;refine zaD (h':=h) ?_ (zaU (h':=h) ((zpm (zaK (zfH (a:=.v 2) (zap (v:=bv) rfl hv) b.it)) (zfQ (y:=0) (zaO (a:=.v 2) (zap (v:=bv) rfl hv) b.it) (b:=.int 0) rfl)).trans ?_) (zax (v:=.ref h.length) (h':=h++[.dict (dk (fun z=>.bool true) [])]) rfl (ρ':=[.int S,.int Z,bv,.ref h.length,.uu]) rfl ?_))
 ·rw[zeG (v:=.int S) (w:=.int Z) rfl trivial rfl trivial,zfR  hf]
 ·have:¬ (((L.map (·.1)).length:Nat):Int)=0:=fun e=>w.ne (by
   rw[zJ] at e;rw[eq_nil_of_length_eq_zero (Int.natCast_eq_zero.1 e)];rfl)
  rw[zU this];rfl
 ·obtain⟨t,ht⟩:=zl2 b.it
  refine zfn (l:=L) (c:=(·.1)) (t:=t) (fun z w=>[.int S,.int Z,bv,.ref h.length,w]) (fun p=>h++[.dict (dk (fun z=>.bool true) (p.map (·.2)))]) .uu (h':=h++[.dict (dk (fun z=>.bool true) [])]) ?_ (fun p=>(ht _).2) rfl rfl ?_ fun w=>rfl
  ·rw[i_seq,zap (v:=bv) rfl hv,R.bind_ok,(ht _).1];rfl
  ·intro p a q x hp
   have ha:a∈L:=by rw[hp];exact mem_append_right _ (zZ ..)
   have hm:a.2∈L.map (·.2):=yQ.2 ⟨a,ha,rfl⟩;have new:a.2 ∉ p.map (·.2):=fun e=>by
    have:=w.nodup;rw[hp,map_append,nodup_append] at this;exact this.2.2 _ e _ (zZ ..) rfl
   have hlen:p.length≤1000:=by
    have:=w.few;rw[hp,zJ,zQ] at this;exact zX (Nat.le_add_right ..) this
   rw[map_append];exact zon  hf.z1 hf.z8 ((b.wd a ha).app _) (w.len _ hm) (w.lt _ hm) new (by rw[zJ];exact hlen)
theorem zqf (hf:Fit S Z) (b:HB h bv L) (w:GW S Z (L.map (·.2))):pcall h (run PP (n+4) true "need_book" [.int S,.int Z,bv] h)=.ok .none h:=by
 rw[zlz  hf b w,zfg _ _ rfl]
end
def Ext (h g:H):Prop:=g.take h.length=h
theorem Ext.refl (h:H):Ext h h:=take_length
theorem Ext.app (e:Ext h g) (k:H):Ext h (g++k):=by
 unfold Ext at *
 rw[List.take_append_of_le_length,e];rw[←e,length_take];exact Nat.min_le_right ..
theorem Ext.set (e:Ext h g) (hr:h.length≤r) (c:Cell):Ext h (g.set r c):=by
 unfold Ext at *
 rw[List.take_set_of_le hr,e]
theorem Ext.len (e:Ext h g):h.length≤g.length:=by
 unfold Ext at e;rw[←e,length_take];exact Nat.min_le_right ..
theorem Ext.eq (e:Ext h g):h++g.drop h.length=g:=by
 unfold Ext at e
 conv=>lhs;lhs;rw[←e]
 exact take_append_drop ..
theorem Ext.L (e:Ext h g) (i:IsL h v l):IsL g v l:=by rw[←e.eq];exact i.app _
theorem Ext.tr (e1:Ext h g) (e2:Ext g k):Ext h k:=by
 unfold Ext at *
 have:=congrArg (List.take h.length) e2;rw[take_take,Nat.min_eq_left (Ext.len e1),e1] at this;exact this
section
variable {n b d:Nat}{h g:H}{F:Fn}{ρ:List V}{K:List (List Nat)}{r:List Nat→Nat}{T:List Nat→List V}
end
section
variable {n b d:Nat}{h g:H}{F:Fn}{ρ:List V}{K:List (List Nat)}{r:List Nat→Nat}
theorem zcN (eo:evE true F ρ o g=.ok (.ref c) g') (hc:g'[c]?=some (.list vs)) (ea:evE true F ρ a g'=.ok y g') (hl:vs.length≤1000):evE true F ρ (.append o a) g=.ok .none (g'.set c (.list (vs++[y]))):=by
 rw[zlj,eo,R.bind_ok,zT (zbt hc),ea,R.bind_ok,za4 hc _ .none (vs++[y]) rfl (by rw[zQ];exact zX (Nat.succ_le_succ hl) (by decide))]
end
section
variable {n b d:Nat}{h g:H}{F:Fn}{ρ:List V}{B:List (List Nat)}
theorem za3 (e:Ext h g) (hf:frz h.length g v=some w):pcall h (.ok v g)=.ok w h:=by
 show(if g.take h.length=h then R.opt (frz h.length g v) h else .bad)=_;rw[zT (show g.take h.length=h from e),hf];rfl
end
section
variable {n:Nat}{h:H}{F:Fn}
theorem zfo (n:Nat) (sg:Int) (w:V) (h:H) (hw:okV h w) (hi:∀ vs,litems h w=some vs→∀ v∈vs,okV h v) :
  run PP (n+2) true "need_ring" [.int sg,w] h=if ringB sg h w then .ok .none h else .err "BadRing" h:=by
 refine start zcT rfl (ρ:=[.int sg,w,.uu]) rfl ?_;have c:=zmz (F:=run PP (n+1)) (ρ:=[.int sg,w,.uu]) (g:="MOST_WORDS") (N:=256) rfl hw;unfold ringB
 cases hl:litems h w with
 |none=>rw[zft hl] at c;exact zdv c rfl
 |some vs =>
  show _=if(decide (1≤vs.length)&&decide (vs.length≤256)&&vs.all fun v=>among v 0 (sg - 1))=true then R.ok V.none h else R.err "BadRing" h;rw[zfs hl] at c;have hi:=hi vs hl
  cases hB:(decide (1≤vs.length)&&decide (vs.length≤256)) with
  |false=>rw[hB] at c;exact zdv c rfl
  |true =>
   rw[hB] at c;refine zaU c ?_;rw[Bool.true_and];obtain⟨t,ht,hto⟩:=zci hl;have hit:evIt true (run PP (n+1)) [.int sg,w,.uu] (.seq (.v 1)) h=.ok (vs.map id,t) h:=by
    rw[zn5,zap (v:=w) rfl hw.val,R.bind_ok,ht,map_id];rfl
   have ea:∀ a∈vs,evE true (run PP (n+1)) [.int sg,w,a] (.not (.call false "is_among" [.v 2,.int 0,.bin .sub (.v 0) (.int 1)])) h=.ok (.bool (!among a 0 (sg - 1))) h:=fun a ha=>by
    have ec:evE true (run PP (n+1)) [.int sg,w,a] (.call false "is_among" [.v 2,.int 0,.bin .sub (.v 0) (.int 1)]) h=.ok (.bool (among a 0 (sg - 1))) h:=zaH (zap (v:=a) rfl (hi a ha).val) rfl (ziH (x:=sg) (y:=1) rfl rfl) (by rw[zbS  n true a _ _ h (hi a ha),pcall_bool])
    rw[zmY,ec];rfl
   refine zqc (w₀:=.uu) (fun v=>among v 0 (sg - 1)) hit hto rfl ?_ ?_ ?_
   ·intro a ha hb
    show exSs true (run PP (n+1)) [.ifs _ _ _] [.int sg,w,a] h=_;rw[ss_cons',zlh,ea a ha,hb];rfl
   ·intro hall w'
    rw[zT (List.all_eq_true.2 hall)];rfl
   ·intro p a q e hp hb k
    have ha:a∈vs:=by rw[e];exact mem_append_right _ (zZ ..)
    rw[zR fun x=>Bool.false_ne_true (hb.symm.trans (List.all_eq_true.1 x a ha))];show((exSs true (run PP (n+1)) [.ifs _ _ _] [.int sg,w,a] h).then k).out=_;rw[ss_cons',zlh,ea a ha,hb];rfl
theorem pneed (b:Bool) (c:String) (h:H):pcall h (if b then .ok .none h else .err c h)=if b then .ok .none h else .err c h:=by
 cases b
 ·have:=zfh c h []
  rw[append_nil] at this;exact this
 ·exact zan rfl h
theorem zoo {ρ:List V}{i:Nat}{z:V}(e:ρ[i]?=some z) (hz:okV h z):evE true (run PP (n+2)) ρ (.call false "need_signs" [.v i]) h=if among z 1 9 then .ok .none h else .err "BadSize" h:=by
 rw[zo5 e hz.val,zb1  n z h hz,pneed]
theorem zm5 (e0:ρ[j]?=some (.int sg)) (e:ρ[i]?=some w) (hw:okI h w):evE true (run PP (n+2)) ρ (.call false "need_ring" [.v j,.v i]) h=if ringB sg h w then .ok .none h else .err "BadRing" h:=by
 rw[zeG (v:=.int sg) e0 trivial e hw.1.val,zfo  n sg w h hw.1 hw.2,pneed]
end
section
variable {m:List Nat}{B es L:List (List Nat)}{j:List Nat}
end
theorem zbH:∀ {B W:List (List Nat)},B.Nodup→(∀ w∈B,w∈W)→W.length=B.length→W.Perm B
 |[],W,_,_,h=>by rw[eq_nil_of_length_eq_zero h]
 |b::B,W,nd,sub,h=>by
  have hb:=sub b (zZ ..);rw[nodup_cons] at nd;refine(List.perm_cons_erase hb).trans ((zbH nd.2 (fun w hw=>?_) ?_).cons b)
  ·exact(List.mem_erase_of_ne (a:=w) (b:=b) fun e=>nd.1 (e ▸ hw)).2 (sub w (zY _ hw))
  ·rw[List.length_erase_of_mem hb,h];rfl
section
variable {n:Nat}{h g:H}{F:Fn}{ρ:List V}{S Z:Nat}{v:V}{l:List Nat}
theorem ze9 (hl:IsL h v l) (h1:1≤l.length) (h2:l.length≤256) (hd:∀ d∈l,d < S):pcall h (run PP (n+2) true "need_ring" [.int S,v] h)=.ok .none h:=by
 have v1:evE true (run PP (n+1)) [.int S,v,.uu] (.v 1) h=.ok v h:=zap rfl hl.val;have ln:=zaO v1 hl;rw[nats_length] at ln;obtain⟨t,ht,hto⟩:=zci hl;have hit:evIt true (run PP (n+1)) [.int S,v,.uu] (.seq (.v 1)) h=.ok (l.map V.nat,t) h:=by rw[zn5,v1,R.bind_ok,ht];rfl
 rw[start zcT rfl (ρ:=[.int S,v,.uu]) rfl (zaU (zpm (zaK (zfH v1 hl)) (zaK (zjW (x:=1) rfl ln (z:=256) rfl h1 h2))) (zfn (fun u w=>[.int S,v,w]) (fun u=>h) .uu hit (fun u=>hto) rfl rfl (fun p a q w hp=>?_) fun u=>rfl)),pcall_none];have ha:a < S:=hd a (by rw[hp];exact mem_append_right _ (zZ ..))
 exact(zje (zaK (zaH (v:=.int a) (w:=.int 0) (x:=.int ((S - 1:Nat):Int)) rfl rfl ((ziH (x:=S) (y:=1) rfl rfl).trans (by rw[Int.ofNat_sub (Nat.lt_of_le_of_lt (Nat.zero_le _) ha)];rfl)) (zdn (n:=n) (lo:=0) (Nat.zero_le _) (Nat.le_sub_one_of_lt ha))))).trans rfl
theorem zpP (hl:IsL h v l) (h1:1≤l.length){z p:Nat}(hz:z≤8):pcall h (run PP (n+1) true "read_at" [v,.int z,.int p] h)=.ok (.l (V.nats (rd l z p))) h:=by
 have ec:=zbk (F:=run PP n) (ρ:=[v,.int z,.int p,.uu]) (h:=h) (elt:=.idx (.v 0) (.bin .mod (.bin .add (.v 2) (.v 3)) (.bf .len (.v 0)))) (x:=3) (zaT (a:=.v 1) (n:=z) rfl (zX hz (by decide))) rfl (fun t:Nat=>V.int ((l.getD ((p+t) % l.length) 0:Nat):Int)) (fun t u=>by
  have v0:evE true (run PP n) [v,.int z,.int p,.int t] (.v 0) h=.ok v h:=zap rfl hl.val;have ln:=zaO v0 hl;rw[nats_length] at ln;exact zb4 v0 (zlC (x:=p+t) (zfT (x:=p) (y:=t) rfl rfl) ln h1) hl (zaX (zeD h1 (p+t)))) (r:=.l (V.nats (rd l z p))) (by
  have e:(List.range z).map (fun t:Nat=>V.int ((l.getD ((p+t) % l.length) 0:Nat):Int))=V.nats (rd l z p):=by unfold V.nats rd;rw[map_map];rfl
  rw[e,zaY (by rw[nats_length,zaV];exact zX hz (by decide))])
 rw[start ze2 rfl (ρ:=[v,.int z,.int p,.uu]) rfl (zaQ ec),zan (zak _)]
theorem znv (hl:IsL h v l) (h1:1≤l.length) (h2:l.length≤256) (hd:∀ d∈l,d < 9) (z1:1≤Z) (z8:Z≤8):pcall h (run PP (n+3) true "words_on" [v,.int Z] h)=.ok (.l (V.lists (rws l Z))) h:=by
 have v0:∀ w,evE true (run PP (n+2)) [v,.int Z,w] (.v 0) h=.ok v h:=fun w=>zap rfl hl.val;have e1:pcall h (run PP (n+2) true "need_size" [.int Z] h)=.ok .none h:=by
  rw[start zbL rfl (ρ:=[.int Z]) rfl (zaU (h':=h) (r:=.ok .none h) (zaK (zaH (b:=.int 1) (c:=.glob "MOST_SIZE" 8) (zap (v:=.int Z) rfl trivial) rfl rfl (zdn (n:=n) (lo:=1) (hi:=8) z1 z8))) rfl),pcall_none]
 have ln:=zaO (v0 .uu) hl;rw[nats_length] at ln;have ec:=zbk (F:=run PP (n+2)) (ρ:=[v,.int Z,.uu]) (h:=h) (elt:=.call false "read_at" [.v 0,.v 1,.v 2]) (x:=2) (zaT ln (zX h2 (by decide))) rfl (fun p=>.l (V.nats (rd l Z p))) (fun p z=>zaH (w:=.int Z) (x:=.int p) (v0 (.int p)) rfl rfl (zpP (n:=n+1) hl h1 z8)) (r:=.l (V.lists (rws l Z))) (by
  have e:(List.range l.length).map (fun p=>V.l (V.nats (rd l Z p)))=V.lists (rws l Z):=by unfold V.lists rws;rw[map_map];rfl
  rw[e,zaY (by rw[zc8,zaM];exact zX h2 (by decide))])
 rw[start zhQ rfl (ρ:=[v,.int Z,.uu]) rfl (zaD (zhA (a:=.v 1) (v:=.int Z) rfl e1) (zaD (h':=h) ((zkx (g:="MOST_SIGNS") (k:=9) rfl hl.val).trans (ze9 (n:=n) (S:=9) hl h1 h2 hd)) (zaQ ec))),zan (v:=.l (V.lists (rws l Z))) (lists_plains _)]
end
section
variable {n:Nat}{h g:H}{F:Fn}{ρ:List V}{S Z:Nat}{w r:List Nat}{B:List (List Nat)}
theorem eqLL {v w:V}{x y:List (List Nat)}(hv:litems h v=some (V.lists x)) (hw:litems h w=some (V.lists y)):pyEq h v w=some (decide (x=y)):=zn8 (zdf hv (lists_plains _)) (zdf hw (lists_plains _))
theorem ziW:(words S Z).length=S ^ Z:=by unfold words;rw[zJ,length_range]
theorem zqd {k:Nat}(hS:0 < S) (hZ:Z≤8):pcall h (run PP (n+1) true "numbered" [.int S,.int Z,.int k] h)=.ok (.l (V.nats (word S Z k))) h:=by
 have fin:run PP (n+1) true "numbered" [.int S,.int Z,.int k] h=.ok (.l (V.nats (word S Z k))) (h++[.list (V.nats (word S Z k).reverse)]):=by
  refine start zhR rfl (ρ:=[.int S,.int Z,.int k,.uu,.uu,.uu]) rfl (zax (v:=.ref h.length) (h':=h++[.list []]) rfl (ρ':=[.int S,.int Z,.int k,.ref h.length,.uu,.uu]) rfl (zax (v:=.int k) rfl (ρ':=[.int S,.int Z,.int k,.ref h.length,.int k,.uu]) rfl (zfn (l:=List.range Z) (fun p w=>[.int S,.int Z,.int k,.ref h.length,.int ((k / S ^ p.length:Nat):Int),w]) (fun p=>h++[.list (V.nats (word S p.length k).reverse)]) .uu (zaT (n:=Z) rfl (zX hZ (by decide))) (fun z=>rfl) (by rw[length_nil,Nat.pow_zero,Nat.div_one]) rfl (fun p a q w hp=>?_) fun w=>zaQ ?_)))
  ·obtain⟨rfl,hi⟩:=range_at hp
   have e2:k / S ^ (p.length+1)=k / S ^ p.length / S:=by rw[Nat.div_div_eq_div_mul,Nat.pow_succ]
   have e3:word S (p.length+1) k=(k / S ^ p.length % S)::word S p.length k:=by
    rw[zhM S (p.length+1) p.length k (Nat.le_succ _),Nat.add_sub_cancel_left];rfl
   have hl:=zcS S p.length k;rw[zQ,show p.length+[p.length].length=p.length+1 from rfl,e2,e3,reverse_cons];generalize word S p.length k=wd at *
   generalize k / S ^ p.length=m;have ea:=zcN (F:=run PP n) (ρ:=[.int S,.int Z,.int k,.ref h.length,.int (m:Nat),.int p.length]) (o:=.v 3) (a:=.bin .mod (.v 4) (.v 0)) rfl (zfU h (.list (V.nats wd.reverse))) (zlC (x:=m) (y:=S) rfl rfl hS) (by rw[nats_length,length_reverse,hl];exact zX (Nat.le_of_lt hi) (zX hZ (by decide)))
   rw[zgd] at ea;show exSs true (run PP n) _ [.int S,.int Z,.int k,.ref h.length,.int (m:Nat),.int p.length] (h++[.list (V.nats wd.reverse)])=_;rw[zd9 ea,zdG (zrP (x:=m) (y:=S) rfl rfl hS),zas];rfl
  ·rw[length_range,ziM (f:=.listRev) rfl,zap (v:=.ref h.length) rfl trivial,R.bind_ok,zq9 (zah (zfU h _))]
   show R.ok (V.l (V.nats (word S Z k).reverse).reverse) _=_;unfold V.nats;rw[←List.map_reverse,reverse_reverse]
 rw[fin];exact za3 ((Ext.refl h).app _) (za7 _ _ _ (zak _))
theorem zr8 (hf:Fit S Z):pcall h (run PP (n+4) true "all_words" [.int S,.int Z] h)=.ok (.l (V.lists (words S Z))) h:=by
 have e1:evE true (run PP (n+3)) [.int S,.int Z,.uu] (.call false "how_many" [.v 0,.v 1]) h=.ok (.int (S ^ Z:Nat)) h:=zaE (v:=.int S) (w:=.int Z) rfl rfl (by
  rw[zbT  (n+2) S (Nat.lt_of_le_of_lt hf.s9 (by decide)) Z (zX hf.z8 (by decide)),pcall_int,Int.natCast_pow])
 have c:=zbk (F:=run PP (n+3)) (ρ:=[.int S,.int Z,.uu]) (h:=h) (elt:=.call false "numbered" [.v 0,.v 1,.v 2]) (x:=2) (zaT e1 (zX hf.few (by decide))) rfl (fun k=>.l (V.nats (word S Z k))) (fun k z=>zaH (v:=.int S) (w:=.int Z) (x:=.int k) rfl rfl rfl (zqd (n:=n+2) hf.s1 hf.z8)) (r:=.l (V.lists (words S Z))) (by
  have e:(List.range (S ^ Z)).map (fun k=>V.l (V.nats (word S Z k)))=V.lists (words S Z):=by unfold V.lists words;rw[map_map];rfl
  rw[e,zaY (by rw[zc8,ziW];exact zX hf.few (by decide))])
 rw[start zf9 rfl (ρ:=[.int S,.int Z,.uu]) rfl (zaD (zaE (v:=.int S) (w:=.int Z) rfl rfl (zfR (n:=n) hf)) (zaQ c)),zan (v:=.l (V.lists (words S Z))) (lists_plains _)]
end
section
variable {n:Nat}{h g:H}{F:Fn}{ρ:List V}{S Z:Nat}{v bv:V}{l:List Nat}{B:List (List Nat)}{L:List (V × List Nat)}
def RingOf (Z:Nat) (B:List (List Nat)) (l:List Nat):Prop:=l.length=B.length∧∀ w∈B,w∈rws l Z
theorem zlg (nd:B.Nodup) (e:l.length=B.length):srt (rws l Z)=srt B↔RingOf Z B l:=by
 refine⟨fun q=>⟨e,fun w hw=>?_⟩,fun q=>zpy (zbH nd q.2 (by rw[zaM];exact e))⟩
 rw[←zjf,q,zjf];exact hw
theorem zl5 (hf:Fit S Z) (hb:HB h bv L) (hL:L.map (·.1)=V.lists B) (hB:L.map (·.2)=B) (w:GW S Z B) (hn:B.length≤1000) (hl:IsL h v l) (h1:1≤l.length) (h2:l.length≤256) (hd:∀ d∈l,d < S):∃ b:Bool,(b=true↔RingOf Z B l)∧pcall h (run PP (n+5) true "is_ring_of" [.int S,.int Z,bv,v] h)=.ok (.bool b) h:=by
 subst hB;have hv:=(zfk hb.it).val;have it:=hb.it;rw[hL] at it;have v3:evE true (run PP (n+4)) [.int S,.int Z,bv,v] (.v 3) h=.ok v h:=zap rfl hl.val;have v2:evE true (run PP (n+4)) [.int S,.int Z,bv,v] (.v 2) h=.ok bv h:=zap rfl hv;have l3:=zaO v3 hl;have l2:=zaO v2 it;rw[nats_length] at l3;rw[zc8] at l2;have e1:=zfQ l3 l2;rw[decide_eq_decide.2 (Int.natCast_inj (m:=l.length) (n:=(L.map (·.2)).length))] at e1
 have st:∀ {b:Bool},evE true (run PP (n+4)) [.int S,.int Z,bv,v] (.and [.cmp .eq (.bf .len (.v 3)) (.bf .len (.v 2)),.cmp .eq (.bf .sorted (.call false "words_on" [.v 3,.v 1])) (.bf .sorted (.v 2))]) h=.ok (.bool b) h→pcall h (run PP (n+5) true "is_ring_of" [.int S,.int Z,bv,v] h)=.ok (.bool b) h:=fun e=>by
  rw[start ze5 rfl (ρ:=[.int S,.int Z,bv,v]) rfl (zaD (zaH (v:=.int S) (w:=.int Z) rfl rfl v2 (zqf (n:=n) hf hb w)) (zaD (zaE (v:=.int S) rfl v3 (ze9 (n:=n+2) hl h1 h2 hd)) (zaQ e))),pcall_bool]
 by_cases q:l.length=(L.map (·.2)).length
 ·rw[zW q] at e1
  have s1:=zcV (zaE (b:=.v 1) (w:=.int Z) v3 rfl (znv (n:=n+1) hl h1 h2 (fun d hm=>Nat.lt_of_lt_of_le (hd d hm) hf.s9) hf.z1 hf.z8)) (litems_lst _ _) (zcu h (rws l Z) (by rw[zaM,q];exact hn))
  have s2:=zcV v2 it (zcu h _ hn);exact⟨_,by rw[Bool.true_and,decide_eq_true_eq];exact zlg w.nodup q,st (zmK e1 fun z=>zqY s1 s2 (eqLL rfl rfl))⟩
 ·rw[zU q] at e1
  exact⟨false,⟨fun e=>(nomatch e),fun e=>absurd e.1 q⟩,st (zmK (y:=true) e1 fun e=>nomatch e)⟩
end
noncomputable def nlt (a b:Nat):Bool:=decide (a < b)
noncomputable def srtN (l:List Nat):List Nat:=isort nlt l
theorem znM (l:List Nat):(srtN l).Pairwise (·≤·):=zez (lt:=nlt) (le:=(·≤·)) (fun a b e=>Nat.le_of_lt (zV e)) (fun a b e=>Nat.le_of_not_lt (of_decide_eq_false e)) (fun a b c h1 h2=>zX h1 h2) l
theorem zjg (l:List Nat):(srtN l).Perm l:=za5 l
theorem zgc (h:H) (l:List Nat) (h64:l.length≤1000):sortVs h (V.nats l)=some (V.nats (srtN l)):=by
 have e1:keyed keyI (V.nats l)=some (l.map fun d:Nat=>((d:Int),V.nat d)):=zfE (f:=keyI) V.nat (fun d:Nat=>(d:Int)) l fun z z=>rfl;have e:isort (fun a b:Int × V=>decide (a.1 < b.1)) (l.map fun d:Nat=>((d:Int),V.nat d))=(srtN l).map fun d:Nat=>((d:Int),V.nat d):=zfG (lt:=nlt) (fun d:Nat=>((d:Int),V.nat d)) (fun a b=>decide_eq_decide.2 Int.ofNat_lt) l;unfold sortVs;rw[e1];show sortBy _ _=_;unfold sortBy
 rw[zT,e,map_map];rfl
 rw[Bool.and_eq_true];refine⟨zW (by rw[zJ];exact h64),?_⟩
 rw[all_eq_true];intro p hp;rw[all_eq_true];intro q hq;obtain⟨a,_,rfl⟩:=yQ.1 hp;obtain⟨b,_,rfl⟩:=yQ.1 hq;exact zW fun e=>congrArg V.int e
section
variable {n b d:Nat}{h g:H}{F:Fn}{ρ:List V}{K:List (List Nat)}{r:List Nat→Nat}{C:List Nat→List Nat}{L:List (List Nat)}{j:List Nat}{a:Nat}
end
section
variable {n:Nat}{h g:H}{F:Fn}{ρ:List V}{S Z:Nat}{w r:List Nat}{B:List (List Nat)}
noncomputable def lstB (B:List (List Nat)):List (V × List Nat):=B.map fun w=>(.l (V.nats w),w)
theorem zql (B:List (List Nat)):(lstB B).map (·.2)=B:=by unfold lstB;rw[map_map];exact List.map_id' B
theorem zqD (h:H) (B:List (List Nat)):HB h (.l (V.lists B)) (lstB B):=by
 refine⟨?_,fun p hp=>?_⟩
 ·unfold lstB;rw[map_map];rfl
 ·obtain⟨w,_,rfl⟩:=yQ.1 hp
  exact IsL.lst h w
end
section
variable {n:Nat}{h:H}{F:Fn}
end
section
variable {n:Nat}{h:H}
theorem zkk {α:Type}{bi:List V→V→Option (List V)}{body:List V→H→RS}(c:α→V) (r:α→Option V) (Inv:List V→Prop) (ht:t.ok h=true):∀ (l:List α),
  (∀ a∈l,∀ ρ,Inv ρ→∃ ρ1,bi ρ (c a)=some ρ1∧((r a=none∧∃ ρ',body ρ1 h=.ok .next ρ' h∧Inv ρ')∨∃ v ρ',r a=some v∧body ρ1 h=.ok (.ret v) ρ' h)) →
  ∀ ρ,Inv ρ→(l.findSome? r=none∧∃ ρ',forL t bi body (l.map c) ρ h=.ok .next ρ' h∧Inv ρ')∨∃ v ρ',l.findSome? r=some v∧forL t bi body (l.map c) ρ h=.ok (.ret v) ρ' h
 |[],_,ρ,hi=>.inl ⟨rfl,ρ,by rw[map_nil,forL,zT ht],hi⟩
 |a::l,hb,ρ,hi=>by
  obtain⟨ρ1,e1,e2⟩:=hb a (zZ ..) ρ hi;have step:forL t bi body ((a::l).map c) ρ h=(body ρ1 h).then fun ρ h=>forL t bi body (l.map c) ρ h:=by
   rw[yY,forL,zT ht,e1]
  rw[step,List.findSome?_cons]
  rcases e2 with⟨e2,ρ',e3,e4⟩|⟨v,ρ',e2,e3⟩
  ·rw[e2,e3]
   exact zkk c r Inv ht l (fun a ha=>hb a (zY _ ha)) ρ' e4
  ·rw[e2,e3];exact .inr ⟨v,ρ',rfl,rfl⟩
theorem zh3 (hl:IsL h w l) (h0:0 < l.length) (z p:Nat) (hz:z≤1000) :
  pcall h (run PP (n+1) true "read_at" [w,.int z,.int p] h)=.ok (.l (V.nats (rd l z p))) h:=by
 have:run PP (n+1) true "read_at" [w,.int z,.int p] h=.ok (.l (V.nats (rd l z p))) h:=by
  refine start ze2 rfl (ρ:=[w,.int z,.int p,.uu]) rfl (zaQ ?_);refine zbk (c:=fun i:Nat=>V.int i) (zaT (n:=z) rfl (zX hz (by decide))) rfl (fun t=>.int (l.getD ((p+t) % l.length) 0)) (fun t u=>?_) (by rw[zaY (by rw[zJ,length_range];exact zX hz (by decide)),rd,V.nats,map_map];rfl)
  have m:evE true (run PP n) [w,.int z,.int p,.int t] (.bin .mod (.bin .add (.v 2) (.v 3)) (.bf .len (.v 0))) h=.ok (.int (((p+t) % l.length:Nat):Int)) h :=
   (zbw (zfT (x:=p) (y:=t) rfl rfl) (by rw[zbs rfl hl,nats_length]) (Int.natCast_ne_zero.2 (Nat.ne_of_gt h0))).trans (by rw[←Int.natCast_add,zhn])
  show evE true (run PP n) [w,.int z,.int p,.int t] _ h=_;rw[zce,zap (v:=w) rfl hl.val,R.bind_ok,m,R.bind_ok,hl.idx (zeD h0 (p+t))];rfl
 rw[this];exact zan (zak _) h
noncomputable def fnd (l2:List Nat) (z:Nat) (w:List Nat):Option Nat:=(List.range l2.length).find? fun a=>decide (rd l2 z a=w)
noncomputable def mt (l1 l2:List Nat) (z:Nat):Option (Nat × Nat):=(List.range l1.length).findSome? fun p=>(fnd l2 z (rd l1 z p)).map fun a=>(p,a)
theorem zfP (k k0 v0:V):∀ es:List (V × V),dfind k (es++[(k0,v0)])=(dfind k es).or (if k=k0 then some v0 else Option.none)
 |[]=>by
  show(if k=k0 then some v0 else dfind k [])=_
  rfl
 |(k',v)::es=>by
  rw[cons_append,dfind,dfind]
  by_cases e:k=k'
  ·rw[zT e,zT e];rfl
  ·rw[zR e,zR e];exact zfP k k0 v0 es
structure DI (l:List Nat) (z:Nat) (q:List Nat) (es:List (V × V)):Prop where
 get:∀ w:List Nat,dfind (.tup (V.nats w)) es=(q.find? fun a=>decide (rd l z a=w)).map fun a:Nat=>V.int (a:Int)
 len:es.length≤q.length
 all:∀ e∈es,(tupT e.1).isSome=true
theorem DI.fit (d:DI l z q es) (w:List Nat):keyFit (.tup (V.nats w)) es=true:=by
 show((tupT (V.tw w)).isSome&&es.all fun e=>(tupT e.1).isSome)=true;rw[zd5,Bool.true_and];exact List.all_eq_true.2 d.all
theorem DI.step (d:DI l z q es) (a:Nat) (hq:q.length≤1000) :
  ∃ es' v,setDef (h++[.dict es]) (.ref h.length) (.tup (V.nats (rd l z a))) (.int a)=.ok (.int v) (h++[.dict es'])∧DI l z (q++[a]) es':=by
 have sd:setDef (h++[.dict es]) (.ref h.length) (.tup (V.nats (rd l z a))) (.int a)=match dfind (.tup (V.nats (rd l z a))) es with
   |some v=>.ok v (h++[.dict es])
   |Option.none=>if es.length≤1000 then R.ok (V.int a) (List.set (h++[Cell.dict es]) h.length (Cell.dict (es++[(V.tup (V.nats (rd l z a)),V.int a)]))) else R.bad:=by
  unfold setDef onDict;show(match (h++[Cell.dict es])[h.length]? with|some (.dict es)=>_|_=>_)=_
  rw[cell_get];show(if keyFit _ _=true then _ else _)=_;rw[d.fit];rfl
 rw[sd,d.get]
 cases hf:q.find? fun b=>decide (rd l z b=rd l z a) with
 |some b =>
  refine⟨es,b,rfl,fun w=>?_,zX d.len (by rw[zQ];exact Nat.le_add_right _ _),d.all⟩
  rw[d.get,List.find?_append]
  by_cases e:rd l z a=w
  ·rw[←e,hf];rfl
  ·rw[List.find?_singleton,zR (by simpa using e),Option.or_none]
 |none =>
  refine⟨es++[(.tup (V.nats (rd l z a)),.int a)],a,?_,fun w=>?_,by rw[zQ,zQ];exact Nat.succ_le_succ d.len,fun e he=>(zP.1 he).elim (d.all e) fun he=>by rw[zK.1 he];exact zd5 _⟩
  ·show(if es.length≤1000 then _ else _)=_
   rw[zT (zX d.len hq),cell_set]
  ·rw[zfP,d.get,List.find?_append,List.find?_singleton]
   by_cases e:rd l z a=w
   ·rw[zT (by rw[e]),zT (by simpa using e),← e,hf];rfl
   ·rw[zR (fun x=>e (zhi (V.tup.inj x)).symm),zR (by simpa using e),Option.or_none,Option.or_none]
end
section
variable {n:Nat}{h:H}
noncomputable def mtV:Option (Nat × Nat)→V
 |some (p,a)=>.tup [.int p,.int a]
 |none=>.none
theorem zkh {α β γ:Type}(f:β→γ) (g:α→Option β):∀ l:List α,l.findSome? (fun a=>(g a).map f)=(l.findSome? g).map f
 |[]=>rfl
 |a::l=>by
  rw[List.findSome?_cons,List.findSome?_cons]
  cases g a with
  |none=>exact zkh f g l
  |some b=>rfl
theorem sub1 {k:Nat}(hk:1≤k):(k:Int) - 1=((k - 1:Nat):Int):=(Int.natCast_sub hk).symm
set_option maxHeartbeats 4000000 in
theorem zgt {w x:V}{l1 l2:List Nat}{k:Nat}(h1:IsL h w l1) (h2:IsL h x l2) (n1:0 < l1.length) (n2:0 < l2.length) (b1:l1.length≤256) (b2:l2.length≤256) (hk:1≤k) (k8:k≤8) :
  pcall h (run PP (n+2) true "meeting" [.int k,w,x] h)=.ok (mtV (mt l1 l2 (k - 1))) h:=by
 have k1:k - 1≤1000:=zX (Nat.sub_le _ _) (zX k8 (by decide))
 have wd:∀ {ρ:List V}{g:H}{i j:Nat}{v:V}{l:List Nat}{p:Nat},ρ[0]?=some (.int k)→ρ[i]?=some v→ρ[j]?=some (.int p)→IsL g v l→0 < l.length→evE true (run PP (n+1)) ρ (.bf .tuple (.call false "read_at" [.v i,.bin .sub (.v 0) (.int 1),.v j])) g=.ok (.tup (V.nats (rd l (k - 1) p))) g:=fun {ρ g i j v l p} e0 ei ej hl hn=>by
  have ec:=zaH (F:=run PP (n+1)) (ρ:=ρ) (h:=g) (f:="read_at") (zap ei hl.val) ((ziH (a:=.v 0) (b:=.int 1) (x:=k) (y:=1) (zap e0 trivial) rfl).trans (by rw[sub1 hk])) (zap ej trivial) (zh3 (n:=n) hl hn (k - 1) p k1)
  rw[ziM (f:=.tuple) rfl,ec,R.bind_ok];rfl
 have go:∃ es,run PP (n+2) true "meeting" [.int k,w,x] h=.ok (mtV (mt l1 l2 (k - 1))) (h++[.dict es]):=by
  have first:∃ es v,DI l2 (k - 1) (List.range l2.length) es∧∀ r,(exSs true (run PP (n+1)) (zb8.body.drop 2) [.int k,w,x,.ref h.length,v,.uu] (h++[.dict es])).out=r→run PP (n+2) true "meeting" [.int k,w,x] h=r:=by
   obtain⟨ρ',g',e,es,v,rfl,rfl,d⟩:=zpG (F:=run PP (n+1)) (x:=4) (ρ:=[.int k,w,x,.ref h.length,.uu,.uu]) (h:=h++[.dict []]) (it:=.range1 (.bf .len (.v 2))) (body:=[.expr (.setdef (.v 3) (.bf .tuple (.call false "read_at" [.v 2,.bin .sub (.v 0) (.int 1),.v 4])) (.v 4))])
    (l:=List.range l2.length) (c:=fun i:Nat=>V.int i) (fun q ρ g=>∃ es v,ρ=[.int k,w,x,.ref h.length,v,.uu]∧g=h++[.dict es]∧DI l2 (k - 1) q es)
    (zaT (by rw[zbs rfl (h2.app _),nats_length]) (zX b2 (by decide))) ⟨[],_,rfl,rfl,fun w=>rfl,Nat.le_refl _,fun z h=>nomatch h⟩ (fun q a q' ρ g hq hi=>by
     obtain⟨es,v,rfl,rfl,d⟩:=hi;have hl:=congrArg List.length hq;rw[length_range,zQ] at hl;obtain⟨es',b,e,d'⟩:=d.step (h:=h) a (zX (zX (Nat.le_add_right _ _) (Nat.le_of_eq hl.symm)) (zX b2 (by decide)))
     refine⟨_,_,?_,es',.int a,rfl,rfl,d'⟩;have ee:evE true (run PP (n+1)) [.int k,w,x,.ref h.length,.int a,.uu] (.setdef (.v 3) (.bf .tuple (.call false "read_at" [.v 2,.bin .sub (.v 0) (.int 1),.v 4])) (.v 4)) (h++[.dict es])=.ok (.int b) (h++[.dict es']):=by
      have dc:dcell (h++[.dict es]) (.ref h.length)=true:=by
       show(match (h++[Cell.dict es])[h.length]? with|some (.dict _)=>true|_=>false)=true
       rw[cell_get]
      rw[zry,zap (v:=.ref h.length) rfl trivial,R.bind_ok,zT dc,wd (p:=a) rfl rfl rfl (h2.app _) n2,R.bind_ok,zap (v:=.int a) rfl trivial,R.bind_ok,e]
     show exSs true (run PP (n+1)) [.expr _] [.int k,w,x,.ref h.length,.int a,.uu] _=_;rw[ss_cons',zrw,ee];rfl)
   refine⟨es,v,d,fun r hr=>?_⟩;refine start zi7 rfl (ρ:=[.int k,w,x,.uu,.uu,.uu]) rfl ?_;refine zax (v:=.ref h.length) (h':=h++[.dict []]) rfl (ρ':=[.int k,w,x,.ref h.length,.uu,.uu]) rfl ?_;show(exSs true (run PP (n+1)) (.for1 4 _ _::zb8.body.drop 2) _ _).out=r;rw[show ∀ (s:PS) (ss:List PS),s::ss=[s]++ss from fun z z=>rfl,zb6,e];exact hr
  obtain⟨es,v0,d,start⟩:=first;refine⟨es,start _ ?_⟩;have hw:=h1.app [Cell.dict es];have body:∀ p∈List.range l1.length,∀ ρ:List V,(∃ a b,ρ=[.int k,w,x,.ref h.length,a,b])→∃ ρ1,bind1 4 ρ (.int p)=some ρ1∧(((fnd l2 (k - 1) (rd l1 (k - 1) p)).map fun a:Nat=>V.tup [.int (p:Int),.int (a:Int)])=none∧(∃ ρ',exSs true (run PP (n+1)) [.asg 5 (.bf .tuple (.call false "read_at" [.v 1,.bin .sub (.v 0) (.int 1),.v 4])),.ifs (.cmp .isin (.v 5) (.v 3)) [.ret (.tup [.v 4,.idx (.v 3) (.v 5)])] []] ρ1 (h++[.dict es])=.ok .next ρ' (h++[.dict es])∧∃ a b,ρ'=[.int k,w,x,.ref h.length,a,b]) ∨
    ∃ v ρ',((fnd l2 (k - 1) (rd l1 (k - 1) p)).map fun a:Nat=>V.tup [.int (p:Int),.int (a:Int)])=some v∧exSs true (run PP (n+1)) [.asg 5 (.bf .tuple (.call false "read_at" [.v 1,.bin .sub (.v 0) (.int 1),.v 4])),.ifs (.cmp .isin (.v 5) (.v 3)) [.ret (.tup [.v 4,.idx (.v 3) (.v 5)])] []] ρ1 (h++[.dict es])=.ok (.ret v) ρ' (h++[.dict es])):=by
   intro p _ ρ hρ;obtain⟨a,b,rfl⟩:=hρ;refine⟨[.int k,w,x,.ref h.length,.int p,b],rfl,?_⟩;have get:=d.get (rd l1 (k - 1) p);have ein:evE true (run PP (n+1)) [.int k,w,x,.ref h.length,.int p,.tup (V.nats (rd l1 (k - 1) p))] (.cmp .isin (.v 5) (.v 3)) (h++[.dict es])=.ok (.bool (dfind (.tup (V.nats (rd l1 (k - 1) p))) es).isSome) (h++[.dict es]):=by
    rw[zbo,zap (v:=.tup (V.nats (rd l1 (k - 1) p))) rfl trivial,R.bind_ok,zap (v:=.ref h.length) rfl trivial,R.bind_ok];show R.opt (Option.map V.bool (match (h++[Cell.dict es])[h.length]? with|some (.dict es)=>_|_=>_)) _=_
    rw[cell_get];show R.opt (Option.map V.bool (if keyFit _ _=true then _ else _)) _=_;rw[d.fit];rfl
   have step:exSs true (run PP (n+1)) [.asg 5 (.bf .tuple (.call false "read_at" [.v 1,.bin .sub (.v 0) (.int 1),.v 4])),.ifs (.cmp .isin (.v 5) (.v 3)) [.ret (.tup [.v 4,.idx (.v 3) (.v 5)])] []] [.int k,w,x,.ref h.length,.int p,b] (h++[.dict es]) =
     exSs true (run PP (n+1)) [.ifs (.cmp .isin (.v 5) (.v 3)) [.ret (.tup [.v 4,.idx (.v 3) (.v 5)])] []] [.int k,w,x,.ref h.length,.int p,.tup (V.nats (rd l1 (k - 1) p))] (h++[.dict es]):=by
    rw[ss_cons',zli,wd (p:=p) rfl rfl rfl hw n1,R.st_ok,RS.then_next];rfl
   rw[step,ss_cons',zlh,ein,get];unfold fnd
   cases hf:(List.range l2.length).find? fun a=>decide (rd l2 (k - 1) a=rd l1 (k - 1) p) with
   |none=>exact .inl ⟨rfl,_,rfl,_,_,rfl⟩
   |some a =>
    rw[hf] at get;have ei:pyIdx (h++[.dict es]) (.ref h.length) (.tup (V.nats (rd l1 (k - 1) p)))=some (.int a):=by
     show(match (h++[Cell.dict es])[h.length]? with|some (.dict es)=>_|some (.list vs)=>_|none=>_)=_
     rw[cell_get];show(if keyFit _ _=true then _ else _)=_;rw[d.fit];exact get
    refine .inr ⟨.tup [.int p,.int a],[.int k,w,x,.ref h.length,.int p,.tup (V.nats (rd l1 (k - 1) p))],rfl,?_⟩;show((exSs true (run PP (n+1)) [.ret (.tup [.v 4,.idx (.v 3) (.v 5)])] [.int k,w,x,.ref h.length,.int p,.tup (V.nats (rd l1 (k - 1) p))] (h++[.dict es])).then _)=_;have et:evE true (run PP (n+1)) [.int k,w,x,.ref h.length,.int p,.tup (V.nats (rd l1 (k - 1) p))] (.idx (.v 3) (.v 5)) (h++[.dict es])=.ok (.int a) (h++[.dict es]):=by
     rw[zce,zap (v:=.ref h.length) rfl trivial,R.bind_ok,zap (v:=.tup (V.nats (rd l1 (k - 1) p))) rfl trivial,R.bind_ok,ei];rfl
    rw[ss_cons',zpT,zjv,zaa (v:=.int p) rfl (zaa et rfl),R.bind_ok];rfl
  have L:=zkk (h:=h++[.dict es]) (t:=Option.none) (bi:=bind1 4) (fun p:Nat=>V.int p) (fun p=>(fnd l2 (k - 1) (rd l1 (k - 1) p)).map fun a:Nat=>V.tup [.int (p:Int),.int (a:Int)]) (fun ρ=>∃ a b,ρ=[.int k,w,x,.ref h.length,a,b]) rfl (List.range l1.length) body [.int k,w,x,.ref h.length,v0,.uu] ⟨_,_,rfl⟩;have em:(List.range l1.length).findSome? (fun p=>(fnd l2 (k - 1) (rd l1 (k - 1) p)).map fun a:Nat=>V.tup [.int (p:Int),.int (a:Int)])=(mt l1 l2 (k - 1)).map fun q=>V.tup [.int q.1,.int q.2]:=by
   unfold mt;rw[←zkh]
   congr 1
   funext p
   rw[Option.map_map];rfl
  rw[em] at L;show(exSs true (run PP (n+1)) [.for1 4 (.range1 (.bf .len (.v 1))) _,.ret .none] _ _).out=_;rw[ss_cons',s_for1',zR (by decide),zaT (n:=l1.length) (by rw[zbs rfl hw,nats_length]) (zX b1 (by decide)),R.st_ok]
  show(RS.then (forL Option.none (bind1 4) _ ((List.range l1.length).map fun p:Nat=>V.int p) _ _) _).out=_
  cases hm:mt l1 l2 (k - 1) with
  |none =>
   rw[hm] at L
   rcases L with⟨_,ρ',e,_⟩|⟨v,_,e,_⟩
   ·rw[e];rfl
   ·cases e
  |some q =>
   rw[hm] at L
   rcases L with⟨e,_⟩|⟨v,ρ',e,e2⟩
   ·cases e
   ·cases e;rw[e2];rfl
 obtain⟨es,go⟩:=go;rw[go];refine zfg _ _ ?_
 cases mt l1 l2 (k - 1) with
 |none=>rfl
 |some q=>rfl
end
section
variable {n:Nat}{h:H}{F:Fn}{ρ:List V}
noncomputable def jn (l1 l2:List Nat) (p a:Nat):List Nat:=l1.take p++(l2.drop a++l2.take a)++l1.drop p
theorem zdW (ea:evE true F ρ a h=.ok (.l (V.nats x)) h) (eb:evE true F ρ b h=.ok (.l (V.nats y)) h) (hn:x.length+y.length≤1000000):evE true F ρ (.bin .add a b) h=.ok (.l (V.nats (x++y))) h:=by
 rw[zkX,ea,R.bind_ok,eb,R.bind_ok,addLL h _ _ (by rw[nats_length,nats_length];exact hn),zas];rfl
theorem zi5 (l:List Nat) (p:Nat):(l.take p).length+(l.drop p).length=l.length:=by rw[←zQ,take_append_drop]
theorem zhj:(jn l1 l2 p a).length=l1.length+l2.length:=by
 unfold jn;rw[zQ,zQ,zQ,Nat.add_right_comm,zi5,Nat.add_comm (l2.drop a).length,zi5]
theorem le4 (ha:a≤1000) (hb:b≤1000) (hc:c≤1000) (hd:d≤1000):a+b+c+d≤1000000:=zX (Nat.add_le_add (Nat.add_le_add (Nat.add_le_add ha hb) hc) hd) (by decide)
theorem le3 (ha:a≤1000) (hb:b≤1000) (hc:c≤1000):a+b+c≤1000000:=zX (Nat.add_le_add (Nat.add_le_add ha hb) hc) (by decide)
theorem le2 (ha:a≤1000) (hb:b≤1000):a+b≤1000000:=zX (Nat.add_le_add ha hb) (by decide)
theorem zd7 (l:List Nat) (p:Nat):(l.take p).length≤l.length:=by rw[length_take];exact Nat.min_le_right _ _
theorem zeH (l:List Nat) (p:Nat):(l.drop p).length≤l.length:=by rw[length_drop];exact Nat.sub_le _ _
theorem zh4 {w x:V}{l1 l2:List Nat}{p a:Nat}(h1:IsL h w l1) (h2:IsL h x l2) (b1:l1.length≤1000) (b2:l2.length≤1000):run PP (n+1) true "put_in" [w,x,.tup [.int p,.int a]] h=.ok (.ref h.length) (h++[.list (V.nats (jn l1 l2 p a))]):=by
 refine start zk2 rfl (ρ:=[w,x,.tup [.int p,.int a]]) rfl (zaQ ?_);have e0:evE true (run PP n) [w,x,.tup [.int p,.int a]] (.idx (.v 2) (.int 0)) h=.ok (.int p) h:=rfl;have e1:evE true (run PP n) [w,x,.tup [.int p,.int a]] (.idx (.v 2) (.int 1)) h=.ok (.int a) h:=rfl;have t1:=zX (zd7 l1 p) b1;have t2:=zX (zd7 l2 a) b2;have t3:=zX (zeH l1 p) b1;have t4:=zX (zeH l2 a) b2
 have v0:evE true (run PP n) [w,x,.tup [.int p,.int a]] (.v 0) h=.ok w h:=zap rfl h1.val;have v1:evE true (run PP n) [w,x,.tup [.int p,.int a]] (.v 1) h=.ok x h:=zap rfl h2.val;have all:=zdW (zdW (zdW (zji v0 h1 e0) (zcX v1 h2 e1) (le2 t1 t4)) (zji v1 h2 e1) (by rw[zQ];exact le3 t1 t4 t2)) (zcX v0 h1 e0) (by rw[zQ,zQ];exact le4 t1 t4 t2 t3)
 rw[show l1.take p++l2.drop a++l2.take a++l1.drop p=jn l1 l2 p a by unfold jn;simp only[yJ]] at all
 exact zc3 all
section
end
theorem zrR (e:mt l1 l2 z=some (p,a)):p < l1.length∧a < l2.length∧rd l2 z a=rd l1 z p:=by
 unfold mt at e;obtain⟨q,hq,e⟩:=List.exists_of_findSome?_eq_some e;obtain⟨b,hb,e⟩:=Option.map_eq_some_iff.1 e
 cases e
 unfold fnd at hb;exact⟨List.mem_range.1 hq,List.mem_range.1 (List.mem_of_find?_eq_some hb),by simpa using List.find?_some hb⟩
end
section
variable {n:Nat}{h:H}
inductive Rg (h:H):List V→List (List Nat)→Prop
 |nil:Rg h [] []
 |cons {v:V}{l:List Nat}{vs:List V}{ls:List (List Nat)}(hl:IsL h v l) (h0:0 < l.length) (hn:l.length≤256) (t:Rg h vs ls):Rg h (v::vs) (l::ls)
theorem Rg.len (r:Rg h vs ls):vs.length=ls.length:=by
 induction r with
 |nil=>rfl
 |cons _ _ _ _ ih=>rw[length_cons,length_cons,ih]
theorem Rg.get (r:Rg h vs ls):∀ {i:Nat},i < ls.length→∃ v,vs[i]?=some v∧IsL h v (ls.getD i [])∧0 < (ls.getD i []).length∧(ls.getD i []).length≤256:=by
 induction r with
 |nil=>intro i hi;exact absurd hi (Nat.not_lt_zero _)
 |cons hl h0 hn t ih =>
  intro i hi
  cases i with
  |zero=>exact⟨_,rfl,hl,h0,hn⟩
  |succ i =>
   obtain⟨v,e,r⟩:=ih (i:=i) (Nat.lt_of_succ_lt_succ hi);exact⟨v,e,r⟩
theorem Rg.erase (r:Rg h vs ls):∀ i:Nat,Rg h (vs.eraseIdx i) (ls.eraseIdx i):=by
 induction r with
 |nil=>intro i;exact .nil
 |cons hl h0 hn t ih =>
  intro i
  cases i with
  |zero=>exact t
  |succ i=>exact .cons hl h0 hn (ih i)
theorem Rg.app (r:Rg h vs ls) (e:H):Rg (h++e) vs ls:=by
 induction r with
 |nil=>exact .nil
 |cons hl h0 hn t ih=>exact .cons (hl.app e) h0 hn ih
noncomputable def fj (f:List Nat) (ls:List (List Nat)) (z:Nat):Option (Nat × Nat × Nat):=(List.range ls.length).findSome? fun i=>(mt f (ls.getD i []) z).map fun q=>(i,q)
noncomputable def fjV:Option (Nat × Nat × Nat)→V
 |some (i,p,a)=>.tup [.int i,.tup [.int p,.int a]]
 |none=>.none
theorem zoV (e:fj f ls z=some (i,p,a)):i < ls.length∧mt f (ls.getD i []) z=some (p,a):=by
 unfold fj at e;obtain⟨q,hq,e⟩:=List.exists_of_findSome?_eq_some e;obtain⟨b,hb,e⟩:=Option.map_eq_some_iff.1 e
 cases e
 exact⟨List.mem_range.1 hq,hb⟩
theorem zhs:∀ (m:Nat) (vs:List V),zaj m vs=(List.range vs.length).map fun i:Nat=>V.tup [.int ((m+i:Nat):Int),vs.getD i .none]
 |_,[]=>rfl
 |m,v::vs=>by
  rw[zaj,length_cons,List.range_succ_eq_map,yY,zhs (m+1) vs,map_map]
  congr 1
  refine map_congr_left fun i z=>?_;show V.tup [.int ((m+1+i:Nat):Int),vs.getD i .none]=V.tup [.int ((m+(i+1):Nat):Int),vs.getD i .none];rw[Nat.add_right_comm];rfl
noncomputable def fjB:List PS:=[
  .asg 5 (.call false "meeting" [.v 0,.v 1,.v 4]),
  .ifs (.cmp .isNot (.v 5) .none) [
   .ret (.tup [.v 3,.v 5])] []]
theorem zoX {w x y:V}{f l:List Nat}{k i:Nat}(h1:IsL h w f) (h2:IsL h x l) (n1:0 < f.length) (n2:0 < l.length) (b1:f.length≤256) (b2:l.length≤256) (hk:1≤k) (k8:k≤8){c:V} :
  ((mt f l (k - 1)).map (fun q=>V.tup [.int i,.tup [.int q.1,.int q.2]])=none∧exSs true (run PP (n+2)) fjB [.int k,w,y,.int i,x,c] h=.ok .next [.int k,w,y,.int i,x,.none] h) ∨
  ∃ v ρ',(mt f l (k - 1)).map (fun q=>V.tup [.int i,.tup [.int q.1,.int q.2]])=some v∧exSs true (run PP (n+2)) fjB [.int k,w,y,.int i,x,c] h=.ok (.ret v) ρ' h:=by
 have ec:=zaH (F:=run PP (n+2)) (ρ:=[.int k,w,y,.int i,x,c]) (f:="meeting") (zap (i:=0) (v:=.int k) rfl trivial) (zap (i:=1) rfl h1.val) (zap (i:=4) rfl h2.val) (zgt (n:=n) h1 h2 n1 n2 b1 b2 hk k8);have step:exSs true (run PP (n+2)) fjB [.int k,w,y,.int i,x,c] h=exSs true (run PP (n+2)) [.ifs (.cmp .isNot (.v 5) .none) [.ret (.tup [.v 3,.v 5])] []] [.int k,w,y,.int i,x,mtV (mt f l (k - 1))] h:=by
  unfold fjB;rw[ss_cons',zli,ec,R.st_ok,RS.then_next];rfl
 rw[step]
 cases mt f l (k - 1) with
 |none=>exact .inl ⟨rfl,rfl⟩
 |some q=>exact .inr ⟨_,_,rfl,rfl⟩
theorem zfM {w:V}{f:List Nat}{k c:Nat}{vs:List V}{ls:List (List Nat)}(h1:IsL h w f) (n1:0 < f.length) (b1:f.length≤256) (hc:h[c]?=some (.list vs)) (r:Rg h vs ls) (hk:1≤k) (k8:k≤8) :
  pcall h (run PP (n+3) true "first_joined" [.int k,w,.ref c] h)=.ok (fjV (fj f ls (k - 1))) h:=by
 have go:run PP (n+3) true "first_joined" [.int k,w,.ref c] h=.ok (fjV (fj f ls (k - 1))) h:=by
  refine start zdu rfl (ρ:=[.int k,w,.ref c,.uu,.uu,.uu]) rfl ?_;show(exSs true (run PP (n+2)) [.for2 3 4 (.enum (.v 2)) fjB,.ret .none] _ h).out=_;have hit:evIt true (run PP (n+2)) [.int k,w,.ref c,.uu,.uu,.uu] (.enum (.v 2)) h=.ok ((List.range vs.length).map (fun i:Nat=>V.tup [.int (i:Int),vs.getD i .none]),some (c,.list vs)) h:=by
   rw[zsb,zap (v:=.ref c) rfl trivial,R.bind_ok];show R.opt (match h[c]? with|some (.list vs)=>_|_=>_) h=_
   rw[hc];show R.ok (zaj 0 vs,some (c,Cell.list vs)) h=_;rw[zhs]
   congr 2
   refine map_congr_left fun i z=>?_;rw[Nat.zero_add]
  rw[ss_cons',zsa,zR (by decide),hit,R.st_ok]
  have L:=zkk (h:=h) (t:=some (c,.list vs)) (bi:=bind2 3 4) (body:=fun ρ h=>exSs true (run PP (n+2)) fjB ρ h) (fun i:Nat=>V.tup [.int (i:Int),vs.getD i .none]) (fun i=>(mt f (ls.getD i []) (k - 1)).map fun q=>V.tup [.int i,.tup [.int q.1,.int q.2]]) (fun ρ=>∃ a b c',ρ=[.int k,w,.ref c,a,b,c']) (zW hc) (List.range vs.length) (fun i hi ρ hρ=>by
   obtain⟨a,b,c',rfl⟩:=hρ;obtain⟨v,e,r1,r2,r3⟩:=r.get (i:=i) (by rw[←r.len];exact List.mem_range.1 hi)
   have e':vs.getD i .none=v:=by rw[List.getD_eq_getElem?_getD,e];rfl
   refine⟨[.int k,w,.ref c,.int i,v,c'],by rw[e'];rfl,?_⟩
   rcases zoX (n:=n) (i:=i) (y:=.ref c) h1 r1 n1 r2 b1 r3 hk k8 (c:=c') with⟨e1,e2⟩|⟨u0,ρ',e1,e2⟩
   ·exact .inl ⟨e1,_,e2,_,_,_,rfl⟩
   ·exact .inr ⟨u0,ρ',e1,e2⟩) [.int k,w,.ref c,.uu,.uu,.uu] ⟨_,_,_,rfl⟩
  have em:(List.range vs.length).findSome? (fun i=>(mt f (ls.getD i []) (k - 1)).map fun q=>V.tup [.int i,.tup [.int q.1,.int q.2]])=(fj f ls (k - 1)).map fun q=>V.tup [.int q.1,.tup [.int q.2.1,.int q.2.2]]:=by
   unfold fj;rw[←zkh,r.len]
   congr 1
   funext p
   rw[Option.map_map];rfl
  rw[em] at L
  cases hm:fj f ls (k - 1) with
  |none =>
   rw[hm] at L
   rcases L with⟨_,ρ',e,_⟩|⟨v,_,e,_⟩
   ·rw[e];rfl
   ·cases e
  |some q =>
   rw[hm] at L
   rcases L with⟨e,_⟩|⟨v,ρ',e,e2⟩
   ·cases e
   ·cases e;rw[e2];rfl
 rw[go]
 cases fj f ls (k - 1) with
 |none=>exact zan rfl h
 |some q=>exact zan rfl h
end
section
variable {n:Nat}{h:H}
noncomputable def tot (ls:List (List Nat)):Nat:=(ls.map List.length).sum
theorem ze1:∀ (ls:List (List Nat)) (i:Nat),i < ls.length→(ls.getD i []).length+tot (ls.eraseIdx i)=tot ls
 |[],_,hi=>absurd hi (Nat.not_lt_zero _)
 |l::ls,0,_=>by show l.length+tot ls=(l.length::ls.map List.length).sum;rw[sum_cons];rfl
 |l::ls,i+1,hi=>by
  have ih:=ze1 ls i (Nat.lt_of_succ_lt_succ hi);show(ls.getD i []).length+(l.length::(ls.eraseIdx i).map List.length).sum=(l.length::ls.map List.length).sum;rw[sum_cons,sum_cons,← Nat.add_assoc,Nat.add_comm _ l.length,Nat.add_assoc];exact congrArg _ ih
noncomputable def jall (z:Nat):Nat→List Nat→List (List Nat)→Option (List Nat)
 |0,f,_=>some f
 |m+1,f,ls=>match fj f ls z with
  |none=>none
  |some (i,p,a)=>jall z m (jn f (ls.getD i []) p a) (ls.eraseIdx i)
noncomputable def jT:PE:=.cmp .gt (.bf .len (.v 4)) (.int 0)
noncomputable def jB:List PS:=[
  .asg 5 (.call false "first_joined" [.v 0,.v 3,.v 4]),
  .ifs (.cmp .is (.v 5) .none) [
   .raise "NoJoin"] [],
  .asg 3 (.call true "put_in" [.v 3,.popAt (.v 4) (.idx (.v 5) (.int 0)),.idx (.v 5) (.int 1)])]
noncomputable abbrev Ej (k:Nat) (rv v2:V) (fa la:Nat) (v5 v6:V):List V:=[.int k,rv,v2,.ref fa,.ref la,v5,v6]
theorem zfe (hi:i < m):place m (i:Int)=some i:=by
 unfold place;rw[zT (Int.natCast_nonneg _),zT (Int.ofNat_lt.2 hi)];rfl
structure JS (h:H) (f:List Nat) (ls:List (List Nat)) (fa la:Nat) (e:H) (vs:List V):Prop where
 fc:(h++e)[fa]?=some (.list (V.nats f))
 lc:(h++e)[la]?=some (.list vs)
 ne:fa≠la
 lo:h.length≤la
 fo:h.length≤fa
 rg:Rg h vs ls
 f0:0 < f.length
 sum:f.length+tot ls≤256
theorem zqx {f:List Nat}{ls:List (List Nat)}{fa la:Nat}{e:H}{vs:List V}{k:Nat}{rv v2 v5 v6:V}(s:JS h f ls fa la e vs) (hk:1≤k) (k8:k≤8) (hf:fj f ls (k - 1)=none) :
  ∃ ρ',exSs true (run PP (n+3)) jB (Ej k rv v2 fa la v5 v6) (h++e)=.err "NoJoin" ρ' (h++e):=by
 have b1:f.length≤256:=zX (Nat.le_add_right _ _) s.sum;have ec:=zaH (F:=run PP (n+3)) (ρ:=Ej k rv v2 fa la v5 v6) (f:="first_joined") (zap (i:=0) (v:=.int k) rfl trivial) (zap (i:=3) (v:=.ref fa) rfl trivial) (zap (i:=4) (v:=.ref la) rfl trivial) (zfM (n:=n) (IsL.ref s.fc) s.f0 b1 s.lc (s.rg.app e) hk k8);rw[hf] at ec;refine⟨Ej k rv v2 fa la .none v6,?_⟩;unfold jB;rw[ss_cons',zli,ec];rfl
theorem zqw {f:List Nat}{ls:List (List Nat)}{fa la:Nat}{e:H}{vs:List V}{k i p a:Nat}{rv v2 v5 v6:V}(s:JS h f ls fa la e vs) (hk:1≤k) (k8:k≤8) (hf:fj f ls (k - 1)=some (i,p,a)) :
  ∃ fa' e' vs' v5',exSs true (run PP (n+3)) jB (Ej k rv v2 fa la v5 v6) (h++e)=.ok .next (Ej k rv v2 fa' la v5' v6) (h++e')∧JS h (jn f (ls.getD i []) p a) (ls.eraseIdx i) fa' la e' vs':=by
 have b1:f.length≤256:=zX (Nat.le_add_right _ _) s.sum;have ec:=zaH (F:=run PP (n+3)) (ρ:=Ej k rv v2 fa la v5 v6) (f:="first_joined") (zap (i:=0) (v:=.int k) rfl trivial) (zap (i:=3) (v:=.ref fa) rfl trivial) (zap (i:=4) (v:=.ref la) rfl trivial) (zfM (n:=n) (IsL.ref s.fc) s.f0 b1 s.lc (s.rg.app e) hk k8);rw[hf] at ec;obtain⟨hi,hm⟩:=zoV hf;obtain⟨v,hv,r1,r2,r3⟩:=s.rg.get hi;have iv:i < vs.length:=by rw[s.rg.len];exact hi
 have lt:la < (h++e).length:=(List.getElem?_eq_some_iff.1 s.lc).1;have hset:(h++e).set la (.list (vs.eraseIdx i))=h++e.set (la - h.length) (.list (vs.eraseIdx i)):=set_append_right _ _ s.lo;have hpop:evE true (run PP (n+3)) (Ej k rv v2 fa la (.tup [.int i,.tup [.int p,.int a]]) v6) (.popAt (.v 4) (.idx (.v 5) (.int 0))) (h++e)=.ok v (h++e.set (la - h.length) (.list (vs.eraseIdx i))):=by
  have hle:vs.length≤1000000:=by
   rw[s.rg.len];have:∀ xs:List V,∀ ys,Rg h xs ys→ys.length≤tot ys:=fun xs ys r=>by
    induction r with
    |nil=>exact Nat.le_refl _
    |cons _ h0 _ _ ih=>rw[length_cons,tot,yY,sum_cons,Nat.add_comm];exact Nat.add_le_add h0 ih
   exact zX (this _ _ s.rg) (zX (Nat.le_add_left _ _) (zX s.sum (by decide)))
  rw[zpW,zap (v:=.ref la) rfl trivial,R.bind_ok,zT (zbt s.lc),show evE true (run PP (n+3)) (Ej k rv v2 fa la (.tup [.int i,.tup [.int p,.int a]]) v6) (.idx (.v 5) (.int 0)) (h++e)=.ok (.int i) (h++e) from rfl,R.bind_ok];show onList (h++e) (.ref la) (fun vs=>(place vs.length (i:Int)).bind fun j=>(vs[j]?).map fun v=>(v,vs.eraseIdx j))=_;rw[za4 s.lc _ v (vs.eraseIdx i) (by rw[zfe iv];show(vs[i]?).map _=_;rw[hv];rfl) (zX (List.length_eraseIdx_le ..) hle),hset]
 generalize hE:e.set (la - h.length) (.list (vs.eraseIdx i))=e1 at hpop hset;have fc:(h++e1)[fa]?=some (.list (V.nats f)):=by rw[←hset,List.getElem?_set_ne (Ne.symm s.ne)];exact s.fc
 have lc:(h++e1)[la]?=some (.list (vs.eraseIdx i)):=by rw[←hset];exact List.getElem?_set_self lt
 have hput:=zh4 (n:=n+2) (p:=p) (a:=a) (IsL.ref fc) (r1.app e1) (zX b1 (by decide)) (zX r3 (by decide))
 refine⟨(h++e1).length,e1++[.list (V.nats (jn f (ls.getD i []) p a))],vs.eraseIdx i,.tup [.int i,.tup [.int p,.int a]],?_,?_⟩
 ·unfold jB
  rw[ss_cons',zli,ec,R.st_ok,RS.then_next];show exSs true (run PP (n+3)) [.ifs _ _ _,.asg 3 _] (Ej k rv v2 fa la (.tup [.int i,.tup [.int p,.int a]]) v6) (h++e)=_;rw[ss_cons',zlh,show evE true (run PP (n+3)) (Ej k rv v2 fa la (.tup [.int i,.tup [.int p,.int a]]) v6) (.cmp .is (.v 5) .none) (h++e)=.ok (.bool false) (h++e) from rfl,R.st_ok];show(exSs true (run PP (n+3)) [.asg 3 _] (Ej k rv v2 fa la (.tup [.int i,.tup [.int p,.int a]]) v6) (h++e))=_
  have args:evEs true (run PP (n+3)) (Ej k rv v2 fa la (.tup [.int i,.tup [.int p,.int a]]) v6) [.v 3,.popAt (.v 4) (.idx (.v 5) (.int 0)),.idx (.v 5) (.int 1)] (h++e)=.ok [.ref fa,v,.tup [.int p,.int a]] (h++e1):=by
   rw[zbn,zap (v:=.ref fa) rfl trivial,R.bind_ok,zbn,hpop];rfl
  rw[ss_cons',zli,za2,args,R.bind_ok];show(((run PP (n+3) true "put_in" [.ref fa,v,.tup [.int p,.int a]] (h++e1)).st _ _).then _)=_;rw[hput,yJ];rfl
 ·refine⟨?_,?_,?_,s.lo,by rw[zQ];exact Nat.le_add_right _ _,s.rg.erase i,by rw[zhj];exact Nat.lt_of_lt_of_le s.f0 (Nat.le_add_right _ _),?_⟩
  ·rw[←yJ];exact cell_get _ _
  ·rw[←yJ,List.getElem?_append_left (List.getElem?_eq_some_iff.1 lc).1];exact lc
  ·exact Nat.ne_of_gt (List.getElem?_eq_some_iff.1 lc).1
  ·rw[zhj,Nat.add_assoc,ze1 ls i hi];exact s.sum
theorem zna (hk:1≤k) (k8:k≤8):∀ (m:Nat) (f:List Nat) (ls:List (List Nat)) (fa:Nat) (e:H) (vs:List V) (v5:V) (N:Nat),ls.length=m→m < N→JS h f ls fa la e vs →
  match jall (k - 1) m f ls with
  |some l=>∃ fa' e' v5',whileL (fun ρ h=>evE true (run PP (n+3)) ρ jT h) (fun ρ h=>exSs true (run PP (n+3)) jB ρ h) N (Ej k rv v2 fa la v5 v6) (h++e)=.ok .next (Ej k rv v2 fa' la v5' v6) (h++e')∧(h++e')[fa']?=some (.list (V.nats l))∧h.length≤fa'
  |none=>∃ ρ' e',whileL (fun ρ h=>evE true (run PP (n+3)) ρ jT h) (fun ρ h=>exSs true (run PP (n+3)) jB ρ h) N (Ej k rv v2 fa la v5 v6) (h++e)=.err "NoJoin" ρ' (h++e')
 |m,f,ls,fa,e,vs,v5,0,_,hN,_=>absurd hN (Nat.not_lt_zero _)
 |m,f,ls,fa,e,vs,v5,N+1,hm,hN,s=>by
  have ht:evE true (run PP (n+3)) (Ej k rv v2 fa la v5 v6) jT (h++e)=.ok (.bool (decide (0 < (m:Int)))) (h++e):=by
   unfold jT;have:=zbs (F:=run PP (n+3)) (ρ:=Ej k rv v2 fa la v5 v6) (i:=4) rfl (zah s.lc);rw[s.rg.len,hm] at this;rw[zbo,this];rfl
  have step:whileL (fun ρ h=>evE true (run PP (n+3)) ρ jT h) (fun ρ h=>exSs true (run PP (n+3)) jB ρ h) (N+1) (Ej k rv v2 fa la v5 v6) (h++e)=if 0 < m then(exSs true (run PP (n+3)) jB (Ej k rv v2 fa la v5 v6) (h++e)).then fun ρ h'=>whileL (fun ρ h=>evE true (run PP (n+3)) ρ jT h) (fun ρ h=>exSs true (run PP (n+3)) jB ρ h) N ρ h' else .ok .next (Ej k rv v2 fa la v5 v6) (h++e):=by
   show((evE true (run PP (n+3)) (Ej k rv v2 fa la v5 v6) jT (h++e)).st _ _)=_;rw[ht]
   by_cases h0:0 < m
   ·rw[zT h0,zW (Int.natCast_pos.2 h0)];rfl
   ·rw[zR h0,zU (fun x=>h0 (Int.natCast_pos.1 x))];rfl
  rw[step]
  cases m with
  |zero=>exact⟨fa,e,v5,rfl,s.fc,s.fo⟩
  |succ m =>
   rw[zT (Nat.succ_pos m),jall]
   cases hf:fj f ls (k - 1) with
   |none =>
    obtain⟨ρ',e1⟩:=zqx (n:=n) (rv:=rv) (v2:=v2) (v5:=v5) (v6:=v6) s hk k8 hf;exact⟨ρ',e,by rw[e1];rfl⟩
   |some q =>
    obtain⟨i,p,a⟩:=q;obtain⟨fa',e',vs',v5',e1,s'⟩:=zqw (n:=n) (rv:=rv) (v2:=v2) (v5:=v5) (v6:=v6) s hk k8 hf;rw[e1,RS.then_next];exact zna  hk k8 m _ _ fa' e' vs' v5' N (by rw[List.length_eraseIdx,zT (zoV hf).1,hm];rfl) (Nat.lt_of_succ_lt_succ hN) s'
end
section
theorem znW {α:Type}(p q:Nat) (g:Nat→α) (hg:∀ j,g (p+q+j)=g j):((List.range (p+q)).map fun i=>g (p+i)).Perm ((List.range (p+q)).map g):=by
 have e1:(List.range (p+q)).map g=(List.range p).map g++(List.range q).map fun i=>g (p+i):=by
  rw[range_add,map_append,map_map];rfl
 have e2:((List.range (p+q)).map fun i=>g (p+i))=((List.range q).map fun i=>g (p+i))++(List.range p).map g:=by
  rw[Nat.add_comm p q,range_add,map_append,map_map]
  congr 1
  refine map_congr_left fun j z=>?_;show g (p+(q+j))=g j;rw[←Nat.add_assoc,hg]
 rw[e1,e2];exact perm_append_comm
theorem zpR (l:List Nat) (k i:Nat):rd l k (l.length+i)=rd l k i:=by
 unfold rd;refine map_congr_left fun t z=>?_;rw[Nat.add_assoc,Nat.add_mod_left]
theorem zgf (h0:0 < l.length) (p j:Nat):(rd l l.length p).getD (j % l.length) 0=l.getD ((p+j) % l.length) 0:=by
 have hj:=Nat.mod_lt j h0;rw[List.getD_eq_getElem?_getD];show((List.map _ (List.range l.length))[j % l.length]?).getD 0=_;rw[List.getElem?_map,List.getElem?_range hj];show l.getD ((p+j % l.length) % l.length) 0=_;rw[Nat.add_mod_mod]
theorem zpQ (h0:0 < l.length) (p k i:Nat):rd (rd l l.length p) k i=rd l k (p+i):=by
 unfold rd;refine map_congr_left fun t z=>?_;have:=zgf h0 p (i+t);unfold rd at this;rw[zJ,length_range,this,Nat.add_assoc]
theorem zef (hp:p < l.length) (k:Nat):(rws (rd l l.length p) k).Perm (rws l k):=by
 have h0:0 < l.length:=Nat.zero_lt_of_lt hp;obtain⟨q,hq⟩:=Nat.exists_eq_add_of_le (Nat.le_of_lt hp);unfold rws;rw[zaV];rw[show(List.range l.length).map (rd (rd l l.length p) k)=(List.range l.length).map fun i=>rd l k (p+i) from map_congr_left fun i z=>zpQ h0 p k i,hq];exact znW p q (rd l k) fun j=>by rw[←hq];exact zpR l k j
section
variable {x y:List Nat}{z:Nat}(hx:0 < x.length) (hy:0 < y.length) (H:∀ t,t < z→x.getD (t % x.length) 0=y.getD (t % y.length) 0)
include hx hy H
theorem zq4:∀ t,t < z→(x++y).getD (t % (x.length+y.length)) 0=x.getD (t % x.length) 0∧(x++y).getD ((x.length+t) % (x.length+y.length)) 0=y.getD (t % y.length) 0:=by
 have X:∀ t,t < x.length→(x++y).getD (t % (x.length+y.length)) 0=x.getD (t % x.length) 0:=fun t ht=>by
  rw[Nat.mod_eq_of_lt (Nat.lt_of_lt_of_le ht (Nat.le_add_right _ _)),Nat.mod_eq_of_lt ht,List.getD_eq_getElem?_getD,List.getElem?_append_left ht,List.getD_eq_getElem?_getD]
 have Y:∀ t,t < y.length→(x++y).getD ((x.length+t) % (x.length+y.length)) 0=y.getD (t % y.length) 0:=fun t ht=>by
  rw[Nat.mod_eq_of_lt (Nat.add_lt_add_left ht _),Nat.mod_eq_of_lt ht,List.getD_eq_getElem?_getD,List.getElem?_append_right (Nat.le_add_right _ _),Nat.add_sub_cancel_left,List.getD_eq_getElem?_getD]
 intro t
 induction t using Nat.strongRecOn with
 |_ t ih =>
  intro hz;refine⟨?_,?_⟩
  ·rcases Nat.lt_or_ge t x.length with h|h
   ·exact X t h
   ·obtain⟨t',rfl⟩:=Nat.exists_eq_add_of_le h
    have lt:t' < x.length+t':=Nat.lt_add_of_pos_left hx;have hz':=Nat.lt_trans lt hz;rw[(ih t' lt hz').2,← H t' hz',Nat.add_mod_left]
  ·rcases Nat.lt_or_ge t y.length with h|h
   ·exact Y t h
   ·obtain⟨t',rfl⟩:=Nat.exists_eq_add_of_le h
    have lt:t' < y.length+t':=Nat.lt_add_of_pos_left hy;have hz':=Nat.lt_trans lt hz;rw[←Nat.add_assoc,Nat.add_mod_left,(ih t' lt hz').1,H t' hz',Nat.add_mod_left]
theorem zq3 (hk:k≤z+1):(∀ i,i < x.length→rd (x++y) k i=rd x k i)∧∀ i,i < y.length→rd (x++y) k (x.length+i)=rd y k i:=by
 have X:∀ t,t < x.length→(x++y).getD (t % (x.length+y.length)) 0=x.getD (t % x.length) 0:=fun t ht=>by
  rw[Nat.mod_eq_of_lt (Nat.lt_of_lt_of_le ht (Nat.le_add_right _ _)),Nat.mod_eq_of_lt ht,List.getD_eq_getElem?_getD,List.getElem?_append_left ht,List.getD_eq_getElem?_getD]
 have Y:∀ t,t < y.length→(x++y).getD ((x.length+t) % (x.length+y.length)) 0=y.getD (t % y.length) 0:=fun t ht=>by
  rw[Nat.mod_eq_of_lt (Nat.add_lt_add_left ht _),Nat.mod_eq_of_lt ht,List.getD_eq_getElem?_getD,List.getElem?_append_right (Nat.le_add_right _ _),Nat.add_sub_cancel_left,List.getD_eq_getElem?_getD]
 have C:=zq4 hx hy H;refine⟨fun i hi=>?_,fun i hi=>?_⟩
 ·unfold rd
  refine map_congr_left fun s hs=>?_;have hs:=List.mem_range.1 hs;rw[zQ]
  rcases Nat.lt_or_ge (i+s) x.length with h|h
  ·exact X _ h
  ·obtain⟨t,ht⟩:=Nat.exists_eq_add_of_le h
   have tz:t < z:=Nat.lt_of_lt_of_le (Nat.lt_of_add_lt_add_left (by rw[←ht];exact Nat.add_lt_add_right hi s)) (Nat.le_of_lt_succ (Nat.lt_of_lt_of_le hs hk))
   rw[ht,(C t tz).2,Nat.add_mod_left,H t tz]
 ·unfold rd
  refine map_congr_left fun s hs=>?_;have hs:=List.mem_range.1 hs;rw[zQ,Nat.add_assoc]
  rcases Nat.lt_or_ge (i+s) y.length with h|h
  ·exact Y _ h
  ·obtain⟨t,ht⟩:=Nat.exists_eq_add_of_le h
   have tz:t < z:=Nat.lt_of_lt_of_le (Nat.lt_of_add_lt_add_left (by rw[←ht];exact Nat.add_lt_add_right hi s)) (Nat.le_of_lt_succ (Nat.lt_of_lt_of_le hs hk))
   rw[ht,← Nat.add_assoc,Nat.add_mod_left,(C t tz).1,Nat.add_mod_left,H t tz]
theorem zpb (hk:k≤z+1):rws (x++y) k=rws x k++rws y k:=by
 obtain⟨a,b⟩:=zq3 hx hy H hk;unfold rws;rw[zQ,range_add,map_append,map_map]
 congr 1
 ·exact map_congr_left fun i hi=>a i (List.mem_range.1 hi)
 ·exact map_congr_left fun i hi=>b i (List.mem_range.1 hi)
end
theorem zl1 (hk:1≤k) (hp:p < l1.length) (ha:a < l2.length) (e:rd l2 (k - 1) a=rd l1 (k - 1) p):(rws (jn l1 l2 p a) k).Perm (rws l1 k++rws l2 k):=by
 have n1:0 < l1.length:=Nat.zero_lt_of_lt hp;have n2:0 < l2.length:=Nat.zero_lt_of_lt ha;have hpJ:p < (jn l1 l2 p a).length:=by rw[zhj];exact Nat.lt_of_lt_of_le hp (Nat.le_add_right _ _)
 have hl:(l1.take p).length=p:=by rw[length_take,Nat.min_eq_left (Nat.le_of_lt hp)]
 have rot:rd (jn l1 l2 p a) (jn l1 l2 p a).length p=rd l2 l2.length a++rd l1 l1.length p:=by
  rw[zc0 _ p hpJ,zc0 l2 a ha,zc0 l1 p hp];unfold jn;rw[yJ (l1.take p),List.drop_left' hl,List.take_left' hl,yJ]
 have H:∀ t,t < k - 1→(rd l2 l2.length a).getD (t % (rd l2 l2.length a).length) 0=(rd l1 l1.length p).getD (t % (rd l1 l1.length p).length) 0:=fun t ht=>by
  rw[zaV,zaV,zgf n2,zgf n1];have:=congrArg (fun l=>l[t]?) e;simp only[rd,List.getElem?_map,List.getElem?_range ht,Option.map_some,Option.some.injEq] at this;exact this
 have c:=zpb (x:=rd l2 l2.length a) (y:=rd l1 l1.length p) (by rw[zaV];exact n2) (by rw[zaV];exact n1) H (k:=k) (by rw[Nat.sub_add_cancel hk];exact Nat.le_refl _)
 have r:=zef hpJ k;rw[rot,c] at r;exact r.symm.trans ((List.Perm.append (zef ha k) (zef hp k)).trans perm_append_comm)
theorem zdQ {α β:Type}(g:α→List β) (d:α):∀ (ls:List α) (i:Nat),i < ls.length→(ls.flatMap g).Perm (g (ls.getD i d)++(ls.eraseIdx i).flatMap g)
 |[],_,hi=>absurd hi (Nat.not_lt_zero _)
 |l::ls,0,_=>by rw[flatMap_cons];exact List.Perm.refl _
 |l::ls,i+1,hi=>by
  have ih:=zdQ g d ls i (Nat.lt_of_succ_lt_succ hi);show(List.flatMap g (l::ls)).Perm (g (ls.getD i d)++List.flatMap g (l::ls.eraseIdx i));rw[flatMap_cons,flatMap_cons];refine(List.Perm.append_left (g l) ih).trans ?_;rw[←yJ,← yJ];exact List.Perm.append_right _ perm_append_comm
end
noncomputable def Sq (r:List Nat) (p:Nat):Nat:=((List.range p).map fun q=>r.getD (q % r.length) 0).sum
section
variable {r:List Nat}{n T:Nat}
theorem zri:Sq r 0=0:=rfl
theorem zkU (p:Nat):Sq r (p+1)=Sq r p+r.getD (p % r.length) 0:=by
 unfold Sq;rw[range_succ,map_append,List.sum_append];rfl
theorem zr9 (p:Nat):Sq r (r.length+p)=Sq r r.length+Sq r p:=by
 induction p with
 |zero=>rfl
 |succ p ih=>rw[←Nat.add_assoc,zkU,ih,zkU,Nat.add_mod_left,Nat.add_assoc]
theorem zpl (j p:Nat):Sq r (j * r.length+p)=j * Sq r r.length+Sq r p:=by
 induction j with
 |zero=>rw[Nat.zero_mul,Nat.zero_mul,Nat.zero_add,Nat.zero_add]
 |succ j ih=>rw[Nat.succ_mul,Nat.add_comm (j * r.length),Nat.add_assoc,zr9,ih,Nat.succ_mul,Nat.add_comm (j * _) (Sq r r.length),Nat.add_assoc]
noncomputable def pr (n T:Nat):Nat:=((List.range n).find? fun j=>decide ((j+1) * T % n=0)).getD 0+1
structure Pr (n T m:Nat):Prop where
 pos:0 < m
 le:m≤n
 ends:m * T % n=0
 least:∀ j,0 < j→j < m→j * T % n≠0
theorem zbp (hn:0 < n):Pr n T (pr n T):=by
 unfold pr
 cases e:(List.range n).find? fun j=>decide ((j+1) * T % n=0) with
 |none =>
  have:=List.find?_eq_none.1 e (n - 1) (List.mem_range.2 (Nat.sub_lt hn Nat.one_pos));rw[Nat.sub_add_cancel hn,Nat.mul_mod_right] at this;exact absurd (zW rfl) this
 |some i =>
  obtain⟨h1,h2,h3⟩:=List.find?_range_eq_some.1 e;refine⟨Nat.succ_pos _,List.mem_range.1 h2,zV h1,fun j h0 hj q=>?_⟩;have:=h3 (j - 1) (by rw[Option.getD_some] at hj;exact Nat.sub_lt_right_of_lt_add h0 hj)
  rw[Nat.sub_add_cancel h0,zW q] at this
  cases this
noncomputable def cyc (n T a:Nat):List Nat:=(List.range (pr n T)).map fun j=>(a+j * T) % n
theorem zeJ (a:Nat):(cyc n T a).length=pr n T:=by rw[cyc,zJ,length_range]
theorem zbr (h:y % n=0):(x+y) % n=x % n:=by rw[Nat.add_mod,h,Nat.add_zero,Nat.mod_mod]
theorem zc7 (hn:0 < n):x∈cyc n T a↔∃ j,x=(a+j * T) % n:=by
 have P:=zbp (T:=T) hn;refine⟨fun h=>?_,fun⟨j,e⟩=>?_⟩
 ·obtain⟨j,_,rfl⟩:=yQ.1 h;exact⟨j,rfl⟩
 ·refine yQ.2 ⟨j % pr n T,List.mem_range.2 (Nat.mod_lt _ P.pos),?_⟩
  have e2:j * T=j % pr n T * T+pr n T * (j / pr n T) * T:=by rw[←Nat.add_mul,Nat.mod_add_div]
  rw[e,e2,← Nat.add_assoc,Nat.mul_right_comm];refine(zbr ?_).symm;rw[Nat.mul_mod,P.ends,Nat.zero_mul,Nat.zero_mod]
theorem zmy (hn:0 < n) (hs:s < n) (e:(s+j * T) % n=(a+i * T) % n):s∈cyc n T a:=by
 refine(zc7 hn).2 ⟨i+(n - 1) * j,?_⟩;have e1:s+j * T+(n - 1) * j * T=s+n * (j * T):=by
  obtain⟨m,rfl⟩:∃ m,n=m+1:=⟨n - 1,(Nat.sub_add_cancel hn).symm⟩;rw[Nat.add_sub_cancel,Nat.succ_mul,Nat.mul_assoc,Nat.add_assoc,Nat.add_comm (j * T)]
 rw[Nat.add_mul,← Nat.add_assoc,Nat.add_mod,← e,← Nat.add_mod,e1,Nat.add_mul_mod_self_left,Nat.mod_eq_of_lt hs]
theorem zq1 (hn:0 < n) (hi:i < j) (hj:j < pr n T):(a+i * T) % n≠(a+j * T) % n:=fun e=>by
 have P:=zbp (T:=T) hn;have:=Nat.sub_mod_eq_zero_of_mod_eq e.symm;rw[Nat.add_sub_add_left,← Nat.sub_mul] at this;exact P.least (j - i) (Nat.sub_pos_of_lt hi) (Nat.lt_of_le_of_lt (Nat.sub_le _ _) hj) this
noncomputable def chosen (n T:Nat):Nat→List Nat
 |0=>[]
 |s+1=>if s∈(chosen n T s).flatMap (cyc n T) then chosen n T s else chosen n T s++[s]
noncomputable def met (n T s:Nat):List Nat:=(chosen n T s).flatMap (cyc n T)
theorem zoq (hn:0 < n) (hs:s < n) (h:s ∉ met n T s):(s+j * T) % n ∉ met n T s:=fun hm=>by
 obtain⟨a,ha,hx⟩:=List.mem_flatMap.1 hm;obtain⟨i,e⟩:=(zc7 hn).1 hx;exact h (List.mem_flatMap.2 ⟨a,ha,zmy hn hs e⟩)
theorem zej (s:Nat):met n T (s+1)=if s∈met n T s then met n T s else met n T s++cyc n T s:=by
 unfold met;rw[chosen]
 by_cases h:s∈(chosen n T s).flatMap (cyc n T)
 ·rw[zT h,zT h]
 ·rw[zR h,zR h,List.flatMap_append,flatMap_cons,flatMap_nil,append_nil]
theorem zqi (hn:0 < n) (h:x∈met n T s):x < n:=by
 obtain⟨a,_,hx⟩:=List.mem_flatMap.1 h;obtain⟨j,rfl⟩:=(zc7 hn).1 hx;exact Nat.mod_lt _ hn
theorem zfp (hn:0 < n):∀ s,s≤n→(met n T s).Nodup
 |0,_=>List.nodup_nil
 |s+1,hs=>by
  have ih:=zfp hn s (Nat.le_of_succ_le hs);rw[zej]
  by_cases h:s∈met n T s
  ·rw[zT h];exact ih
  ·rw[zR h]
   refine List.nodup_append.2 ⟨ih,?_,fun x hx y hy e=>?_⟩
   ·refine List.pairwise_map.2 (List.Pairwise.imp_of_mem (fun {i j} hi hj h=>?_) List.pairwise_lt_range)
    exact zq1 hn h (List.mem_range.1 hj)
   ·obtain⟨j,rfl⟩:=(zc7 hn).1 hy
    subst e;exact zoq hn hs h hx
theorem zjO (hn:0 < n):∀ {x:Nat},x < s→s≤n→x∈met n T s:=by
 induction s with
 |zero=>exact fun h=>absurd h (Nat.not_lt_zero _)
 |succ s ih =>
  intro x hx hs;rw[zej]
  rcases Nat.lt_or_eq_of_le (Nat.le_of_lt_succ hx) with h|rfl
  ·have:=ih h (Nat.le_of_succ_le hs)
   by_cases c:s∈met n T s
   ·rw[zT c];exact this
   ·rw[zR c];exact mem_append_left _ this
  ·by_cases c:x∈met n T x
   ·rw[zT c];exact c
   ·rw[zR c]
    refine mem_append_right _ ((zc7 hn).2 ⟨0,?_⟩);rw[Nat.zero_mul,Nat.add_zero,Nat.mod_eq_of_lt hs]
theorem rounds (hn:0 < n):(chosen n T n).length * pr n T=n:=by
 have p:(met n T n).Perm (List.range n):=(List.perm_ext_iff_of_nodup (zfp hn n (Nat.le_refl _)) nodup_range).2 fun x=>⟨fun h=>List.mem_range.2 (zqi hn h),fun h=>zjO hn (List.mem_range.1 h) (Nat.le_refl _)⟩;have:=p.length_eq;rw[length_range,met,List.length_flatMap,show(fun a=>(cyc n T a).length)=fun z=>pr n T from funext zeJ,List.map_const',List.sum_replicate_nat] at this;exact this
noncomputable def at_ (n:Nat) (r:List Nat) (a p:Nat):Nat:=(a+Sq r p) % n
noncomputable def row (n:Nat) (r:List Nat) (a L:Nat):List Nat:=(List.range L).map (at_ n r a)
theorem zbm (a L:Nat):(row n r a L).length=L:=by rw[row,zJ,length_range]
theorem zle (a p:Nat):row n r a (p+1)=row n r a p++[at_ n r a p]:=by rw[row,range_succ,map_append];rfl
theorem zkJ (a p:Nat):at_ n r a (p+1)=(at_ n r a p+r.getD (p % r.length) 0) % n:=by
 unfold at_;rw[zkU,← Nat.add_assoc,Nat.mod_add_mod]
theorem zcM (a j:Nat):at_ n r a (j * r.length)=(a+j * Sq r r.length) % n:=by
 have:=zpl (r:=r) j 0;rw[Nat.add_zero,zri,Nat.add_zero] at this;unfold at_;rw[this]
noncomputable def rl (n:Nat) (r:List Nat):Nat:=pr n (Sq r r.length) * r.length
theorem zph (hn:0 < n) (a p:Nat):at_ n r a (rl n r+p)=at_ n r a p:=by
 unfold at_ rl;rw[zpl,← Nat.add_assoc,Nat.add_right_comm];exact zbr (zbp hn).ends
theorem zrd (hn:0 < n) (a p:Nat):at_ n r a (p % rl n r)=at_ n r a p:=by
 have key:∀ k q,at_ n r a (rl n r * k+q)=at_ n r a q:=fun k=>by
  induction k with
  |zero=>intro q;rw[Nat.mul_zero,Nat.zero_add]
  |succ k ih=>intro q;rw[Nat.mul_succ,Nat.add_assoc,ih,zph hn]
 have:=key (p / rl n r) (p % rl n r);rw[Nat.div_add_mod] at this;exact this.symm
end
section
variable {n:Nat}{h:H}{F:Fn}
theorem zqb {F:Fn}{e:PE}{ss:List PS}{ρ:List V}{b:Bool}{c:String}{r:R V}(he:evE true F ρ e h=if b then .ok .none h else .err c h) (k:b=true→(exSs true F ss ρ h).out=r):(exSs true F (.expr e::ss) ρ h).out=if b then r else .err c h:=by
 cases b
 ·exact zch he
 ·exact zaD he (k rfl)
end
section
variable {n:Nat}{h:H}{F:Fn}
theorem zjd (e:exS true F s ρ h=.ok .next ρ' h') (k:exSs true F ss ρ' h'=r):exSs true F (s::ss) ρ h=r:=by
 rw[ss_cons',e,RS.then_next];exact k
theorem znL (he:evE true F ρ e h=.ok v h') (hρ:ρ.set x v=ρ') (k:exSs true F ss ρ' h'=r):exSs true F (.asg x e::ss) ρ h=r:=by
 rw[ss_cons',zli,he,R.st_ok,RS.then_next,hρ];exact k
theorem zg2 (he:evE true F ρ e h=.ok .none h') (k:exSs true F ss ρ h'=r):exSs true F (.expr e::ss) ρ h=r:=by
 rw[ss_cons',zrw,he];exact k
theorem znJ (ht:evE true F ρ t h=.ok (.bool false) h) (k:exSs true F ss ρ h=r):exSs true F (.ifs t a []::ss) ρ h=r:=by
 rw[ss_cons',zlh,ht];exact k
theorem znI (ht:evE true F ρ t h=.ok (.bool true) h) (k:exSs true F (a++ss) ρ h=r):exSs true F (.ifs t a b::ss) ρ h=r:=by
 rw[ss_cons',zlh,ht,R.st_ok];rw[zb6] at k;exact k
theorem zih (r:List Nat):V.nats r=(List.range r.length).map fun i:Nat=>V.int ((r.getD i 0:Nat):Int):=by
 refine ext_getElem? fun i=>?_
 by_cases hi:i < r.length
 ·rw[List.getElem?_map,List.getElem?_range hi,V.nats,List.getElem?_map,zM hi]
  show some (V.int (r[i]:Nat))=some (V.int ((r.getD i 0:Nat):Int));rw[List.getD_eq_getElem?_getD,zM hi];rfl
 ·rw[List.getElem?_eq_none (by rw[nats_length];exact Nat.le_of_not_lt hi),List.getElem?_eq_none (by rw[zJ,length_range];exact Nat.le_of_not_lt hi)]
theorem zjl {m j i:Nat}(hi:i < m):(j * m+i) % m=i:=by rw[Nat.add_comm,Nat.add_mul_mod_self_right,Nat.mod_eq_of_lt hi]
theorem zpi {ρ:List V}{i k c:Nat}{l:List Nat}{d:Nat}(ei:ρ[i]?=some (.ref c)) (ek:ρ[k]?=some (.int d)) (hc:h[c]?=some (.list (V.nats l))) (hl:l.length≤1000):evE true F ρ (.append (.v i) (.v k)) h=.ok .none (h.set c (.list (V.nats (l++[d])))):=by
 rw[zlj,zap ei trivial,R.bind_ok,zT (zbt hc),zap ek trivial,R.bind_ok,za4 hc _ .none (V.nats (l++[d])) (by rw[zas];rfl) (by rw[nats_length,zQ];exact zX (Nat.succ_le_succ hl) (by decide))]
structure RB (n:Nat) (r:List Nat):Prop where
 n1:1≤n
 n9:n≤9
 r1:0 < r.length
 dig:∀ d∈r,d < n
 le:r.length * n≤256
theorem RB.rl (b:RB n r):rl n r≤256:=zX (Nat.mul_le_mul_right _ (zbp b.n1).le) (by rw[Nat.mul_comm];exact b.le)
theorem RB.len (b:RB n r):r.length≤256:=zX (Nat.le_mul_of_pos_right _ b.n1) b.le
theorem RB.before (b:RB n r) (hj:j < pr n (Sq r r.length)) (hi:i≤r.length):j * r.length+i≤256:=by
 refine zX (Nat.add_le_add_left hi _) (zX ?_ b.rl);rw[←Nat.succ_mul];exact Nat.mul_le_mul_right _ hj
section
variable {N:Nat}{r:List Nat}(b:RB N r){w:V}(hw:IsL h w r)
include b hw
theorem zda {a:Nat}(ha:a < N):run PP (n+1) true "lifted_from" [.int N,w,.int a] h=.ok (.ref h.length) (h++[.list (V.nats (row N r a (rl N r)))]):=by
 refine start zd8 rfl (ρ:=[.int N,w,.int a,.uu,.uu,.uu]) rfl ?_;refine zax (v:=.ref h.length) (h':=h++[.list []]) rfl (ρ':=[.int N,w,.int a,.ref h.length,.uu,.uu]) rfl ?_;refine zax (v:=.int a) (h':=h++[.list []]) rfl (ρ':=[.int N,w,.int a,.ref h.length,.int a,.uu]) rfl ?_;have Q:=zbp (T:=Sq r r.length) b.n1;have L:=zg6 (F:=run PP n) (h:=h++[.list []]) (t:=.or [.cmp .eq (.bf .len (.v 3)) (.int 0),.cmp .ne (.v 4) (.v 2)])
  (body:=[.for1 5 (.seq (.v 1)) [.expr (.append (.v 3) (.v 4)),.asg 4 (.bin .mod (.bin .add (.v 4) (.v 5)) (.v 0))]]) (ρ:=[.int N,w,.int a,.ref h.length,.int a,.uu])
  (fun j ρ g=>∃ v,ρ=[.int N,w,.int a,.ref h.length,.int ((at_ N r a (j * r.length):Nat):Int),v]∧g=h++[.list (V.nats (row N r a (j * r.length)))]) (pr N (Sq r r.length)) (zem (zX Q.le (zX b.n9 (by decide)))) ⟨.uu,by rw[zcM,Nat.zero_mul,Nat.add_zero,Nat.mod_eq_of_lt ha],by rw[Nat.zero_mul];rfl⟩ ?_ ?_
 ·obtain⟨ρ',g',e,v,rfl,rfl⟩:=L
  exact zhf e (zaQ rfl)
 ·rintro j ρ g hj ⟨v,rfl,rfl⟩
  refine⟨?_,?_⟩
  ·have e1:=zbs (F:=run PP n) (h:=h++[.list (V.nats (row N r a (j * r.length)))]) (ρ:=[.int N,w,.int a,.ref h.length,.int ((at_ N r a (j * r.length):Nat):Int),v]) (i:=3) rfl (zah (cell_get h (Cell.list (V.nats (row N r a (j * r.length))))))
   rw[nats_length,zbm] at e1;have c1:=zfQ (y:=0) e1 (b:=.int 0) rfl;have c2:=zpn (F:=run PP n) (h:=h++[.list (V.nats (row N r a (j * r.length)))]) (ρ:=[.int N,w,.int a,.ref h.length,.int ((at_ N r a (j * r.length):Nat):Int),v]) (a:=.v 4) (b:=.v 2) (t:=decide (((at_ N r a (j * r.length):Nat):Int)=a)) rfl rfl (pyEq_int _ _ _);rw[zgh,zmX,c1,R.bind_ok]
   cases j with
   |zero=>rw[Nat.zero_mul];rfl
   |succ j =>
    have h0:¬(((j+1) * r.length:Nat):Int)=0:=Int.natCast_ne_zero.2 (Nat.ne_of_gt (Nat.mul_pos (Nat.succ_pos j) b.r1));have h1:¬((at_ N r a ((j+1) * r.length):Nat):Int)=a:=fun q=>by
     have q:=Int.natCast_inj.1 q;rw[zcM] at q;have:=Nat.sub_mod_eq_zero_of_mod_eq (q.trans (Nat.mod_eq_of_lt ha).symm);rw[Nat.add_sub_cancel_left] at this;exact Q.least (j+1) (Nat.succ_pos j) hj this
    rw[zU h0];show evE true (run PP n) _ (.cmp .ne (.v 4) (.v 2)) _=_;rw[c2,zU h1];rfl
  ·obtain⟨t,ht,hto⟩:=zci hw
   have hit:evIt true (run PP n) [.int N,w,.int a,.ref h.length,.int ((at_ N r a (j * r.length):Nat):Int),v] (.seq (.v 1)) (h++[.list (V.nats (row N r a (j * r.length)))])=.ok ((List.range r.length).map (fun i:Nat=>V.int ((r.getD i 0:Nat):Int)),t) (h++[.list (V.nats (row N r a (j * r.length)))]):=by
    obtain⟨t',ht',_⟩:=zci (hw.app [.list (V.nats (row N r a (j * r.length)))]);have:iterOf (h++[.list (V.nats (row N r a (j * r.length)))]) w=some (V.nats r,t):=by
     rcases zad hw with rfl|⟨i,rfl,hc⟩
     ·rw[←ht];rfl
     ·rw[←ht]
      unfold iterOf;dsimp only;rw[List.getElem?_append_left (List.getElem?_eq_some_iff.1 hc).1]
    rw[zn5,zap (v:=w) rfl hw.val,R.bind_ok,this,zih];rfl
   obtain⟨ρ1,g1,e,v,rfl,rfl⟩:=zg7 (F:=run PP n) (x:=5) (body:=[.expr (.append (.v 3) (.v 4)),.asg 4 (.bin .mod (.bin .add (.v 4) (.v 5)) (.v 0))]) (fun q ρ g=>∃ v,ρ=[.int N,w,.int a,.ref h.length,.int ((at_ N r a (j * r.length+q.length):Nat):Int),v]∧g=h++[.list (V.nats (row N r a (j * r.length+q.length)))]) hit (fun q ρ g hi=>by obtain⟨v,_,rfl⟩:=hi;exact Watch.app hto _) ⟨v,rfl,rfl⟩ (fun q i q' ρ g hq hi=>by
     obtain⟨v,rfl,rfl⟩:=hi;obtain⟨rfl,hi⟩:=range_at hq;refine⟨_,_,?_,.int ((r.getD q.length 0:Nat):Int),rfl,rfl⟩;have le:=b.before hj (Nat.le_of_lt hi);rw[zQ,length_singleton,← Nat.add_assoc,zkJ,zjl hi,zle];generalize hp:j * r.length+q.length=p at le;have rl:(row N r a p).length≤1000:=by rw[zbm];exact zX le (by decide)
     refine zg2 (zpi (l:=row N r a p) (d:=at_ N r a p) (c:=h.length) rfl rfl (cell_get _ _) rl) ?_;rw[cell_set];exact znL ((zbw (x:=((at_ N r a p:Nat):Int)+((r.getD q.length 0:Nat):Int)) (y:=N) (zfT rfl rfl) rfl (Int.natCast_ne_zero.2 (Nat.ne_of_gt b.n1))).trans (by rw[←Int.natCast_add,zhn])) rfl rfl)
   rw[length_range,← Nat.succ_mul] at e;exact⟨_,_,zjd e rfl,v,rfl,rfl⟩
 ·rintro ρ g ⟨v,rfl,rfl⟩
  have e1:=zbs (F:=run PP n) (h:=h++[.list (V.nats (row N r a (pr N (Sq r r.length) * r.length)))]) (ρ:=[.int N,w,.int a,.ref h.length,.int ((at_ N r a (pr N (Sq r r.length) * r.length):Nat):Int),v]) (i:=3) rfl (zah (cell_get h (Cell.list (V.nats (row N r a (pr N (Sq r r.length) * r.length))))));rw[nats_length,zbm] at e1;have c1:=zfQ (y:=0) e1 (b:=.int 0) rfl;rw[zU (Int.natCast_ne_zero.2 (Nat.ne_of_gt (Nat.mul_pos Q.pos b.r1)))] at c1
  have c2:=zpn (F:=run PP n) (h:=h++[.list (V.nats (row N r a (pr N (Sq r r.length) * r.length)))]) (ρ:=[.int N,w,.int a,.ref h.length,.int ((at_ N r a (pr N (Sq r r.length) * r.length):Nat):Int),v]) (a:=.v 4) (b:=.v 2) (t:=decide (((at_ N r a (pr N (Sq r r.length) * r.length):Nat):Int)=a)) rfl rfl (pyEq_int _ _ _);have h1:((at_ N r a (pr N (Sq r r.length) * r.length):Nat):Int)=a:=by
   rw[zcM];exact congrArg _ ((zbr Q.ends).trans (Nat.mod_eq_of_lt ha))
  rw[zW h1] at c2;rw[zgh,zmX,c1,R.bind_ok];exact c2
end
end
section
variable {n:Nat}{h:H}{F:Fn}
noncomputable def HH (h:H) (c:Cell) (k:List (List Nat)):H:=h++(.list (refs (h.length+2) k.length)::c::cells k)
section
variable {c c':Cell}{k:List (List Nat)}
theorem znc:(HH h c k).length=h.length+2+k.length:=by
 rw[HH,zQ,length_cons,length_cons,cells,zJ];exact(congrArg (h.length+·) (Nat.add_comm k.length 2)).trans (Nat.add_assoc h.length 2 k.length).symm
theorem hh0:(HH h c k)[h.length]?=some (.list (refs (h.length+2) k.length)):=by
 rw[HH,List.getElem?_append_right (Nat.le_refl _),Nat.sub_self];rfl
theorem hh1:(HH h c k)[h.length+1]?=some c:=by
 rw[HH,List.getElem?_append_right (Nat.le_add_right _ _),Nat.add_sub_cancel_left];rfl
theorem hh2 (e:k[i]?=some x):(HH h c k)[h.length+2+i]?=some (.list (V.nats x)):=by
 rw[HH,Nat.add_assoc,List.getElem?_append_right (Nat.le_add_right _ _),Nat.add_sub_cancel_left,Nat.add_comm 2 i,List.getElem?_cons_succ,List.getElem?_cons_succ,cells,List.getElem?_map,e];rfl
theorem zqC:(HH h c k).set (h.length+1) c'=HH h c' k:=by
 rw[HH,HH,set_append_right _ _ (Nat.le_add_right _ _),Nat.add_sub_cancel_left];rfl
theorem zfa (b m:Nat):refs b (m+1)=refs b m++[.ref (b+m)]:=by rw[refs,range_succ,map_append];rfl
theorem zoK (x:List Nat):(HH h c k++[Cell.list (V.nats x)]).set h.length (Cell.list (refs (h.length+2) k.length++[V.ref (HH h c k).length]))=HH h c (k++[x]):=by
 rw[znc,← zfa,HH,HH,yJ,set_append_right _ _ (Nat.le_refl _),Nat.sub_self,zQ];show h++(_::c::(cells k++[.list (V.nats x)]))=h++(_::c::cells (k++[x]));rw[cells,cells,map_append];rfl
end
structure MI (M:List Nat) (es:List (V × V)):Prop where
 get:∀ x:Nat,(dfind (.int x) es).isSome=decide (x∈M)
 len:es.length≤M.length
 all:∀ e∈es,isI e.1=true
theorem zhv (k k' v:V):∀ es:List (V × V),(dfind k (dput k' v es)).isSome=(decide (k=k')||(dfind k es).isSome)
 |[]=>by
  show(if k=k' then some v else none).isSome=_
  by_cases e:k=k'<;>simp[e,dfind]
 |(k0,v0)::es=>by
  rw[dput]
  by_cases e:k'=k0
  ·rw[zT e,dfind,dfind]
   subst e
   by_cases e2:k=k'<;>simp[e2]
  ·rw[zR e,dfind,dfind]
   by_cases e2:k=k0
   ·simp[e2]
   ·rw[zR e2,zR e2];exact zhv k k' v es
theorem zhu:∀ {es:List (V × V)},(∀ e∈es,isI e.1=true)→∀ x:Nat,∀ e∈dput (.int x) (.bool true) es,isI e.1=true
 |[],_,x,e,he=>by rw[zK.1 he];rfl
 |(k',v')::es,h,x,e,he=>by
  rw[zfN] at he
  by_cases q:V.int x=k'
  ·rw[zT q] at he
   rcases zN.1 he with rfl|he
   ·exact h (k',v') (zZ ..)
   ·exact h e (zY _ he)
  ·rw[zR q] at he
   rcases zN.1 he with rfl|he
   ·exact h (k',v') (zZ ..)
   ·exact zhu (fun e he=>h e (zY _ he)) x e he
theorem MI.put (m:MI M es) (x:Nat):MI (M++[x]) (dput (.int x) (.bool true) es):=by
 refine⟨fun y=>?_,zX (zmw _ _ es) (by rw[zQ];exact Nat.succ_le_succ m.len),zhu m.all x⟩
 rw[zhv,m.get]
 by_cases e:y=x
 ·subst e;simp
 ·have:¬ V.int (y:Int)=V.int (x:Int):=fun q=>e (Int.natCast_inj.1 (V.int.inj q))
  simp[e,this]
theorem zig (ei:ρ[i]?=some (.int x)) (ej:ρ[j]?=some (.ref c)) (hc:h[c]?=some (.dict es)) (m:MI M es):evE true F ρ (.cmp .notIn (.v i) (.v j)) h=.ok (.bool (!decide (x∈M))) h:=by
 rw[zbo,zap ei trivial,R.bind_ok,zap ej trivial,R.bind_ok];show R.opt (Option.map V.bool (Option.map (!·) (match h[c]? with|some (.dict es)=>_|_=>_))) h=_
 rw[hc];show R.opt (Option.map V.bool (Option.map (!·) (if keyFit (.int x) es=true then some (dfind (.int x) es).isSome else none))) h=_;rw[zT (show keyFit (.int x) es=true from List.all_eq_true.2 m.all),m.get];rfl
theorem zis (hm:0 < m):fromBy 0 ((p * m:Nat):Int) m=(List.range p).map fun j:Nat=>V.int ((j * m:Nat):Int):=by
 unfold fromBy;have e:(((p * m:Nat):Int) - 0+m - 1)=((p * m+(m - 1):Nat):Int):=by rw[Int.sub_zero,Int.add_sub_assoc,Int.natCast_add];exact congrArg (((p * m:Nat):Int)+·) (Int.ofNat_sub hm).symm
 rw[e,zhq,Int.toNat_natCast,Nat.mul_comm p m,Nat.mul_add_div hm,Nat.div_eq_of_lt (Nat.sub_lt hm Nat.one_pos),Nat.add_zero];refine map_congr_left fun j z=>?_;rw[Int.zero_add,Int.natCast_mul]
theorem zdI (n:Nat):place (n+1) (-1)=some n:=by
 have e:(-1:Int)+((n+1:Nat):Int)=n:=by rw[Int.add_comm];exact Int.add_sub_cancel (n:Int) 1
 unfold place;rw[zR (by decide),e,zT (Int.natCast_nonneg n)];rfl
theorem zhl {ρ:List V}{i c:Nat}{vs:List V}{x:V}(ei:ρ[i]?=some (.ref c)) (hc:h[c]?=some (.list (vs++[x]))):evE true F ρ (.idx (.v i) (.neg 1)) h=.ok x h:=by
 rw[zce,zap ei trivial,R.bind_ok,zrx,R.bind_ok];show R.opt (match h[c]? with|some (.dict es)=>_|some (.list vs)=>_|none=>_) h=_
 rw[hc];show R.opt ((place (vs++[x]).length (-1)).bind fun j=>(vs++[x])[j]?) h=_;have:place (vs++[x]).length (-1)=some vs.length:=by rw[zQ];exact zdI _
 rw[this,Option.bind_some,List.getElem?_append_right (Nat.le_refl _),Nat.sub_self];rfl
section
variable {N:Nat}{r:List Nat}(b:RB N r){w:V}(hw:IsL h w r)
noncomputable abbrev El6 (N:Nat) (w:V) (h:H) (v4 v5:V):List V:=[.int N,w,.ref h.length,.ref (h.length+1),v4,v5]
theorem IsL.hh (hw:IsL h w r):IsL (HH h c k) w r:=hw.app _
noncomputable def inner:List PS:=[.setIdx (.v 3) (.idx (.idx (.v 2) (.neg 1)) (.v 5)) (.bool true)]
include b hw
theorem zlI {k:List (List Nat)}{s:Nat}{M:List Nat}{es:List (V × V)}(mi:MI M es) (hM:M.length≤900){v5:V} :
  ∃ v es',exS true F (.for1 5 (.range3 (.int 0) (.bf .len (.idx (.v 2) (.neg 1))) (.bf .len (.v 1))) inner) (El6 N w h (.int s) v5) (HH h (.dict es) (k++[row N r s (rl N r)]))=.ok .next (El6 N w h (.int s) v) (HH h (.dict es') (k++[row N r s (rl N r)]))∧MI (M++cyc N (Sq r r.length) s) es':=by
 have Q:=zbp (T:=Sq r r.length) b.n1;have last:∀ {es:List (V × V)},(HH h (.dict es) (k++[row N r s (rl N r)]))[h.length]?=some (.list (refs (h.length+2) k.length++[.ref (h.length+2+k.length)])):=fun {es}=>by
  rw[hh0,zQ,length_singleton,zfa]
 have cell:∀ {es:List (V × V)},(HH h (.dict es) (k++[row N r s (rl N r)]))[h.length+2+k.length]?=some (.list (V.nats (row N r s (rl N r)))):=fun {es}=>hh2 (by rw[List.getElem?_append_right (Nat.le_refl _),Nat.sub_self];rfl)
 have hit:evIt true F (El6 N w h (.int s) v5) (.range3 (.int 0) (.bf .len (.idx (.v 2) (.neg 1))) (.bf .len (.v 1))) (HH h (.dict es) (k++[row N r s (rl N r)]))=.ok ((List.range (pr N (Sq r r.length))).map (fun j:Nat=>V.int ((j * r.length:Nat):Int)),Option.none) (HH h (.dict es) (k++[row N r s (rl N r)])):=by
  have e1:evE true F (El6 N w h (.int s) v5) (.bf .len (.idx (.v 2) (.neg 1))) (HH h (.dict es) (k++[row N r s (rl N r)]))=.ok (.int (rl N r:Nat)) (HH h (.dict es) (k++[row N r s (rl N r)])):=by
   rw[ziM (f:=.len) rfl,zhl (c:=h.length) rfl last,R.bind_ok,zfr (zah cell),nats_length,zbm];rfl
  have e2:evE true F (El6 N w h (.int s) v5) (.bf .len (.v 1)) (HH h (.dict es) (k++[row N r s (rl N r)]))=.ok (.int r.length) (HH h (.dict es) (k++[row N r s (rl N r)])):=by
   have hw':IsL (HH h (.dict es) (k++[row N r s (rl N r)])) w r:=hw.app _;rw[zbs rfl hw',nats_length]
  rw[zsc,zpX,R.bind_ok,e1,R.bind_ok,e2,R.bind_ok];have l1:=b.rl;have l2:=b.len;show(if(-1000000:Int)≤0∧(0:Int)≤1000000∧(-1000000:Int)≤((rl N r:Nat):Int)∧((rl N r:Nat):Int)≤1000000 then rng3 0 ((rl N r:Nat):Int) ((r.length:Nat):Int) (HH h (.dict es) (k++[row N r s (rl N r)])) else R.bad)=_;rw[zT ⟨by decide,by decide,Int.le_trans (by decide) (Int.natCast_nonneg _),Int.ofNat_le.2 (zX l1 (by decide))⟩]
  unfold rng3;rw[zT ⟨Int.ofNat_lt.2 b.r1,Int.ofNat_le.2 (zX l2 (by decide))⟩]
  rw[show rl N r=pr N (Sq r r.length) * r.length from rfl,zis b.r1]
 have L:=zg7 (F:=F) (x:=5) (body:=inner) (fun q ρ g=>∃ v es',ρ=El6 N w h (.int s) v∧g=HH h (.dict es') (k++[row N r s (rl N r)])∧MI (M++(cyc N (Sq r r.length) s).take q.length) es') hit (fun z z z z=>rfl) ⟨v5,es,rfl,rfl,by rw[length_nil,take_zero,append_nil];exact mi⟩ (fun q j q' ρ g hq hi=>by
  obtain⟨v,es',rfl,rfl,mi'⟩:=hi;obtain⟨rfl,hj⟩:=range_at hq;have hlt:q.length * r.length < rl N r:=Nat.mul_lt_mul_of_pos_right hj b.r1;have ei:evE true F (El6 N w h (.int s) (.int ((q.length * r.length:Nat):Int))) (.idx (.idx (.v 2) (.neg 1)) (.v 5)) (HH h (.dict es') (k++[row N r s (rl N r)]))=.ok (.int (((s+q.length * Sq r r.length) % N:Nat):Int)) (HH h (.dict es') (k++[row N r s (rl N r)])):=by
   rw[zce,zhl (c:=h.length) rfl last,R.bind_ok,zap (v:=.int ((q.length * r.length:Nat):Int)) rfl trivial,R.bind_ok,IsL.idx (IsL.ref cell) (d:=at_ N r s (q.length * r.length)) (by rw[row,List.getElem?_map,List.getElem?_range hlt];rfl),zcM];rfl
  refine⟨El6 N w h (.int s) (.int ((q.length * r.length:Nat):Int)),HH h (.dict (dput (.int (((s+q.length * Sq r r.length) % N:Nat):Int)) (.bool true) es')) (k++[row N r s (rl N r)]),?_,_,_,rfl,rfl,?_⟩
  ·show exSs true F inner (El6 N w h (.int s) (.int ((q.length * r.length:Nat):Int))) _=_
   unfold inner;rw[ss_cons',zrt,zse,R.st_ok,zap (v:=.ref (h.length+1)) rfl trivial,R.st_ok,ei,R.st_ok];have hl:es'.length≤1000:=zX mi'.len (by rw[zQ,length_take];exact zX (Nat.add_le_add hM (zX (Nat.min_le_right ..) (by rw[zeJ];exact zX Q.le b.n9))) (by decide))
   have sd:seti (HH h (.dict es') (k++[row N r s (rl N r)])) (.ref (h.length+1)) (.int (((s+q.length * Sq r r.length) % N:Nat):Int)) (.bool true)=some (HH h (.dict (dput (.int (((s+q.length * Sq r r.length) % N:Nat):Int)) (.bool true) es')) (k++[row N r s (rl N r)])):=by
    show(match (HH h (.dict es') (k++[row N r s (rl N r)]))[h.length+1]? with|some (.list vs)=>_|some (.dict es)=>_|none=>_)=_
    rw[hh1];show(if(keyFit (.int (((s+q.length * Sq r r.length) % N:Nat):Int)) es'&&decide (es'.length≤1000))=true then some ((HH h (.dict es') (k++[row N r s (rl N r)])).set (h.length+1) (.dict (dput _ _ es'))) else none)=_;rw[zW hl,show keyFit (.int (((s+q.length * Sq r r.length) % N:Nat):Int)) es'=true from List.all_eq_true.2 mi'.all,zT (show(true&&true)=true from rfl),zqC]
   rw[sd];rfl
  ·have:=mi'.put ((s+q.length * Sq r r.length) % N)
   rw[yJ] at this;rw[zQ,length_singleton];have e:(cyc N (Sq r r.length) s).take (q.length+1)=(cyc N (Sq r r.length) s).take q.length++[(s+q.length * Sq r r.length) % N]:=by
    rw[List.take_succ,cyc,List.getElem?_map,List.getElem?_range hj];rfl
   rw[e];exact this)
 obtain⟨ρ',g',e,v,es',rfl,rfl,m⟩:=L;rw[length_range,take_of_length_le (Nat.le_of_eq (zeJ s))] at m;exact⟨v,es',e,m⟩
end
end
section
variable {n:Nat}{h:H}{F:Fn}
theorem zbG:∀ s,(chosen N T s).length≤s
 |0=>Nat.le_refl _
 |s+1=>by
  rw[chosen]
  split
  ·exact Nat.le_succ_of_le (zbG s)
  ·rw[zQ];exact Nat.succ_le_succ (zbG s)
theorem zor (hn:0 < N) (h9:N≤9) (hs:s≤N):(met N T s).length≤81:=by
 rw[met,List.length_flatMap,show(fun a=>(cyc N T a).length)=fun z=>pr N T from funext zeJ,List.map_const',List.sum_replicate_nat];exact Nat.mul_le_mul (zX (zbG s) (zX hs h9)) (zX (zbp hn).le h9)
noncomputable def rows (N:Nat) (r:List Nat) (l:List Nat):List (List Nat):=l.map fun a=>row N r a (rl N r)
theorem zjk (N:Nat) (r l:List Nat) (s:Nat):rows N r (l++[s])=rows N r l++[row N r s (rl N r)]:=by rw[rows,map_append];rfl
noncomputable def outer:List PS:=[
  .ifs (.cmp .notIn (.v 4) (.v 3)) [
   .expr (.append (.v 2) (.call true "lifted_from" [.v 0,.v 1,.v 4])),
   .for1 5 (.range3 (.int 0) (.bf .len (.idx (.v 2) (.neg 1))) (.bf .len (.v 1))) inner] []]
section
variable {N:Nat}{r:List Nat}(b:RB N r){w:V}(hw:IsL h w r)
include b hw
theorem zgw {s:Nat}(hs:s < N){es:List (V × V)}{v5:V}(m:MI (met N (Sq r r.length) s) es):∃ v es',exSs true (run PP (n+2)) outer (El6 N w h (.int s) v5) (HH h (.dict es) (rows N r (chosen N (Sq r r.length) s)))=.ok .next (El6 N w h (.int s) v) (HH h (.dict es') (rows N r (chosen N (Sq r r.length) (s+1))))∧MI (met N (Sq r r.length) (s+1)) es':=by
 have c:=zig (F:=run PP (n+2)) (h:=HH h (.dict es) (rows N r (chosen N (Sq r r.length) s))) (ρ:=El6 N w h (.int s) v5) (i:=4) (j:=3) (x:=s) rfl rfl hh1 m;have ml:=zor (T:=Sq r r.length) b.n1 b.n9 (Nat.le_of_lt hs);rw[zej,chosen]
 by_cases hm:s∈met N (Sq r r.length) s
 ·rw[zW hm] at c
  have hm':s∈(chosen N (Sq r r.length) s).flatMap (cyc N (Sq r r.length)):=hm;rw[zT hm,zT hm'];exact⟨v5,es,znJ c rfl,m⟩
 ·rw[zU hm] at c
  have hm':¬ s∈(chosen N (Sq r r.length) s).flatMap (cyc N (Sq r r.length)):=hm;rw[zR hm,zR hm',zjk];have kl:(rows N r (chosen N (Sq r r.length) s)).length≤900:=by rw[rows,zJ];exact zX (zbG s) (zX (Nat.le_of_lt hs) (zX b.n9 (by decide)))
  generalize rows N r (chosen N (Sq r r.length) s)=k at c kl;obtain⟨v,es',e,m'⟩:=zlI (F:=run PP (n+2)) (k:=k) (s:=s) b hw m (zX ml (by decide)) (v5:=v5)
  refine⟨v,es',znI c (zg2 (h':=HH h (.dict es) (k++[row N r s (rl N r)])) ?_ (zjd e rfl)),m'⟩;have lf:=zda (n:=n+1) (h:=HH h (.dict es) k) b (hw.app _) hs;have h0:(HH h (.dict es) k++[.list (V.nats (row N r s (rl N r)))])[h.length]?=some (.list (refs (h.length+2) k.length)):=by
   rw[List.getElem?_append_left (by rw[znc];exact Nat.lt_of_lt_of_le (Nat.lt_add_of_pos_right (Nat.succ_pos 1)) (Nat.le_add_right _ _))];exact hh0
  have args:evEs true (run PP (n+2)) (El6 N w h (.int s) v5) [.v 0,.v 1,.v 4] (HH h (.dict es) k)=.ok [.int N,w,.int s] (HH h (.dict es) k):=zaa rfl (zaa (zap rfl hw.val) rfl);rw[zlj,zap (v:=.ref h.length) rfl trivial,R.bind_ok,zT (zbt hh0),za2,args,R.bind_ok];show(R.bind (run PP (n+2) true "lifted_from" [.int N,w,.int s] (HH h (.dict es) k)) _)=_;rw[lf,R.bind_ok];rw[za4 h0 _ .none (refs (h.length+2) k.length++[.ref (HH h (.dict es) k).length]) rfl (by rw[zQ,refs,zJ,length_range];exact zX (Nat.succ_le_succ kl) (by decide)),zoK]
omit b hw in
theorem zjS {sg:Nat}(h1:1≤sg) (h9:sg≤9) (hw:okI h w){res:R V}(c:(exSs true (run PP (n+2)) (zeV.body.drop 2) [.int sg,w,.uu,.uu,.uu,.uu] h).out=res):run PP (n+3) true "lifted" [.int sg,w] h=if ringB sg h w then res else .err "BadRing" h:=by
 refine start zk3 rfl (ρ:=[.int sg,w,.uu,.uu,.uu,.uu]) rfl (zaD (h':=h) ?_ ?_)
 ·rw[zoo (n:=n) (z:=.int sg) rfl trivial,zpk h1 h9];rfl
 ·exact zqb (zm5 (n:=n) (sg:=sg) rfl rfl hw) fun y=>c
omit b in
theorem zik {v2 v3 v4 v5:V}(N:Nat) (h9:N≤9):evE true F [.int N,w,v2,v3,v4,v5] (.cmp .gt (.bin .mul (.bf .len (.v 1)) (.v 0)) (.glob "MOST_WORDS" 256)) h=.ok (.bool (decide (256 < r.length * N))) h:=by
 have e:=zmE (q:=true) (F:=F) (ρ:=[.int N,w,v2,v3,v4,v5]) (h:=h) (a:=.bf .len (.v 1)) (b:=.v 0) (x:=r.length) (y:=N) (by rw[zbs rfl hw,nats_length]) rfl (Nat.lt_of_le_of_lt h9 (by decide))
 rw[zbo,e,R.bind_ok,zrl,R.bind_ok,cmp_gt_int,← Int.natCast_mul];exact congrArg (fun b=>R.ok (V.bool b) h) (decide_eq_decide.2 (Int.ofNat_lt (n:=256)))
theorem zil:∃ es,run PP (n+3) true "lifted" [.int N,w] h=.ok (.ref h.length) (HH h (.dict es) (rows N r (chosen N (Sq r r.length) N))):=by
 obtain⟨ρ',g',e,v4,v5,es,rfl,rfl,_⟩:=zg7 (F:=run PP (n+2)) (h:=h++[.list [],.dict []]) (x:=4) (it:=.range1 (.v 0)) (body:=outer) (ρ:=El6 N w h .uu .uu) (t:=Option.none) (l:=List.range N) (c:=fun i:Nat=>V.int i)
  (fun q ρ g=>∃ v4 v5 es,ρ=El6 N w h v4 v5∧g=HH h (.dict es) (rows N r (chosen N (Sq r r.length) q.length))∧MI (met N (Sq r r.length) q.length) es) (zaT (n:=N) rfl (zX b.n9 (by decide))) (fun z z z z=>rfl) ⟨.uu,.uu,[],rfl,rfl,fun x=>rfl,Nat.le_refl _,fun z h=>nomatch h⟩ (fun q i q' ρ g hq hi=>by
   obtain⟨v4,v5,es,rfl,rfl,m⟩:=hi;obtain⟨rfl,hi⟩:=range_at hq;obtain⟨v,es',e,m'⟩:=zgw (n:=n) b hw  hi m (v5:=v5);rw[zQ,length_singleton];exact⟨_,_,e,_,v,es',rfl,rfl,m'⟩)
 rw[length_range] at e;refine⟨es,?_⟩;rw[zjS  b.n1 b.n9 (IsL.okI hw) (res:=.ok (.ref h.length) (HH h (.dict es) (rows N r (chosen N (Sq r r.length) N)))) (zaU ((zik hw N b.n9).trans (by rw[zU (Nat.not_lt_of_le b.le)])) ?_),znY hw b.r1 b.len b.dig]
 ·rfl
 ·refine zax (v:=.ref h.length) (h':=h++[.list []]) rfl (ρ':=[.int N,w,.ref h.length,.uu,.uu,.uu]) rfl ?_
  have fin:=zhf e (ss:=[.ret (.v 2)]) (zaQ (v:=.ref h.length) rfl);refine zax (v:=.ref (h.length+1)) (h':=h++[Cell.list [],Cell.dict []]) ?_ (ρ':=El6 N w h .uu .uu) rfl fin;show R.ok (V.ref (h++[Cell.list []]).length) (h++[Cell.list []]++[Cell.dict []])=_;rw[zQ,yJ];rfl
end
end
section
variable {n:Nat}{h:H}{F:Fn}
section
variable {c c':Cell}{k:List (List Nat)}{e:H}
end
section
variable {N:Nat}{r:List Nat}(b:RB N r){w:V}(hw:IsL h w r)
include b hw
theorem zqH:frz h.length (HH h c k) (.ref h.length)=some (.l (V.lists k)):=by
 show frzAt 4 h.length (HH h c k) h.length=_;rw[frzAt,zR (Nat.lt_irrefl _),hh0];show Option.map V.l (V.mapRefs (frzAt 3 h.length (HH h c k)) (refs (h.length+2) k.length))=_;rw[zfq _ _ k fun i hi=>zcl (zX (Nat.le_add_right ..) (Nat.le_add_right ..)) (hh2 (by rw[zM hi]))];rfl
end
end
section
variable {n:Nat}{h:H}
theorem zgu (ee:evE true F ρ e h=.ok v h) (hl:litems h v=some vs):evE true F ρ (.bf .list e) h=.ok (.l vs) h:=by
 rw[ziM (f:=.list) rfl,ee,R.bind_ok]
 rcases zad hl with rfl|⟨i,rfl,hc⟩
 ·rfl
 ·show R.opt (Option.map _ (match h[i]? with|some (.list vs)=>some vs|_=>Option.none)) h=_
  rw[hc];rfl
theorem slc1 (vs:List V) (h0:0 < vs.length):slc vs (some 1) Option.none=vs.drop 1:=by
 show(vs.take vs.length).drop (if(1:Int) < 0 then _ else min (1:Int).toNat vs.length)=_;rw[take_length,zR (by decide)]
 show vs.drop (min 1 vs.length)=_;rw[Nat.min_eq_left h0]
theorem zpo (l:List Nat):(zi l).sum=((l.sum:Nat):Int):=by
 induction l with
 |nil=>rfl
 |cons a l ih =>
  show((a:Int)::zi l).sum=_;rw[sum_cons,ih,sum_cons,Int.natCast_add]
theorem zpM (h:H):∀ {ls:List (List Nat)},(∀ l∈ls,0 < l.length)→(∀ l∈ls,l.length≤256)→Rg h (V.lists ls) ls
 |[],_,_=>.nil
 |l::ls,h0,h1=>.cons (IsL.lst h l) (h0 l (zZ ..)) (h1 l (zZ ..)) (zpM h (fun x hx=>h0 x (zY _ hx)) fun x hx=>h1 x (zY _ hx))
theorem zcD (l:List Nat) (ls:List (List Nat)):tot (l::ls)=l.length+tot ls:=by unfold tot;rw[yY,sum_cons]
theorem zmQ:∀ {ls:List (List Nat)}{l:List Nat},l∈ls→l.length≤tot ls
 |a::ls,l,hl=>by
  rw[zcD]
  rcases zN.1 hl with rfl|hl
  ·exact Nat.le_add_right ..
  ·exact zX (zmQ hl) (Nat.le_add_left ..)
theorem zjV:∀ {ls:List (List Nat)},(∀ l∈ls,0 < l.length)→ls.length≤tot ls
 |[],_=>Nat.le_refl _
 |a::ls,h=>by
  rw[zcD,length_cons,Nat.add_comm];exact Nat.add_le_add (h a (zZ ..)) (zjV fun l hl=>h l (zY _ hl))
theorem zpx (ea:evE true F ρ a h=.ok (.l (V.nats l)) h) (h1:l.length≤1000) (h2:∀ d∈l,d≤1000000):evE true F ρ (.bf .sum a) h=.ok (.int (l.sum:Nat)) h:=by
 rw[ziM (f:=.sum) rfl,ea,R.bind_ok];show R.opt ((asInts (V.nats l)).bind sumI) h=_;rw[zbW];show R.opt (sumI (zi l)) h=_;unfold sumI;rw[zT,zpo];rfl
 refine⟨?_,fun i hi=>?_⟩
 ·unfold zi;rw[zJ];exact h1
 ·obtain⟨d,hd,rfl⟩:=yQ.1 hi
  exact⟨Int.natCast_nonneg _,Int.ofNat_le.2 (h2 d hd)⟩
theorem zl0 (hk:1≤k) (k8:k≤8) (h0:∀ l∈l0::ls,0 < l.length) (h9:∀ l∈l0::ls,∀ d∈l,d < 9) (hs:tot (l0::ls)≤256) (hj:jall (k - 1) ls.length l0 ls=some l) :
  ∃ a e,run PP (n+4) true "joined_all" [.int k,.l (V.lists (l0::ls))] h=.ok (.ref a) (h++e)∧(h++e)[a]?=some (.list (V.nats l))∧h.length≤a:=by
 have hn:(l0::ls).length≤256:=zX (zjV h0) hs;have ln:∀ l∈l0::ls,l.length≤256:=fun l hl=>zX (zmQ hl) hs;have S:JS h l0 ls h.length (h.length+1) [.list (V.nats l0),.list (V.lists ls)] (V.lists ls):=by
  refine⟨?_,?_,Nat.ne_of_lt (Nat.lt_succ_self _),Nat.le_succ _,Nat.le_refl _,zpM h (fun x hx=>h0 x (zY _ hx)) (fun x hx=>ln x (zY _ hx)),h0 _ (zZ ..),by rw[←zcD];exact hs⟩
  ·rw[List.getElem?_append_right (Nat.le_refl _),Nat.sub_self];rfl
  ·rw[List.getElem?_append_right (Nat.le_add_right _ 1),Nat.add_sub_cancel_left];rfl
 have lt:ls.length < turns:=zem (zX (Nat.le_succ _) (zX hn (by decide)))
 have hl:litems h (.l (V.lists (l0::ls)))=some (V.lists (l0::ls)):=rfl;have e1:pcall h (run PP (n+3) true "need_size" [.int k] h)=.ok .none h:=by
  rw[zcx  (n+1) (.int k) h trivial,show among (.int k) 1 8=true from zhH (Int.ofNat_le.2 hk) (Int.ofNat_le.2 k8)];exact pcall_none h
 have c1:=zpm (zaK (zfH (F:=run PP (n+3)) (ρ:=[.int k,.l (V.lists (l0::ls)),.uu,.uu,.uu,.uu,.uu]) (h:=h) (a:=.v 1) (v:=.l (V.lists (l0::ls))) rfl hl)) (zfQ (y:=0) (zaO (a:=.v 1) (v:=.l (V.lists (l0::ls))) rfl hl) (b:=.int 0) rfl);rw[zU (show ¬ (((V.lists (l0::ls)).length:Nat):Int)=0 from Int.natCast_ne_zero.2 (Nat.succ_ne_zero _))] at c1;have L:=zna (n:=n) (h:=h) (rv:=.l (V.lists (l0::ls))) (v2:=.l (V.nats ((l0::ls).getLast (cons_ne_nil _ _)))) (v6:=.uu) (la:=h.length+1) hk k8 ls.length l0 ls h.length [.list (V.nats l0),.list (V.lists ls)] (V.lists ls) .uu turns rfl lt S
 rw[hj] at L;obtain⟨fa,e',v5,L,hc⟩:=L;refine⟨fa,e',?_,hc⟩;refine start ze4 rfl (ρ:=[.int k,.l (V.lists (l0::ls)),.uu,.uu,.uu,.uu,.uu]) rfl (zaD (h':=h) (zhA (a:=.v 0) (v:=.int k) rfl e1) (zaU (h':=h) c1 ?_));refine zfn (l:=l0::ls) (c:=fun l=>.l (V.nats l)) (fun p w=>[.int k,.l (V.lists (l0::ls)),(p.getLast?.map fun l=>V.l (V.nats l)).getD .uu,.uu,.uu,.uu,.uu]) (fun z=>h) .uu (zj7 (vs:=V.lists (l0::ls)) rfl) (fun z=>rfl) rfl rfl (fun p a q w hp=>?_) fun w=>?_
 ·have ha:a∈l0::ls:=by rw[hp];exact mem_append_right _ (zZ ..)
  rw[List.getLast?_append];exact(zd9 (h':=h) ((zkx (g:="MOST_SIGNS") (k:=9) (v:=.l (V.nats a)) rfl trivial).trans (ze9 (n:=n+1) (S:=9) (IsL.lst h a) (h0 a ha) (ln a ha) (h9 a ha)))).trans rfl
 ·rw[List.getLast?_cons,Option.map_some,Option.getD_some]
  have e0:(l0::ls).getLast (cons_ne_nil _ _)=ls.getLast?.getD l0:=by
   cases ls with
   |nil=>rfl
   |cons a ls=>rw[List.getLast_cons (cons_ne_nil _ _),List.getLast?_eq_some_getLast (cons_ne_nil a ls)];rfl
  rw[e0] at L;generalize V.l (V.nats (ls.getLast?.getD l0))=lv at *
  have ec:evE true (run PP (n+3)) [.int k,.l (V.lists (l0::ls)),lv,.uu,.uu,.uu,.uu] (.comp (.bf .len (.v 6)) 6 (.seq (.v 1)) .none) h=.ok (.l (V.nats ((l0::ls).map List.length))) h:=by
   refine zbk (l:=l0::ls) (c:=fun l=>.l (V.nats l)) (zj7 (vs:=V.lists (l0::ls)) rfl) rfl (fun l=>.int (l.length:Nat)) (fun l z=>?_) ?_
   ·have:=zaO (F:=run PP (n+3)) (ρ:=[.int k,.l (V.lists (l0::ls)),lv,.uu,.uu,.uu,.l (V.nats l)]) (h:=h) (a:=.v 6) (v:=.l (V.nats l)) rfl (litems_lst _ _)
    rw[nats_length] at this;exact this
   ·rw[show((l0::ls).map fun l:List Nat=>V.int (l.length:Nat))=V.nats ((l0::ls).map List.length) by unfold V.nats;rw[map_map];rfl,zaY (by rw[nats_length,zJ];exact zX hn (by decide))]
  have es:=zpx ec (by rw[zJ];exact zX hn (by decide)) fun d hd=>by
   obtain⟨x,hx,rfl⟩:=yQ.1 hd;exact zX (ln x hx) (by decide)
  refine zaU (h':=h) ?_ ?_
  ·rw[zbo,es,R.bind_ok,zrl,R.bind_ok]
   show R.opt (Option.map V.bool (pyCmp .gt h (.int (tot (l0::ls):Nat)) (.int 256))) h=_;rw[cmp_gt_int,zU (p:=(256:Int) < ((tot (l0::ls):Nat):Int)) (Int.not_lt.2 (Int.ofNat_le.2 hs))];rfl
  ·refine zax (zc3 (zgu (zqX (j:=0) (a:=.v 1) (v:=.l (V.lists (l0::ls))) rfl hl rfl) (litems_lst _ _))) (ρ':=[.int k,.l (V.lists (l0::ls)),lv,.ref h.length,.uu,.uu,.uu]) rfl ?_
   have es1:evE true (run PP (n+3)) [.int k,.l (V.lists (l0::ls)),lv,.ref h.length,.uu,.uu,.uu] (.slice (.v 1) (some (.int 1)) .none) (h++[.list (V.nats l0)])=.ok (.l (V.lists ls)) (h++[.list (V.nats l0)]):=by
    rw[zlm,zap (v:=.l (V.lists (l0::ls))) rfl trivial,R.bind_ok,zpU,zpX,R.bind_ok,R.bind_ok,zpV,R.bind_ok];show R.opt (some (V.l (slc (V.lists (l0::ls)) (some 1) Option.none))) _=_;rw[slc1 (V.lists (l0::ls)) (Nat.succ_pos _)];rfl
   refine zax (zc3 (zgu es1 rfl)) (ρ':=Ej k (.l (V.lists (l0::ls))) lv h.length (h.length+1) .uu .uu) (by rw[zQ];rfl) ?_
   rw[yJ];show(exSs true (run PP (n+3)) [.while jT jB,.ret (.v 3)] _ _).out=_;rw[ss_cons',zn4,zR (by decide)]
   show(RS.then (whileL (fun ρ h=>evE true (run PP (n+3)) ρ jT h) (fun ρ h=>exSs true (run PP (n+3)) jB ρ h) turns (Ej k (.l (V.lists (l0::ls))) lv h.length (h.length+1) .uu .uu) (h++[.list (V.nats l0),.list (V.lists ls)])) _).out=_;rw[L];rfl
end
noncomputable def num (S:Nat) (w:List Nat):Nat:=w.foldl (fun a d=>a * S+d) 0
section
variable {S Z:Nat}{w:List Nat}
theorem zcH (S:Nat) (w:List Nat) (d:Nat):num S (w++[d])=num S w * S+d:=List.foldl_append ..
def Wd (S Z:Nat) (w:List Nat):Prop:=w.length=Z∧∀ d∈w,d < S
theorem Wd.snoc (h:Wd S (Z+1) w):∃ u d,w=u++[d]∧Wd S Z u∧d < S:=by
 have ne:w≠[]:=fun e=>by rw[e] at h;exact Nat.succ_ne_zero _ h.1.symm
 refine⟨w.dropLast,w.getLast ne,(List.dropLast_concat_getLast ne).symm,⟨?_,fun d hd=>h.2 d ((List.dropLast_sublist w).mem hd)⟩,h.2 _ (List.getLast_mem ne)⟩;rw[List.length_dropLast,h.1];rfl
theorem znO (h:Wd S Z u) (hd:d < S):Wd S (Z+1) (u++[d]):=by
 refine⟨by rw[zQ,h.1];rfl,fun x hx=>?_⟩
 rcases zP.1 hx with hx|hx
 ·exact h.2 x hx
 ·rw[zK.1 hx];exact hd
theorem zm4:∀ {Z:Nat}{w:List Nat},Wd S Z w→num S w < S ^ Z
 |0,w,h=>by rw[eq_nil_of_length_eq_zero h.1];exact Nat.one_pos
 |Z+1,w,h=>by
  obtain⟨u,d,rfl,hu,hd⟩:=h.snoc;rw[zcH,Nat.pow_succ]
  calc num S u * S+d < num S u * S+S:=Nat.add_lt_add_left hd _
   _=(num S u+1) * S:=(Nat.succ_mul ..).symm
   _≤S ^ Z * S:=Nat.mul_le_mul_right _ (zm4 hu)
theorem zgW:∀ {Z:Nat}{w:List Nat},Wd S Z w→word S Z (num S w)=w
 |0,w,h=>by rw[eq_nil_of_length_eq_zero h.1];rfl
 |Z+1,w,h=>by
  obtain⟨u,d,rfl,hu,hd⟩:=h.snoc;have h0:0 < S:=Nat.lt_of_le_of_lt (Nat.zero_le _) hd;rw[zcH,ze0,Nat.mul_comm,Nat.mul_add_div h0,Nat.div_eq_of_lt hd,Nat.add_zero,Nat.mul_add_mod,Nat.mod_eq_of_lt hd,zgW hu]
theorem zhh:∀ {Z k:Nat},k < S ^ Z→num S (word S Z k)=k
 |0,k,h=>by
  rw[Nat.pow_zero,Nat.lt_one_iff] at h;rw[h];rfl
 |Z+1,k,h=>by
  rw[ze0,zcH,zhh (Z:=Z) (k:=k / S) (Nat.div_lt_of_lt_mul (by rw[Nat.mul_comm,← Nat.pow_succ];exact h)),Nat.mul_comm]
  exact Nat.div_add_mod k S
theorem zaB (hS:0 < S):w∈words S Z↔Wd S Z w:=by
 unfold words;rw[yQ];exact⟨fun⟨k,_,e⟩=>e ▸ ⟨zcS S Z k,znw hS Z k⟩,fun h=>⟨num S w,List.mem_range.2 (zm4 h),zgW h⟩⟩
theorem zeZ:(words S Z).map (num S)=List.range (S ^ Z):=by
 unfold words;rw[map_map];exact(map_congr_left fun k hk=>zhh (List.mem_range.1 hk)).trans (map_id _)
theorem zaS:(words S Z).Nodup:=by
 have:((words S Z).map (num S)).Nodup:=by rw[zeZ];exact nodup_range
 exact List.Pairwise.imp (fun {a b} ne q=>ne (congrArg _ q)) (List.pairwise_map.1 this)
theorem zar:(words S Z).length=S ^ Z:=by unfold words;rw[zJ,length_range]
end
section
variable {l:List Nat}{S Z:Nat}
theorem zrk (l:List Nat) (z p:Nat):rd l (z+1) p=rd l z p++[l.getD ((p+z) % l.length) 0]:=by
 unfold rd;rw[range_succ,map_append];rfl
theorem zrr (l:List Nat) (z p:Nat):rd l (z+1) p=l.getD (p % l.length) 0::rd l z (p+1):=by
 unfold rd;rw[List.range_succ_eq_map,yY,map_map];refine congrArg _ (map_congr_left fun t y=>?_);show l.getD ((p+(t+1)) % l.length) 0=l.getD ((p+1+t) % l.length) 0;rw[Nat.add_assoc,Nat.add_comm 1 t]
theorem zjq (l:List Nat) (z p:Nat):rd l z (p % l.length)=rd l z p:=by
 unfold rd;refine map_congr_left fun t y=>?_;rw[Nat.mod_add_mod]
theorem zc6 (h0:0 < l.length) (z p:Nat):rd l z p∈rws l z:=by
 rw[←zjq];exact yQ.2 ⟨_,List.mem_range.2 (Nat.mod_lt _ h0),rfl⟩
theorem zdK (h:w∈rws l z):∃ p,p < l.length∧rd l z p=w:=by
 obtain⟨p,hp,e⟩:=yQ.1 h;exact⟨p,List.mem_range.1 hp,e⟩
theorem zmh (h0:0 < l.length) (p:Nat):l.getD (p % l.length) 0∈l:=by
 have:=Nat.mod_lt p h0;rw[List.getD_eq_getElem?_getD,zM this];exact getElem_mem this
theorem zn1 (h0:0 < l.length) (hd:∀ d∈l,d < S) (z p:Nat):Wd S z (rd l z p):=by
 refine⟨zaV l z p,fun d h=>?_⟩;obtain⟨t,_,rfl⟩:=yQ.1 h;exact hd _ (zmh h0 _)
structure Full (S Z:Nat) (l:List Nat):Prop where
 len:l.length=S ^ Z
 lt:∀ d∈l,d < S
 nd:(rws l Z).Nodup
theorem Full.pos (f:Full S Z l) (hS:0 < S):0 < l.length:=by rw[f.len];exact Nat.pow_pos hS
theorem Full.perm (f:Full S Z l) (hS:0 < S):(rws l Z).Perm (words S Z):=by
 refine(zbH f.nd (fun w hw=>?_) ?_).symm
 ·obtain⟨p,_,rfl⟩:=zdK hw
  exact(zaB hS).2 (zn1 (f.pos hS) f.lt Z p)
 ·rw[zar,zaM,f.len]
theorem Full.of (hS:0 < S) (p:(rws l (Z+1)).Perm (words S (Z+1))):Full S (Z+1) l:=by
 have e:l.length=S ^ (Z+1):=by rw[←zaM l (Z+1),p.length_eq,zar]
 have h0:0 < l.length:=by rw[e];exact Nat.pow_pos hS
 refine⟨e,fun d hd=>?_,p.nodup_iff.2 zaS⟩;obtain⟨i,hi,rfl⟩:=getElem_of_mem hd;have:=((zaB hS).1 (p.mem_iff.1 (zc6 h0 (Z+1) i))).2 (l.getD (i % l.length) 0) (by rw[zrr];exact zZ ..)
 rw[Nat.mod_eq_of_lt hi,List.getD_eq_getElem?_getD,zM hi] at this;exact this
theorem Full.at (f:Full S Z l) (hS:0 < S) (hw:Wd S Z w):∃ p,p < l.length∧rd l Z p=w:=zdK ((f.perm hS).mem_iff.2 ((zaB hS).2 hw))
end
section
variable {N Z:Nat}{r:List Nat}
theorem zjm (hN:0 < N) (hr:0 < r.length):0 < rl N r:=Nat.mul_pos (zbp hN).pos hr
theorem zpL (hN:0 < N) (hr:0 < r.length) (a k p:Nat):rd (row N r a (rl N r)) k p=(List.range k).map fun t=>at_ N r a (p+t):=by
 unfold rd;refine map_congr_left fun t z=>?_;rw[zbm,← zrd hN a (p+t)];have:=Nat.mod_lt (p+t) (zjm hN hr);unfold row;rw[List.getD_eq_getElem?_getD,List.getElem?_map,List.getElem?_range this];rfl
theorem zlH (hg:g < N):((g+(N - s % N)) % N+s) % N=g:=by
 have h:=Nat.mod_lt s (Nat.lt_of_le_of_lt (Nat.zero_le _) hg);rw[Nat.mod_add_mod,← Nat.add_mod_mod,Nat.add_assoc,Nat.sub_add_cancel (Nat.le_of_lt h),Nat.add_mod_right,Nat.mod_eq_of_lt hg]
theorem zlG (hx:x < N) (hy:y < N):(x+(y+N - x) % N) % N=y:=by
 rw[Nat.add_mod_mod,Nat.add_sub_of_le (zX (Nat.le_of_lt hx) (Nat.le_add_left N y)),Nat.add_mod_right,Nat.mod_eq_of_lt hy]
theorem Full.lift (f:Full N Z r) (hN:0 < N) (hw:Wd N (Z+1) w):∃ a∈chosen N (Sq r r.length) N,w∈rws (row N r a (rl N r)) (Z+1):=by
 have h0:=f.pos hN;have g:∀ t,t < Z+1→w.getD t 0 < N:=fun t ht=>by
  rw[←hw.1] at ht;rw[List.getD_eq_getElem?_getD,zM ht];exact hw.2 _ (getElem_mem ht)
 obtain⟨q,hq,eq⟩:=f.at hN (w:=(List.range Z).map fun t=>(w.getD (t+1) 0+N - w.getD t 0) % N) ⟨by rw[zJ,length_range],fun d hd=>by
  obtain⟨t,_,rfl⟩:=yQ.1 hd;exact Nat.mod_lt _ hN⟩
 have st:∀ t,t < Z→r.getD ((q+t) % r.length) 0=(w.getD (t+1) 0+N - w.getD t 0) % N:=fun t ht=>by
  have:=congrArg (fun l=>l[t]?) eq;simp only[rd,List.getElem?_map,List.getElem?_range ht,Option.map_some,Option.some.injEq] at this;exact this
 have hx:=zjO (T:=Sq r r.length) hN (Nat.mod_lt (w.getD 0 0+(N - Sq r q % N)) hN) (Nat.le_refl N);obtain⟨a,ha,hx⟩:=List.mem_flatMap.1 hx;obtain⟨j,_,ej⟩:=yQ.1 hx;refine⟨a,ha,?_⟩;have all:∀ t,t < Z+1→at_ N r a (j * r.length+q+t)=w.getD t 0:=fun t=>by
  induction t with
  |zero =>
   intro _;unfold at_;rw[Nat.add_zero,zpl,← Nat.add_assoc,← Nat.mod_add_mod,ej];exact zlH (g 0 (Nat.succ_pos _))
  |succ t ih =>
   intro ht;have ht':=Nat.lt_of_succ_lt_succ ht;rw[←Nat.add_assoc,zkJ,ih (Nat.lt_of_succ_lt ht),Nat.add_assoc,Nat.mul_comm j,Nat.mul_add_mod,st t ht'];exact zlG (g t (Nat.lt_of_succ_lt ht)) (g (t+1) ht)
 have e:rd (row N r a (rl N r)) (Z+1) (j * r.length+q)=w:=by
  rw[zpL hN h0];refine ext_getElem? fun t=>?_;rw[List.getElem?_map]
  by_cases ht:t < Z+1
  ·rw[List.getElem?_range ht,Option.map_some,all t ht,List.getD_eq_getElem?_getD,zM (by rw[hw.1];exact ht)];rfl
  ·rw[List.getElem?_eq_none (by rw[length_range];exact Nat.le_of_not_lt ht),List.getElem?_eq_none (by rw[hw.1];exact Nat.le_of_not_lt ht)];rfl
 rw[←e];exact zc6 (by rw[zbm];exact zjm hN h0) _ _
theorem zfL {α β:Type}{g:α→List β}:∀ {l:List α},(∀ a∈l,(g a).length=n)→(l.flatMap g).length=l.length * n
 |[],_=>by rw[flatMap_nil,length_nil,length_nil,Nat.zero_mul]
 |a::l,h=>by rw[flatMap_cons,zQ,h a (zZ ..),zfL fun b hb=>h b (zY _ hb),length_cons,Nat.succ_mul,Nat.add_comm]
theorem Full.lifted (f:Full N Z r) (hN:0 < N):((rows N r (chosen N (Sq r r.length) N)).flatMap fun l=>rws l (Z+1)).Perm (words N (Z+1)):=by
 refine zbH zaS (fun w hw=>?_) ?_
 ·obtain⟨a,ha,h⟩:=f.lift hN ((zaB hN).1 hw)
  exact List.mem_flatMap.2 ⟨_,yQ.2 ⟨a,ha,rfl⟩,h⟩
 ·rw[zfL (n:=rl N r) fun l hl=>by
   obtain⟨a,_,rfl⟩:=yQ.1 hl;rw[zaM,zbm],zar]
  unfold rows rl;rw[zJ,← Nat.mul_assoc,rounds hN,f.len,Nat.pow_succ,Nat.mul_comm]
end
section
variable {S Z:Nat}{f:List Nat}{ls:List (List Nat)}
theorem zkm (e:fj f ls Z=none) (hl:l∈ls) (hp:p < f.length) (ha:a < l.length):rd l Z a≠rd f Z p:=fun q=>by
 obtain⟨i,hi,rfl⟩:=getElem_of_mem hl;unfold fj at e;have:=List.findSome?_eq_none_iff.1 e i (List.mem_range.2 hi);rw[List.getD_eq_getElem?_getD,zM hi,Option.getD_some,Option.map_eq_none_iff] at this;unfold mt at this;have:=List.findSome?_eq_none_iff.1 this p (List.mem_range.2 hp);rw[Option.map_eq_none_iff] at this;unfold fnd at this;have:=List.find?_eq_none.1 this a (List.mem_range.2 ha)
 exact this (zW q)
theorem zoT (hS:0 < S) (P:(rws f (Z+1)++ls.flatMap fun l=>rws l (Z+1)).Perm (words S (Z+1))) (f0:0 < f.length) (l0:∀ l∈ls,0 < l.length) (hne:ls≠[]):fj f ls Z≠none:=fun e=>by
 have wdf:∀ p,Wd S (Z+1) (rd f (Z+1) p):=fun p=>(zaB hS).1 (P.mem_iff.1 (mem_append_left _ (zc6 f0 _ _)));have cut:∀ {u:List Nat}{d:Nat},Wd S (Z+1) (u++[d])→Wd S Z u:=fun {u d} h=>⟨by have:=h.1;rw[zQ] at this;exact Nat.succ.inj this,fun x hx=>h.2 x (mem_append_left _ hx)⟩
 have step:∀ p d,d < S→∃ p',rd f Z p'=(rd f Z p++[d]).tail:=fun p d hd=>by
  have w:=wdf p;rw[zrk] at w;have hm:=P.mem_iff.2 ((zaB hS).2 (znO (cut w) hd))
  rcases zP.1 hm with h|h
  ·obtain⟨p',_,e'⟩:=zdK h
   refine⟨p'+1,?_⟩;rw[←e',zrr];rfl
  ·obtain⟨l,hl,h⟩:=List.mem_flatMap.1 h
   obtain⟨a,ha,e'⟩:=zdK h;rw[zrk] at e';have e':=(List.append_inj e' (by rw[zaV,zaV])).1
   have:=zkm e hl (Nat.mod_lt p f0) ha;rw[zjq] at this;exact absurd e' this
 have reach:∀ v:List Nat,Wd S Z v→∀ i,i≤Z→∃ p,rd f Z p=(rd f Z 0).drop i++v.take i:=fun v hv i=>by
  induction i with
  |zero=>intro _;exact⟨0,by rw[drop_zero,take_zero,append_nil]⟩
  |succ i ih =>
   intro hi;obtain⟨p,ep⟩:=ih (Nat.le_of_lt hi);have hiv:i < v.length:=by rw[hv.1];exact hi
   have hid:i < (rd f Z 0).length:=by rw[zaV];exact hi
   obtain⟨p',e'⟩:=step p v[i] (hv.2 _ (getElem_mem hiv));refine⟨p',?_⟩;rw[e',ep,drop_eq_getElem_cons hid,yJ,List.take_succ,zM hiv];rfl
 obtain⟨l,ls',rfl⟩:=List.exists_cons_of_ne_nil hne;have hl:l∈l::ls':=zZ ..
 have wl:Wd S Z (rd l Z 0):=by
  have:=(zaB hS).1 (P.mem_iff.1 (mem_append_right _ (List.mem_flatMap.2 ⟨l,hl,zc6 (l0 l hl) (Z+1) 0⟩)));rw[zrk] at this;exact cut this
 obtain⟨p,ep⟩:=reach _ wl Z (Nat.le_refl _);rw[drop_of_length_le (by rw[zaV];exact Nat.le_refl _),take_of_length_le (by rw[zaV];exact Nat.le_refl _),List.nil_append] at ep
 have:=zkm e hl (Nat.mod_lt p f0) (l0 l hl);rw[zjq] at this;exact this ep.symm
theorem zfF (hS:0 < S):∀ (m:Nat) (f:List Nat) (ls:List (List Nat)),ls.length=m→(rws f (Z+1)++ls.flatMap fun l=>rws l (Z+1)).Perm (words S (Z+1))→0 < f.length→(∀ l∈ls,0 < l.length)→∃ l,jall Z m f ls=some l∧Full S (Z+1) l
 |0,f,ls,hm,P,f0,l0=>by
  rw[eq_nil_of_length_eq_zero hm,flatMap_nil,append_nil] at P;exact⟨f,rfl,.of hS P⟩
 |m+1,f,ls,hm,P,f0,l0=>by
  have ne:ls≠[]:=fun e=>by rw[e] at hm;exact nomatch hm
  cases hf:fj f ls Z with
  |none=>exact absurd hf (zoT hS P f0 l0 ne)
  |some q =>
   obtain⟨i,p,a⟩:=q;obtain⟨hi,hmt⟩:=zoV hf;obtain⟨h1,h2,h3⟩:=zrR hmt;have ih:=zfF hS m (jn f (ls.getD i []) p a) (ls.eraseIdx i) (by rw[List.length_eraseIdx,zT hi,hm];rfl) (by
    refine((List.Perm.append_right _ (zl1 (Nat.succ_pos Z) h1 h2 h3)).trans ?_).trans P;rw[yJ];exact List.Perm.append_left _ (zdQ (fun r=>rws r (Z+1)) [] ls i hi).symm) (by rw[zhj];exact Nat.lt_of_lt_of_le f0 (Nat.le_add_right ..)) fun l hl=>l0 l (List.mem_of_mem_eraseIdx hl)
   obtain⟨l,e,hl⟩:=ih;refine⟨l,?_,hl⟩;show(match fj f ls Z with|none=>none|some (i,p,a)=>jall Z m (jn f (ls.getD i []) p a) (ls.eraseIdx i))=_
   rw[hf];exact e
end
section
variable {S Z:Nat}{l:List Nat}
theorem Full.of' (hS:0 < S) (hZ:0 < Z) (p:(rws l Z).Perm (words S Z)):Full S Z l:=by
 obtain⟨z,rfl⟩:∃ z,Z=z+1:=⟨Z - 1,(Nat.sub_add_cancel hZ).symm⟩;exact .of hS p
theorem zmi (g:Nat→Nat) (hi:i < l.length):(l.map g).getD i 0=g (l.getD i 0):=by
 rw[List.getD_eq_getElem?_getD,List.getD_eq_getElem?_getD,List.getElem?_map,zM hi];rfl
theorem zpS (g:Nat→Nat) (h0:0 < l.length) (z p:Nat):rd (l.map g) z p=(rd l z p).map g:=by
 unfold rd;rw[map_map];refine map_congr_left fun t y=>?_;rw[zJ];exact zmi g (Nat.mod_lt _ h0)
theorem zm6 {g:Nat→Nat}(inj:∀ a b,a < S→b < S→g a=g b→a=b):∀ {x y:List Nat},(∀ d∈x,d < S)→(∀ d∈y,d < S)→x.map g=y.map g→x=y
 |[],[],_,_,_=>rfl
 |[],_::_,_,_,e=>nomatch e
 |_::_,[],_,_,e=>nomatch e
 |a::x,b::y,hx,hy,e=>by
  have e:=List.cons.inj e;rw[inj a b (hx a (zZ ..)) (hy b (zZ ..)) e.1,zm6 inj (fun d hd=>hx d (zY _ hd)) (fun d hd=>hy d (zY _ hd)) e.2]
theorem Full.map (f:Full S Z l) (hS:0 < S){g:Nat→Nat}(lt:∀ a,a < S→g a < S) (inj:∀ a b,a < S→b < S→g a=g b→a=b):Full S Z (l.map g):=by
 have h0:=f.pos hS;refine⟨by rw[zJ,f.len],fun d hd=>?_,?_⟩
 ·obtain⟨a,ha,rfl⟩:=yQ.1 hd
  exact lt a (f.lt a ha)
 ·have e:rws (l.map g) Z=(rws l Z).map (List.map g):=by
   unfold rws;rw[zJ,map_map];exact map_congr_left fun p z=>zpS g h0 Z p
  rw[e];refine List.pairwise_map.2 (List.Pairwise.imp_of_mem (fun {a b} ha hb ne q=>?_) f.nd);obtain⟨p,_,rfl⟩:=zdK ha;obtain⟨p',_,rfl⟩:=zdK hb;exact ne (zm6 inj (zn1 h0 f.lt Z p).2 (zn1 h0 f.lt Z p').2 q)
theorem Full.rot (f:Full S Z l) (hS:0 < S) (hp:p < l.length):Full S Z (l.drop p++l.take p):=by
 refine⟨?_,fun d hd=>?_,?_⟩
 ·rw[←zc0 l p hp,zaV,f.len]
 ·rcases zP.1 hd with h|h
  ·exact f.lt d (mem_of_mem_drop h)
  ·exact f.lt d (mem_of_mem_take h)
 ·rw[←zc0 l p hp]
  exact(zef hp Z).nodup_iff.2 f.nd
theorem opp (hL:0 < L) (e:(A+B+1) % L=0):L - 1 - A % L=B % L:=by
 have h:(A % L+B % L+1) % L=0:=by rw[←Nat.mod_add_mod,← Nat.add_mod,Nat.mod_add_mod];exact e
 have ha:=Nat.mod_lt A hL;have hb:=Nat.mod_lt B hL;generalize A % L=a at *
 generalize B % L=b at *
 rcases Nat.lt_or_ge (a+b+1) L with q|q
 ·rw[Nat.mod_eq_of_lt q] at h;exact absurd h (Nat.succ_ne_zero _)
 ·rw[Nat.mod_eq_sub_mod q,Nat.mod_eq_of_lt (Nat.sub_lt_left_of_lt_add q (Nat.lt_of_lt_of_le (Nat.succ_lt_succ (Nat.add_lt_add_left hb a)) (Nat.add_lt_add_right ha L)))] at h
  rw[Nat.le_antisymm q (Nat.sub_eq_zero_iff_le.1 h)];exact Nat.add_sub_cancel_left a b
theorem zpO (hL:0 < L) (ht:t < z):L - 1 - ((p+z) * (L - 1)+t) % L=(p+(z - 1 - t)) % L:=by
 obtain⟨k,rfl⟩:=Nat.exists_eq_add_of_lt ht;rw[show t+k+1 - 1 - t=k from Nat.add_sub_cancel_left t k];refine opp hL ?_;have h1:(p+(t+k+1)) * L=(p+(t+k+1)) * (L - 1)+(p+(t+k+1)):=(congrArg ((p+(t+k+1)) * ·) (Nat.sub_add_cancel hL)).symm;have e:(p+(t+k+1)) * (L - 1)+t+(p+k)+1=(p+(t+k+1)) * L:=by
  rw[h1,Nat.add_assoc _ t,Nat.add_left_comm t];rfl
 rw[e];exact Nat.mul_mod_left _ _
theorem Full.rev (f:Full S Z l) (hS:0 < S) (hZ:0 < Z):Full S Z l.reverse:=by
 have h0:=f.pos hS;refine .of' hS hZ (zbH zaS (fun w hw=>?_) (by rw[zaM,length_reverse,zar,f.len]))
 have wd:=(zaB hS).1 hw;obtain⟨p,hp,e⟩:=f.at hS (w:=w.reverse) ⟨by rw[length_reverse,wd.1],fun d hd=>wd.2 d (List.mem_reverse.1 hd)⟩
 have:rd l.reverse Z ((p+Z) * (l.length - 1))=w:=by
  refine ext_getElem? fun t=>?_;unfold rd;rw[List.getElem?_map]
  by_cases ht:t < Z
  ·rw[List.getElem?_range ht,Option.map_some,length_reverse]
   have hi:=Nat.mod_lt ((p+Z) * (l.length - 1)+t) h0;rw[List.getD_eq_getElem?_getD,List.getElem?_reverse hi,zpO h0 ht];have e1:w[t]?=w.reverse[Z - 1 - t]?:=by
    have:=List.getElem?_reverse (l:=w.reverse) (i:=t) (by rw[length_reverse,wd.1];exact ht)
    rwa [reverse_reverse,length_reverse,wd.1] at this
   rw[e1,← e];unfold rd;rw[List.getElem?_map,List.getElem?_range (Nat.lt_of_le_of_lt (Nat.sub_le _ _) (Nat.sub_lt hZ Nat.one_pos)),Option.map_some,List.getD_eq_getElem?_getD]
  ·rw[List.getElem?_eq_none (by rw[length_range];exact Nat.le_of_not_lt ht),List.getElem?_eq_none (by rw[wd.1];exact Nat.le_of_not_lt ht)];rfl
 rw[←this];exact zc6 (by rw[length_reverse];exact h0) _ _
theorem zmV (hZ:0 < Z):(rws l Z).map (fun w=>w.headD 0)=l:=by
 obtain⟨z,rfl⟩:∃ z,Z=z+1:=⟨Z - 1,(Nat.sub_add_cancel hZ).symm⟩;unfold rws;rw[map_map];refine ext_getElem? fun i=>?_;rw[List.getElem?_map]
 by_cases hi:i < l.length
 ·rw[List.getElem?_range hi,Option.map_some,Function.comp,zrr,Nat.mod_eq_of_lt hi,List.getD_eq_getElem?_getD,zM hi];rfl
 ·rw[List.getElem?_eq_none (by rw[length_range];exact Nat.le_of_not_lt hi),List.getElem?_eq_none (Nat.le_of_not_lt hi)];rfl
theorem Full.ring (f:Full S Z l) (hS:0 < S):RingOf Z (words S Z) l:=⟨by rw[f.len,zar],fun w hw=>(f.perm hS).mem_iff.2 hw⟩
theorem Full.other (f:Full S Z l) (hS:0 < S) (hZ:0 < Z) (hp:p < l.length) (hs:s≠l[p]):¬RingOf Z (words S Z) (l.take p++[s]++l.drop (p+1)):=fun h=>by
 have e:(l.take p++[s]++l.drop (p+1)).Perm l:=by
  have:=((zbH zaS h.2 (by rw[zaM];exact h.1)).trans (f.perm hS).symm).map fun w:List Nat=>w.headD 0
  rw[zmV hZ,zmV hZ] at this;exact this
 have e2:l.take p++(l[p]::l.drop (p+1))=l:=by rw[←drop_eq_getElem_cons hp,take_append_drop]
 have e3:(l.take p++(s::l.drop (p+1))).Perm (l.take p++(l[p]::l.drop (p+1))):=by
  rw[e2];rw[yJ] at e;exact e
 have e4:=((List.perm_append_left_iff _).1 e3).count_eq s;rw[List.count_cons_self,List.count_cons_of_ne (fun q=>hs q.symm)] at e4;exact Nat.succ_ne_self _ e4
theorem Full.nums (f:Full S Z l) (hS:0 < S):((rws l Z).map (num S)).Perm (List.range (S ^ Z)):=by
 have:=(f.perm hS).map (num S);rw[zeZ] at this;exact this
end
noncomputable def lft (S:Nat) (l:List Nat):List (List Nat):=rows S l (chosen S (Sq l l.length) S)
noncomputable def gr (S Z:Nat) (l:List Nat):List Nat:=match lft S l with
 |[]=>[]
 |l0::ls=>(jall Z ls.length l0 ls).getD []
section
variable {n:Nat}{h:H}{F:Fn}{ρ:List V}{S Z:Nat}{v:V}{l:List Nat}
theorem Full.rb (f:Full S Z l) (hf:Fit S (Z+1)):RB S l:=⟨hf.s1,hf.s9,f.pos hf.s1,f.lt,by rw[f.len,← Nat.pow_succ];exact hf.few⟩
theorem zm7 (f:Full S Z l) (hf:Fit S (Z+1)) (hl:IsL h v l):pcall h (run PP (n+3) true "lifted" [.int S,v] h)=.ok (.l (V.lists (lft S l))) h:=by
 obtain⟨es,e⟩:=zil (n:=n) (f.rb hf) hl;rw[e];exact za3 ((Ext.refl h).app _) (zqH (f.rb hf) hl)
theorem zqn (f:Full S Z l) (hS:0 < S):lft S l≠[]:=fun e=>by
 have:=f.lifted hS;rw[show rows S l (chosen S (Sq l l.length) S)=[] from e] at this;have:=this.length_eq;rw[zar] at this;exact Nat.ne_of_lt (Nat.pow_pos hS) this
theorem zj1 (f:Full S Z l) (hf:Fit S (Z+1)):Full S (Z+1) (gr S Z l)∧∃ a e,run PP (n+4) true "joined_all" [.int ((Z+1:Nat):Int),.l (V.lists (lft S l))] h=.ok (.ref a) (h++e)∧(h++e)[a]?=some (.list (V.nats (gr S Z l)))∧h.length≤a:=by
 have hS:=hf.s1;have h0:=f.pos hS;have P':=f.lifted hS;have ne:=zqn f hS;have each:∀ x∈lft S l,x.length=rl S l∧∀ d∈x,d < 9:=fun x hx=>by
  obtain⟨a,_,rfl⟩:=yQ.1 hx;refine⟨zbm ..,fun d hd=>?_⟩;obtain⟨p,_,rfl⟩:=yQ.1 hd;exact Nat.lt_of_lt_of_le (Nat.mod_lt _ hS) hf.s9
 have pos:∀ x∈lft S l,0 < x.length:=fun x hx=>by rw[(each x hx).1];exact zjm hS h0
 change ((lft S l).flatMap fun l=>rws l (Z+1)).Perm (words S (Z+1)) at P';unfold gr
 cases e:lft S l with
 |nil=>exact absurd e ne
 |cons l0 ls =>
  rw[e] at each pos P';rw[flatMap_cons] at P';obtain⟨r,hj,fr⟩:=zfF hS ls.length l0 ls rfl P' (pos _ (zZ ..)) fun x hx=>pos x (zY _ hx);have ht:tot (l0::ls)≤256:=by
   have:=P'.length_eq;rw[zar,zQ,List.length_flatMap,zaM] at this;have e2:tot (l0::ls)=S ^ (Z+1):=by
    rw[zcD,← this];unfold tot;refine congrArg (fun x=>l0.length+List.sum x) (map_congr_left fun x z=>(zaM x (Z+1)).symm)
   rw[e2];exact hf.few
  dsimp only;rw[hj];exact⟨fr,zl0 (n:=n) (Nat.succ_pos Z) hf.z8 pos (fun x hx=>(each x hx).2) ht hj⟩
theorem add1 {a:PE}{z:Nat}(ea:evE true F ρ a h=.ok (.int z) h):evE true F ρ (.bin .add a (.int 1)) h=.ok (.int ((z+1:Nat):Int)) h:=zfT (x:=z) (y:=1) ea rfl
theorem zmf (hf:Fit S Z):GW S Z (words S Z):=⟨zaS,fun e=>by
 have:=zar (S:=S) (Z:=Z);rw[e] at this;exact Nat.ne_of_lt (Nat.pow_pos hf.s1) this,fun w hw=>((zaB hf.s1).1 hw).1,fun w hw=>((zaB hf.s1).1 hw).2,by rw[zar];exact zX hf.few (by decide)⟩
theorem zjn (hf:Fit S Z) (hl:IsL h v l) (h1:1≤l.length) (h2:l.length≤256) (hd:∀ d∈l,d < S):∃ b:Bool,(b=true↔RingOf Z (words S Z) l)∧evE true (run PP (n+5)) [.int S,.int Z,v] (.call false "is_ring_of" [.v 0,.v 1,.call false "all_words" [.v 0,.v 1],.v 2]) h=.ok (.bool b) h:=by
 obtain⟨b,hb,e⟩:=zl5 (n:=n) hf (zqD h (words S Z)) (by unfold lstB;rw[map_map];rfl) (zql _) (zmf hf) (by rw[zar];exact zX hf.few (by decide)) hl h1 h2 hd
 refine⟨b,hb,?_⟩;rw[za2,zaa (v:=.int S) rfl (zaa (v:=.int Z) rfl (zaa (zaE (v:=.int S) (w:=.int Z) rfl rfl (zr8 (n:=n+1) hf)) (zaa (zap (v:=v) rfl hl.val) rfl))),R.bind_ok];exact e
theorem zgm (hf:Fit S Z) (hf':Fit S (Z+1)) (k:(exSs true (run PP (n+5)) (zgU.body.drop 2) [.int S,.int Z,v] h).out=r):run PP (n+6) true "grown" [.int S,.int Z,v] h=r :=
 start zf8 rfl (ρ:=[.int S,.int Z,v]) rfl (zaD (h':=h) (zaE (v:=.int S) (w:=.int Z) rfl rfl (zfR (n:=n+2) hf)) (zaD (h':=h) (zaE (v:=.int S) (w:=.int ((Z+1:Nat):Int)) rfl (add1 rfl) (zfR (n:=n+2) hf')) k))
theorem zoM (hf:Fit S Z) (hf':Fit S (Z+1)) (f:Full S Z l) (hl:IsL h v l):∃ a e,run PP (n+6) true "grown" [.int S,.int Z,v] h=.ok (.ref a) (h++e)∧(h++e)[a]?=some (.list (V.nats (gr S Z l)))∧h.length≤a:=by
 have h1:=f.pos hf.s1;have h2:l.length≤256:=by rw[f.len];exact hf.few
 obtain⟨_,a,e,ej,hc⟩:=zj1 (n:=n+1) (h:=h) f hf';refine⟨a,e,zgm  hf hf' ?_,hc⟩;obtain⟨b,hb,er⟩:=zjn (n:=n) hf hl h1 h2 f.lt;rw[hb.2 (f.ring hf.s1)] at er;refine zaD (h':=h) (zaE (v:=.int S) rfl (zap rfl hl.val) (ze9 (n:=n+3) hl h1 h2 f.lt)) (zaU (h':=h) (zaK er) (zaQ ?_));rw[za2,zaa (v:=.int ((Z+1:Nat):Int)) (add1 rfl) (zaa (zaE (v:=.int S) rfl (zap rfl hl.val) (zm7 (n:=n+2) f hf' hl)) rfl),R.bind_ok]
 exact ej
theorem zmg (hf:Fit S Z) (hf':Fit S (Z+1)) (hl:IsL h v l) (h1:1≤l.length) (h2:l.length≤256) (hd:∀ d∈l,d < S) (no:¬RingOf Z (words S Z) l):run PP (n+6) true "grown" [.int S,.int Z,v] h=.err "BadRing" h:=by
 refine zgm  hf hf' ?_;obtain⟨b,hb,er⟩:=zjn (n:=n) hf hl h1 h2 hd
 cases b with
 |true=>exact absurd (hb.1 rfl) no
 |false=>exact zaD (h':=h) (zaE (v:=.int S) rfl (zap rfl hl.val) (ze9 (n:=n+3) hl h1 h2 hd)) (zdv (h':=h) (zaK er) rfl)
theorem zke (hf:Fit S Z) (hf':Fit S (Z+1)) (hv:okI h v) (hb:ringB S h v=false):run PP (n+6) true "grown" [.int S,.int Z,v] h=.err "BadRing" h:=by
 refine zgm  hf hf' (zch ?_);rw[zm5 (n:=n+3) (sg:=S) rfl rfl hv,hb];rfl
theorem zin (ha:okV h a) (hb:okV h b) (e:fits a b=false):run PP (n+6) true "grown" [a,b,v] h=.err "BadSize" h:=by
 refine start zf8 rfl (ρ:=[a,b,v]) rfl (zch ?_);rw[zeG (v:=a) (w:=b) rfl ha.val rfl hb.val,zcy  (n+2) a b h ha hb,pneed,e];rfl
theorem zio (hf:Fit S Z) (e:fits (.int S) (.int ((Z+1:Nat):Int))=false):run PP (n+6) true "grown" [.int S,.int Z,v] h=.err "BadSize" h:=by
 refine start zf8 rfl (ρ:=[.int S,.int Z,v]) rfl (zaD (h':=h) (zaE (v:=.int S) (w:=.int Z) rfl rfl (zfR (n:=n+2) hf)) (zch ?_));rw[za2,zaa (v:=.int S) rfl (zaa (v:=.int ((Z+1:Nat):Int)) (add1 rfl) rfl),R.bind_ok];show pcall h (run PP (n+5) true "need_both" [.int S,.int ((Z+1:Nat):Int)] h)=_;rw[zcy  (n+2) (.int S) (.int ((Z+1:Nat):Int)) h trivial trivial,pneed,e];rfl
theorem zmG (ha:a.val) (hb:b.val) (hw:w.val) (e:run PP (n+6) true "grown" [a,b,w] h=.ok v h'):run PP (n+7) true "_law_asked" [a,b,w] h=.ok v h':=by
 refine start ze3 rfl (ρ:=[a,b,w,.uu]) rfl ?_;have args:evEs true (run PP (n+6)) [a,b,w,.uu] [.v 0,.v 1,.v 2] h=.ok [a,b,w] h:=zaa (zap rfl ha) (zaa (zap rfl hb) (zaa (zap rfl hw) rfl));have hb:exSs true (run PP (n+6)) [.ret (.call true "grown" [.v 0,.v 1,.v 2])] [a,b,w,.uu] h=.ok (.ret v) [a,b,w,.uu] h':=by
  rw[ss_cons',zpT,za2,args,R.bind_ok];show(((run PP (n+6) true "grown" [a,b,w] h).st _ _).then _)=_;rw[e];rfl
 show(exSs true (run PP (n+6)) [.try [.ret (.call true "grown" [.v 0,.v 1,.v 2])] "RingError" 3 [.ret (.callX "_law_classes" 3)]] _ h).out=_;rw[ss_cons',zn3,zR (by decide),hb];rfl
theorem zkL (ha:a.val) (hb:b.val) (hw:w.val) (hc:c∈["BadSize","BadWord","BadBook","BadRing","NoWord","NoRing","NoJoin"]) (e:run PP (n+6) true "grown" [a,b,w] h=.err c h'):run PP (n+7) true "_law_asked" [a,b,w] h=.ok (.tup [.int (codeOf c)]) h':=by
 refine start ze3 rfl (ρ:=[a,b,w,.uu]) rfl ?_;have args:evEs true (run PP (n+6)) [a,b,w,.uu] [.v 0,.v 1,.v 2] h=.ok [a,b,w] h:=zaa (zap rfl ha) (zaa (zap rfl hb) (zaa (zap rfl hw) rfl));have hb:exSs true (run PP (n+6)) [.ret (.call true "grown" [.v 0,.v 1,.v 2])] [a,b,w,.uu] h=.err c [a,b,w,.uu] h':=by
  rw[ss_cons',zpT,za2,args,R.bind_ok];show(((run PP (n+6) true "grown" [a,b,w] h).st _ _).then _)=_;rw[e];rfl
 have hx:c∈zaf:=zY _ hc;have hcl:pcall h' (run PP (n+6) false "_law_classes" [.exc c] h')=.ok (.tup [.int (codeOf c)]) h':=by rw[ziA  (n+5) false c hc h',zan rfl]
 show(exSs true (run PP (n+6)) [.try [.ret (.call true "grown" [.v 0,.v 1,.v 2])] "RingError" 3 [.ret (.callX "_law_classes" 3)]] _ h).out=_;rw[ss_cons',zn3,zR (by decide),hb]
 show(RS.then (if(zaf.contains c&&"RingError" == "RingError")=true then _ else _) _).out=_;rw[zT (by simp[hx])]
 show(RS.then (match (RS.then (R.st (pcall h' (run PP (n+6) false "_law_classes" [.exc c] h')) _ _) _) with|.ok f ρ h=>_|.err _ _ _=>_|.bad=>_) _).out=_
 rw[hcl];rfl
end
section
variable {n:Nat}{h g:H}{F:Fn}{ρ:List V}{S Z:Nat}{v:V}{l r:List Nat}
theorem zrM (r:List Nat) (k p:Nat):num S (rd r (k+1) p)=num S (rd r k p) * S+r.getD ((p+k) % r.length) 0:=by rw[zrk,zcH]
theorem zhg (hl:IsL h v r) (h1:0 < r.length){p:Nat}(hS:S≤9) (hz:Z≤8):pcall h (run PP (n+1) true "_law_number" [v,.int p,.int S,.int Z] h)=.ok (.int (num S (rd r Z p):Nat)) h:=by
 rw[start zhS rfl (ρ:=[v,.int p,.int S,.int Z,.uu,.uu]) rfl (zax (v:=.int (0:Nat)) (h':=h) rfl (ρ':=[v,.int p,.int S,.int Z,.int (0:Nat),.uu]) rfl (zfn (l:=List.range Z) (fun q w=>[v,.int p,.int S,.int Z,.int (num S (rd r q.length p):Nat),w]) (fun z=>h) .uu (zaT (n:=Z) rfl (zX hz (by decide))) (fun z=>rfl) rfl rfl (fun q a q' w hp=>?_) fun w=>zaQ rfl)),pcall_int]
 ·rw[length_range]
 ·obtain⟨rfl,_⟩:=range_at hp
  show exSs true (run PP n) _ [v,.int p,.int S,.int Z,.int (num S (rd r q.length p):Nat),.int q.length] h=_;have v0:evE true (run PP n) [v,.int p,.int S,.int Z,.int (num S (rd r q.length p):Nat),.int q.length] (.v 0) h=.ok v h:=zap rfl hl.val;have ln:=zaO v0 hl;rw[nats_length] at ln;have e:=zfT (zmE (q:=true) (a:=.v 4) (b:=.v 2) (x:=(num S (rd r q.length p):Nat)) (y:=S) rfl rfl (Nat.lt_of_le_of_lt hS (by decide))) (zb4 v0 (zlC (x:=p+q.length) (zfT (a:=.v 1) (b:=.v 5) (x:=p) (y:=q.length) rfl rfl) ln h1) hl (zaX (zeD h1 (p+q.length))))
  rw[zdG e,zQ,show q.length+[q.length].length=q.length+1 from rfl,zrM,Int.natCast_add,Int.natCast_mul];rfl
theorem zjz (hS:S≤9) (hz:Z≤8):pcall h (run PP (n+1) true "_law_power" [.int S,.int Z] h)=.ok (.int (S ^ Z:Nat)) h:=by
 rw[zln  n S (Nat.lt_of_le_of_lt hS (by decide)) Z (zX hz (by decide)) h,pcall_int,Int.natCast_pow]
theorem zmJ (M:List Nat) (x:Nat):((V.nats M).any fun y=>peq y (.int x))=decide (x∈M):=by
 induction M with
 |nil=>rfl
 |cons d M ih =>
  rw[zbq,List.any_cons,ih,zeh,zpg]
  by_cases e:d=x
  ·subst e;simp
  ·have:¬ x=d:=fun q=>e q.symm
   simp[e,this]
theorem zly {a b:PE}{c x:Nat}{M:List Nat}(ea:evE true F ρ a h=.ok (.int x) h) (eb:evE true F ρ b h=.ok (.ref c) h) (hc:h[c]?=some (.list (V.nats M))):evE true F ρ (.cmp .notIn a b) h=.ok (.bool (!decide (x∈M))) h:=by
 rw[zbo,ea,R.bind_ok,eb,R.bind_ok];show R.opt (Option.map V.bool (Option.map (!·) (match h[c]? with|some (.dict es)=>_|_=>isIn h (.int x) (.ref c)))) h=_
 rw[hc];show R.opt (Option.map V.bool (Option.map (!·) (isIn h (.int x) (.ref c)))) h=_;have f1:frz 0 h (.int x)=some (.int x):=rfl;have f2:frz 0 h (.ref c)=some (.l (V.nats M)):=zdf (zah hc) (zak M);unfold isIn;rw[f1,f2];show R.opt (Option.map V.bool (Option.map (!·) (if(V.ok 8 (.int x)&&V.ok 8 (.l (V.nats M)))=true then some ((V.nats M).any fun y=>peq y (.int x)) else none))) h=_;rw[zcG M 6,zT (show(V.ok 8 (.int x)&&true)=true from rfl),zmJ];rfl
noncomputable def nx (S Z:Nat) (row:List Nat) (s:Nat):Nat:=num S (rd (row++[s]) Z (row.length - Z+1))
noncomputable def sm (S Z:Nat) (row met:List Nat):List Nat:=(List.range S).filter fun s=>!decide (nx S Z row s∈met)
noncomputable def itF (S Z:Nat):Nat→Option (List Nat × List Nat)
 |0=>some (List.replicate Z 0,[0])
 |i+1=>(itF S Z i).bind fun q=>(sm S Z q.1 q.2).getLast?.map fun s=>(q.1++[s],q.2++[nx S Z q.1 s])
theorem zl4 (i:Nat):itF S Z (i+1)=(itF S Z i).bind fun q=>(sm S Z q.1 q.2).getLast?.map fun s=>(q.1++[s],q.2++[nx S Z q.1 s]):=rfl
theorem zgC:∀ {i:Nat}{q:List Nat × List Nat},itF S Z i=some q→q.1.length=Z+i∧q.2.length=i+1
 |0,q,e=>by cases e;exact⟨by rw[List.length_replicate];rfl,rfl⟩
 |i+1,q,e=>by
  rw[zl4] at e;obtain⟨q',e',e⟩:=Option.bind_eq_some_iff.1 e;obtain⟨s,_,rfl⟩:=Option.map_eq_some_iff.1 e;have:=zgC e';refine⟨?_,?_⟩
  ·show(q'.1++[s]).length=_
   rw[zQ,this.1];rfl
  ·show(q'.2++[_]).length=_
   rw[zQ,this.2];rfl
theorem znb:∀ {m i:Nat},i≤m→(itF S Z m).isSome=true→(itF S Z i).isSome=true
 |0,i,h,e=>by rw[Nat.le_zero.1 h];exact e
 |m+1,i,h,e=>by
  rcases Nat.lt_or_eq_of_le h with h|h
  ·refine znb (Nat.le_of_lt_succ h) ?_
   rw[zl4] at e
   cases q:itF S Z m with
   |none=>rw[q] at e;cases e
   |some _=>rfl
  ·rw[h];exact e
theorem zka (ea:evE true F ρ a h=.ok (.l vs) h) (hx:vs.getLast?=some x):evE true F ρ (.idx a (.neg 1)) h=.ok x h:=by
 obtain⟨us,rfl⟩:=List.getLast?_eq_some_iff.1 hx;rw[zce,ea,R.bind_ok,zrx,R.bind_ok];show R.opt ((place (us++[x]).length (-1)).bind fun j=>(us++[x])[j]?) h=_;have:place (us++[x]).length (-1)=some us.length:=by rw[zQ];exact zdI _
 rw[this,Option.bind_some,List.getElem?_append_right (Nat.le_refl _),Nat.sub_self];rfl
theorem rep1 (Z:Nat):rep [V.int 0] (Z:Int)=V.nats (List.replicate Z 0):=by
 unfold rep V.nats;rw[Int.toNat_natCast,List.map_replicate,List.flatten_replicate_singleton];rfl
noncomputable abbrev E8 (S Z:Nat) (h:H) (v4 v5 v6:V):List V:=[.int S,.int Z,.ref h.length,.ref (h.length+1),v4,v5,v6,.uu]
noncomputable def fB:List PS:=[
  .asg 4 (.bin .add (.bin .sub (.bf .len (.v 2)) (.v 1)) (.int 1)),
  .asg 5 (.comp (.call false "_law_number" [.bin .add (.v 2) (.list [.v 7]),.v 4,.v 0,.v 1]) 7 (.range1 (.v 0)) .none),
  .asg 6 (.comp (.v 7) 7 (.range1 (.v 0)) (some (.cmp .notIn (.idx (.v 5) (.v 7)) (.v 3)))),
  .expr (.append (.v 2) (.idx (.v 6) (.neg 1))),
  .expr (.append (.v 3) (.idx (.v 5) (.idx (.v 6) (.neg 1))))]
theorem two0 (h:H) (c d:Cell):(h++[c,d])[h.length]?=some c:=by rw[List.getElem?_append_right (Nat.le_refl _),Nat.sub_self];rfl
theorem two1 (h:H) (c d:Cell):(h++[c,d])[h.length+1]?=some d:=by rw[List.getElem?_append_right (Nat.le_add_right _ 1),Nat.add_sub_cancel_left];rfl
theorem two0s (h:H) (c d e:Cell):(h++[c,d]).set h.length e=h++[e,d]:=by rw[set_append_right _ _ (Nat.le_refl _),Nat.sub_self];rfl
theorem two1s (h:H) (c d e:Cell):(h++[c,d]).set (h.length+1) e=h++[c,e]:=by rw[set_append_right _ _ (Nat.le_add_right _ 1),Nat.add_sub_cancel_left];rfl
theorem zqM (hf:Fit S Z){row met:List Nat}{i s:Nat}{v4 v5 v6:V}(hr:row.length=Z+i) (hm:met.length=i+1) (hi:i≤256) (hs:(sm S Z row met).getLast?=some s) :
  ∃ w4 w5 w6,exSs true (run PP (n+1)) fB (E8 S Z h v4 v5 v6) (h++[.list (V.nats row),.list (V.nats met)])=.ok .next (E8 S Z h w4 w5 w6) (h++[.list (V.nats (row++[s])),.list (V.nats (met++[nx S Z row s]))]):=by
 have hZ:=hf.z1;have e4:evE true (run PP (n+1)) (E8 S Z h v4 v5 v6) (.bin .add (.bin .sub (.bf .len (.v 2)) (.v 1)) (.int 1)) (h++[.list (V.nats row),.list (V.nats met)])=.ok (.int ((i+1:Nat):Int)) (h++[.list (V.nats row),.list (V.nats met)]):=by
  have ln:=zaO (F:=run PP (n+1)) (ρ:=E8 S Z h v4 v5 v6) (a:=.v 2) (v:=.ref h.length) rfl (zah (two0 h (.list (V.nats row)) (.list (V.nats met))));rw[nats_length] at ln;rw[zfT (y:=1) (ziH (y:=Z) ln rfl) rfl,hr];exact congrArg (fun x=>R.ok (V.int x) _) (by rw[Int.natCast_add,Int.add_comm (Z:Int),Int.add_sub_cancel];rfl)
 have pl:row.length - Z+1=i+1:=by rw[hr,Nat.add_sub_cancel_left]
 have e5:evE true (run PP (n+1)) (E8 S Z h (.int ((i+1:Nat):Int)) v5 v6) (.comp (.call false "_law_number" [.bin .add (.v 2) (.list [.v 7]),.v 4,.v 0,.v 1]) 7 (.range1 (.v 0)) .none) (h++[.list (V.nats row),.list (V.nats met)])=.ok (.l (V.nats ((List.range S).map (nx S Z row)))) (h++[.list (V.nats row),.list (V.nats met)]):=by
  refine zbk (zaT (n:=S) rfl (zX hf.s9 (by decide))) rfl (fun s:Nat=>.int (nx S Z row s:Nat)) (fun s z=>?_) ?_
  ·have ea:=zkQ (F:=run PP (n+1)) (ρ:=[.int S,.int Z,.ref h.length,.ref (h.length+1),.int ((i+1:Nat):Int),v5,v6,.int s]) (a:=.v 2) (b:=.list [.v 7]) (v:=.ref h.length) (w:=.l [.int s]) rfl rfl (zah (two0 h (.list (V.nats row)) (.list (V.nats met)))) rfl (by rw[nats_length,hr];exact zX (Nat.add_le_add_right (Nat.add_le_add hf.z8 hi) 1) (by decide))
   rw[show V.nats row++[V.int s]=V.nats (row++[s]) by rw[zas];rfl] at ea
   have nu:=zhg (n:=n) (h:=h++[.list (V.nats row),.list (V.nats met)]) (IsL.lst _ (row++[s])) (by rw[zQ];exact Nat.succ_pos _) (p:=i+1) hf.s9 hf.z8
   show evE true (run PP (n+1)) [.int S,.int Z,.ref h.length,.ref (h.length+1),.int ((i+1:Nat):Int),v5,v6,.int s] _ _=_;rw[za2,zaa ea (zaa (v:=.int ((i+1:Nat):Int)) rfl (zaa (v:=.int S) rfl (zaa (v:=.int Z) rfl rfl))),R.bind_ok];unfold nx;rw[pl];exact nu
  ·rw[show((List.range S).map fun s:Nat=>V.int (nx S Z row s:Nat))=V.nats ((List.range S).map (nx S Z row)) by unfold V.nats;rw[map_map];rfl,zaY (by rw[nats_length,zJ,length_range];exact zX hf.s9 (by decide))]
 have nat:∀ {t:Nat},t < S→(V.nats ((List.range S).map (nx S Z row)))[t]?=some (.int (nx S Z row t:Nat)):=fun {t} ht=>zaX (by rw[List.getElem?_map,List.getElem?_range ht];rfl)
 have e6:evE true (run PP (n+1)) (E8 S Z h (.int ((i+1:Nat):Int)) (.l (V.nats ((List.range S).map (nx S Z row)))) v6) (.comp (.v 7) 7 (.range1 (.v 0)) (some (.cmp .notIn (.idx (.v 5) (.v 7)) (.v 3)))) (h++[.list (V.nats row),.list (V.nats met)])=.ok (.l (V.nats (sm S Z row met))) (h++[.list (V.nats row),.list (V.nats met)]):=by
  refine zmm (zaT (n:=S) rfl (zX hf.s9 (by decide))) rfl (fun s:Nat=>.int s) (fun s=>!decide (nx S Z row s∈met)) (fun s hs=>?_) (fun s z z=>rfl) ?_
  ·exact zly (ρ:=[.int S,.int Z,.ref h.length,.ref (h.length+1),.int ((i+1:Nat):Int),.l (V.nats ((List.range S).map (nx S Z row))),v6,.int s]) (zb4 (a:=.v 5) (i:=.v 7) (j:=s) (v:=.l (V.nats ((List.range S).map (nx S Z row)))) rfl rfl (litems_lst _ _) (nat (List.mem_range.1 hs))) rfl (two1 h _ _)
  ·show mkL (V.nats (sm S Z row met))=_
   rw[zaY (by rw[nats_length];exact zX (List.length_filter_le ..) (by rw[length_range];exact zX hf.s9 (by decide)))]
 have hsS:s < S:=List.mem_range.1 (List.mem_filter.1 (List.mem_of_getLast? hs)).1;have hl:(V.nats (sm S Z row met)).getLast?=some (.int s):=by
  unfold V.nats;rw[List.getLast?_map,hs];rfl
 have e7:∀ g,evE true (run PP (n+1)) (E8 S Z h (.int ((i+1:Nat):Int)) (.l (V.nats ((List.range S).map (nx S Z row)))) (.l (V.nats (sm S Z row met)))) (.idx (.v 6) (.neg 1)) g=.ok (.int s) g:=fun g=>zka (a:=.v 6) rfl hl;refine⟨.int ((i+1:Nat):Int),.l (V.nats ((List.range S).map (nx S Z row))),.l (V.nats (sm S Z row met)),?_⟩;unfold fB;rw[zdG e4];show exSs _ _ _ (E8 S Z h (.int ((i+1:Nat):Int)) v5 v6) _=_
 rw[zdG e5];show exSs _ _ _ (E8 S Z h (.int ((i+1:Nat):Int)) (.l (V.nats ((List.range S).map (nx S Z row)))) v6) _=_;rw[zdG e6];show exSs _ _ _ (E8 S Z h (.int ((i+1:Nat):Int)) (.l (V.nats ((List.range S).map (nx S Z row)))) (.l (V.nats (sm S Z row met)))) _=_;rw[zd9 (zcN (o:=.v 2) (c:=h.length) rfl (two0 h _ _) (e7 _) (by rw[nats_length,hr];exact zX (Nat.add_le_add hf.z8 hi) (by decide))),two0s]
 rw[zd9 (zcN (o:=.v 3) (c:=h.length+1) rfl (two1 h _ _) (zb4 (a:=.v 5) (j:=s) (v:=.l (V.nats ((List.range S).map (nx S Z row)))) rfl (e7 _) (litems_lst _ _) (nat hsS)) (by rw[nats_length,hm];exact zX (Nat.add_le_add_right hi 1) (by decide))),two1s]
 rw[zas,zas];rfl
theorem zqG (hf:Fit S Z){q:List Nat × List Nat}(e:itF S Z (S ^ Z - 1)=some q):pcall h (run PP (n+2) true "_law_full" [.int S,.int Z] h)=.ok (.l (V.nats (q.1.take (S ^ Z)))) h:=by
 have pos:0 < S ^ Z:=Nat.pow_pos hf.s1;have pw:∀ {ρ:List V}{g:H},ρ[0]?=some (.int S)→ρ[1]?=some (.int Z)→evE true (run PP (n+1)) ρ (.call false "_law_power" [.v 0,.v 1]) g=.ok (.int (S ^ Z:Nat)) g:=fun {ρ g} a b=>zaE (zap a trivial) (zap b trivial) (zjz (n:=n) hf.s9 hf.z8);have test:∀ (v4 v5 v6:V) (row met:List Nat),evE true (run PP (n+1)) (E8 S Z h v4 v5 v6) (.cmp .lt (.bf .len (.v 3)) (.call false "_law_power" [.v 0,.v 1])) (h++[.list (V.nats row),.list (V.nats met)])=.ok (.bool (decide (met.length < S ^ Z))) (h++[.list (V.nats row),.list (V.nats met)]):=fun v4 v5 v6 row met=>by
  have ln:=zaO (F:=run PP (n+1)) (ρ:=E8 S Z h v4 v5 v6) (a:=.v 3) (v:=.ref (h.length+1)) rfl (zah (two1 h (.list (V.nats row)) (.list (V.nats met))));rw[nats_length] at ln;rw[zbo,ln,R.bind_ok,pw rfl rfl,R.bind_ok,cmp_lt_int];exact congrArg (fun b=>R.ok (V.bool b) _) (decide_eq_decide.2 Int.ofNat_lt)
 have L:=zg6 (F:=run PP (n+1)) (h:=h++[.list (V.nats (List.replicate Z 0)),.list (V.nats [0])]) (t:=.cmp .lt (.bf .len (.v 3)) (.call false "_law_power" [.v 0,.v 1])) (body:=fB) (ρ:=E8 S Z h .uu .uu .uu) (fun i ρ g=>∃ q v4 v5 v6,itF S Z i=some q∧ρ=E8 S Z h v4 v5 v6∧g=h++[.list (V.nats q.1),.list (V.nats q.2)]) (S ^ Z - 1) (zem (zX (Nat.sub_le ..) (zX hf.few (by decide)))) ⟨_,_,_,_,rfl,rfl,rfl⟩ ?_ ?_
 ·obtain⟨ρ',g',e',q',v4,v5,v6,eq,rfl,rfl⟩:=L
  rw[e] at eq;cases eq
  have fin:run PP (n+2) true "_law_full" [.int S,.int Z] h=.ok (.l (V.nats (q.1.take (S ^ Z)))) (h++[.list (V.nats q.1),.list (V.nats q.2)]):=by
   refine start zk5 rfl (ρ:=[.int S,.int Z,.uu,.uu,.uu,.uu,.uu,.uu]) rfl ?_;refine zax (v:=.ref h.length) (h':=h++[.list (V.nats (List.replicate Z 0))]) ?_ (ρ':=[.int S,.int Z,.ref h.length,.uu,.uu,.uu,.uu,.uu]) rfl ?_
   ·refine zc3 ?_
    rw[zkX,zjw,show evEs true (run PP (n+1)) _ [.int 0] h=.ok [.int 0] h from rfl,R.bind_ok];show(R.ok (V.l [.int 0]) h).bind _=_;rw[R.bind_ok,show evE true (run PP (n+1)) _ (.v 1) h=.ok (.int Z) h from rfl,R.bind_ok];show R.opt (if -1000000 < (Z:Int)∧(Z:Int) < 1000000 then mkL (rep [V.int 0] Z) else Option.none) h=_;rw[zT ⟨Int.lt_of_lt_of_le (by decide) (Int.natCast_nonneg _),Int.ofNat_lt.2 (Nat.lt_of_le_of_lt hf.z8 (by decide))⟩,rep1,zaY (by rw[nats_length,List.length_replicate];exact zX hf.z8 (by decide))];rfl
   ·refine zax (v:=.ref (h.length+1)) (h':=h++[.list (V.nats (List.replicate Z 0)),.list (V.nats [0])]) ?_ (ρ':=E8 S Z h .uu .uu .uu) rfl ?_
    ·refine(zc3 (vs:=[.int 0]) rfl).trans ?_
     rw[zQ,yJ];rfl
    ·refine zhf e' (zaQ (zji (a:=.v 2) (v:=.ref h.length) rfl (IsL.ref (two0 h _ _)) (pw rfl rfl)))
  rw[fin];exact za3 ((Ext.refl h).app _) (za7 _ _ _ (zak _))
 ·rintro i ρ g hi ⟨q',v4,v5,v6,eq,rfl,rfl⟩
  have len:=zgC eq;have so:=znb (m:=S ^ Z - 1) (i:=i+1) hi (by rw[e];rfl)
  rw[zl4,eq,Option.bind_some] at so;refine⟨?_,?_⟩
  ·rw[test,len.2,zW (show i+1 < S ^ Z from Nat.add_lt_of_lt_sub hi)]
  ·cases hs:(sm S Z q'.1 q'.2).getLast? with
   |none=>rw[hs] at so;cases so
   |some s =>
    obtain⟨w4,w5,w6,es⟩:=zqM (n:=n) (h:=h) hf len.1 len.2 (zX (Nat.le_of_lt hi) (zX (Nat.sub_le ..) hf.few)) hs (v4:=v4) (v5:=v5) (v6:=v6);exact⟨_,_,es,(q'.1++[s],q'.2++[nx S Z q'.1 s]),w4,w5,w6,by rw[zl4,eq,Option.bind_some,hs];rfl,rfl,rfl⟩
 ·rintro ρ g ⟨q',v4,v5,v6,eq,rfl,rfl⟩
  rw[test,(zgC eq).2,zU (show ¬ S ^ Z - 1+1 < S ^ Z by rw[Nat.sub_add_cancel (Nat.pow_pos hf.s1)];exact Nat.lt_irrefl _)]
end
noncomputable def okF (S Z:Nat):Bool:=match itF S Z (S ^ Z - 1) with
 |some q=>decide ((q.1.take (S ^ Z)).length=S ^ Z)&&((q.1.take (S ^ Z)).all (fun d=>decide (d < S))&&decide (rws (q.1.take (S ^ Z)) Z).Nodup)
 |none=>false
theorem zp9 (h:okF S Z=true):∃ q,itF S Z (S ^ Z - 1)=some q∧Full S Z (q.1.take (S ^ Z)):=by
 unfold okF at h
 cases e:itF S Z (S ^ Z - 1) with
 |none=>rw[e] at h;cases h
 |some q =>
  rw[e] at h;have h:=yK.1 h;have h2:=yK.1 h.2;exact⟨q,rfl,zV h.1,fun d hd=>zV (List.all_eq_true.1 h2.1 d hd),zV h2.2⟩
def goodP (x:V):Prop:=∃ S Z:Nat,Fit S Z∧Fit S (Z+1)∧okF S Z=true∧x=.tup [.int S,.int Z]
theorem zaA (S Z:Nat) (q:1≤S∧S≤9∧1≤Z∧Z+1≤8∧S ^ Z≤256∧S ^ (Z+1)≤256) (o:okF S Z=true):goodP (.tup [.int S,.int Z]) :=
 ⟨S,Z,⟨q.1,q.2.1,q.2.2.1,Nat.le_of_succ_le q.2.2.2.1,q.2.2.2.2.1⟩,⟨q.1,q.2.1,Nat.succ_pos _,q.2.2.2.1,q.2.2.2.2.2⟩,o,rfl⟩
noncomputable def pairs:List V:=[.tup [.int 2,.int 2],.tup [.int 3,.int 1],.tup [.int 2,.int 3],.tup [.int 2,.int 1],.tup [.int 3,.int 2],.tup [.int 4,.int 1],.tup [.int 2,.int 4],.tup [.int 5,.int 1],.tup [.int 1,.int 1],.tup [.int 9,.int 1],.tup [.int 1,.int 5],.tup [.int 3,.int 3],.tup [.int 8,.int 1]]
theorem ziq:∀ x∈pairs,goodP x :=
 zab (zaA 2 2 (by decide) (by decide +kernel)) (zab (zaA 3 1 (by decide) (by decide +kernel)) (zab (zaA 2 3 (by decide) (by decide +kernel)) (zab (zaA 2 1 (by decide) (by decide +kernel)) (zab (zaA 3 2 (by decide) (by decide +kernel)) (zab (zaA 4 1 (by decide) (by decide +kernel)) (zab (zaA 2 4 (by decide) (by decide +kernel)) (zab (zaA 5 1 (by decide) (by decide +kernel)) (zab (zaA 1 1 (by decide) (by decide +kernel)) (zab (zaA 9 1 (by decide) (by decide +kernel)) (zab (zaA 1 5 (by decide) (by decide +kernel)) (zab (zaA 3 3 (by decide) (by decide +kernel)) (zab (zaA 8 1 (by decide) (by decide +kernel)) zdo))))))))))))
section
variable {n:Nat}{h g:H}{F:Fn}{ρ:List V}{S Z:Nat}{v:V}{l r:List Nat}
theorem zlA (l:List Nat) (k x:Nat):(V.nats l).set k (.int x)=V.nats (l.set k x):=(List.map_set ..).symm
theorem zla {c k x:Nat}(hc:g[c]?=some (.list (V.nats l))) (hk:k < l.length):seti g (.ref c) (.int k) (.int x)=some (g.set c (.list (V.nats (l.set k x)))):=by
 show(match g[c]? with|some (.list vs)=>(place vs.length (k:Int)).map fun j=>g.set c (.list (vs.set j (.int x)))|some (.dict es)=>_|none=>_)=_
 rw[hc];show(place (V.nats l).length (k:Int)).map (fun j=>g.set c (.list ((V.nats l).set j (.int x))))=_;rw[nats_length,zfe hk,Option.map_some,zlA]
theorem zm0 {o i:PE}{c k x:Nat}(eo:evE true F ρ o g=.ok (.ref c) g) (ei:evE true F ρ i g=.ok (.int k) g) (hc:g[c]?=some (.list (V.nats l))) (hk:k < l.length):putAt true F ρ o i (.int x) g=.ok .next ρ (g.set c (.list (V.nats (l.set k x)))):=by
 unfold putAt;rw[eo,R.st_ok,ei,R.st_ok,zT (zbt hc),zla hc hk]
theorem znE {x i j c a b:Nat}{ss:List PS}(ex:ρ[x]?=some (.ref c)) (ei:ρ[i]?=some (.int a)) (ej:ρ[j]?=some (.int b)) (hc:g[c]?=some (.list (V.nats l))) (ha:a < l.length) (hb:b < l.length) :
  exSs true F (.swap (.v x) (.v i) (.v x) (.v j) (.tup [.idx (.v x) (.v j),.idx (.v x) (.v i)])::ss) ρ g=exSs true F ss ρ (g.set c (.list (V.nats ((l.set a l[b]).set b l[a])))):=by
 have vx:∀ g:H,evE true F ρ (.v x) g=.ok (.ref c) g:=fun g=>zap ex trivial;have vi:∀ g:H,evE true F ρ (.v i) g=.ok (.int a) g:=fun g=>zap ei trivial;have vj:∀ g:H,evE true F ρ (.v j) g=.ok (.int b) g:=fun g=>zap ej trivial;have e1:=zb4 (vx g) (vj g) (zah hc) (zaX (zM hb));have e2:=zb4 (vx g) (vi g) (zah hc) (zaX (zM ha));rw[ss_cons',zsk,zR (by decide),zjv,zaa e1 (zaa e2 rfl),R.bind_ok]
 show(RS.then (RS.then (putAt true F ρ (.v x) (.v i) (.int (l[b]:Nat)) g) fun ρ h=>putAt true F ρ (.v x) (.v j) (.int (l[a]:Nat)) h) _)=_;rw[zm0 (vx g) (vi g) hc ha,RS.then_next,zm0 (vx _) (vj _) (List.getElem?_set_self (List.getElem?_eq_some_iff.1 hc).1) (by rw[length_set];exact hb),RS.then_next,set_set]
noncomputable abbrev E9 (s:List Int) (S Z:Nat) (c:Int) (row nm k a:V):List V:=[V.ints s,.int S,.int Z,.int c,row,nm,k,a,.uu]
noncomputable def nB:List PS:=[
  .asg 7 (.bin .mod (.bin .fdiv (.v 3) (.idx (.list [.int 1,.int 3,.int 9,.int 27,.int 81,.int 243,.int 729,.int 2187,.int 6561]) (.v 6))) (.v 1)),
  .swap (.v 5) (.v 6) (.v 5) (.v 7) (.tup [.idx (.v 5) (.v 7),.idx (.v 5) (.v 6)])]
theorem zk1 (hk:k < 9):∃ c:Int,c≠0∧([.int 1,.int 3,.int 9,.int 27,.int 81,.int 243,.int 729,.int 2187,.int 6561]:List V)[k]?=some (.int c):=by
 have e:([.int 1,.int 3,.int 9,.int 27,.int 81,.int 243,.int 729,.int 2187,.int 6561]:List V)=([1,3,9,27,81,243,729,2187,6561]:List Int).map V.int:=rfl;have all:∀ c∈([1,3,9,27,81,243,729,2187,6561]:List Int),c≠0:=by decide
 have hk':k < ([1,3,9,27,81,243,729,2187,6561]:List Int).length:=hk;exact⟨_,all _ (getElem_mem hk'),by rw[e,List.getElem?_map,zM hk'];rfl⟩
theorem zlB (hf:Fit S Z) (s:List Int) (c:Int) (row:V):∃ nm w6 w7,exS true F (.for1 6 (.range1 (.v 1)) nB) (E9 s S Z c row (.ref h.length) .uu .uu) (h++[.list (V.nats (List.range S))])=.ok .next (E9 s S Z c row (.ref h.length) w6 w7) (h++[.list (V.nats nm)])∧nm.Perm (List.range S):=by
 obtain⟨ρ',g',e,nm,w6,w7,rfl,rfl,p⟩:=zg7 (F:=F) (x:=6) (it:=.range1 (.v 1)) (body:=nB) (ρ:=E9 s S Z c row (.ref h.length) .uu .uu) (h:=h++[.list (V.nats (List.range S))]) (t:=Option.none) (l:=List.range S) (c:=fun i:Nat=>V.int i) (fun z ρ g=>∃ nm w6 w7,ρ=E9 s S Z c row (.ref h.length) w6 w7∧g=h++[.list (V.nats nm)]∧nm.Perm (List.range S)) (zaT (n:=S) rfl (zX hf.s9 (by decide))) (fun z z z z=>rfl) ⟨_,_,_,rfl,rfl,List.Perm.refl _⟩ (fun p k q ρ g hp hi=>by
  obtain⟨nm,w6,w7,rfl,rfl,pm⟩:=hi;have hk:k < S:=by
   obtain⟨rfl,hk⟩:=range_at hp;exact hk
  have hl:nm.length=S:=by rw[pm.length_eq,length_range]
  obtain⟨d,d0,ed⟩:=zk1 (Nat.lt_of_lt_of_le hk hf.s9);obtain⟨j,hj,ej⟩:=za8 (c.fdiv d) S hf.s1;have e7:evE true F (E9 s S Z c row (.ref h.length) (.int k) w7) (.bin .mod (.bin .fdiv (.v 3) (.idx (.list [.int 1,.int 3,.int 9,.int 27,.int 81,.int 243,.int 729,.int 2187,.int 6561]) (.v 6))) (.v 1)) (h++[.list (V.nats nm)])=.ok (.int j) (h++[.list (V.nats nm)]):=by
   rw[zbw (zbJ (x:=c) rfl (zb4 (i:=.v 6) (j:=k) (v:=.l [.int 1,.int 3,.int 9,.int 27,.int 81,.int 243,.int 729,.int 2187,.int 6561]) rfl rfl rfl ed) d0) (y:=S) rfl (Int.natCast_ne_zero.2 (Nat.ne_of_gt hf.s1)),ej]
  refine⟨E9 s S Z c row (.ref h.length) (.int k) (.int j),h++[.list (V.nats ((nm.set k (nm[j]'(by rw[hl];exact hj))).set j (nm[k]'(by rw[hl];exact hk))))],?_,_,_,_,rfl,rfl,(List.set_set_perm (by rw[hl];exact hk) (by rw[hl];exact hj)).trans pm⟩
  show exSs true F nB (E9 s S Z c row (.ref h.length) (.int k) w7) _=_;unfold nB;rw[zdG e7];show exSs true F _ (E9 s S Z c row (.ref h.length) (.int k) (.int j)) _=_;rw[znE (a:=k) (b:=j) (c:=h.length) rfl rfl rfl (zfU h _) (by rw[hl];exact hk) (by rw[hl];exact hj),zgd];rfl)
 exact⟨nm,w6,w7,e,p⟩
end
section
variable {n:Nat}{h g:H}{F:Fn}{ρ:List V}{S Z:Nat}{v:V}{l r:List Nat}
theorem zha {a:PE}{N:Nat}(ea:evE true F ρ a h=.ok (.int N) h) (hN:N≤1000):evE true F ρ (.bf .listRange a) h=.ok (.l (V.nats (List.range N))) h:=by
 rw[ziM (f:=.listRange) rfl,ea,R.bind_ok];show R.opt (if -1000000≤(N:Int)∧(N:Int)≤1000000 then some (V.l (upto N)) else Option.none) h=_;rw[zT ⟨Int.le_trans (by decide) (Int.natCast_nonneg _),Int.ofNat_le.2 (zX hN (by decide))⟩]
 show R.ok (V.l (upto N)) h=_;unfold upto V.nats;rw[Int.toNat_natCast];rfl
theorem zpN (ea:evE true F ρ a h=.ok (.l (V.nats l)) h):evE true F ρ (.rev a) h=.ok (.l (V.nats l.reverse)) h:=by
 rw[zpZ,ea,R.bind_ok];show R.ok (V.l (V.nats l).reverse) h=_;unfold V.nats;rw[List.map_reverse]
theorem zoa {nm:List Nat}(p:nm.Perm (List.range S)):(∀ a,a < S→nm.getD a 0 < S)∧∀ a b,a < S→b < S→nm.getD a 0=nm.getD b 0→a=b:=by
 have hl:nm.length=S:=by rw[p.length_eq,length_range]
 have get:∀ a,∀ ha:a < S,nm.getD a 0=nm[a]'(by rw[hl];exact ha):=fun a ha=>by
  rw[List.getD_eq_getElem?_getD,zM (by rw[hl];exact ha)];rfl
 refine⟨fun a ha=>?_,fun a b ha hb e=>?_⟩
 ·rw[get a ha]
  exact List.mem_range.1 (p.mem_iff.1 (getElem_mem _))
 ·rw[get a ha,get b hb] at e
  have nd:nm.Pairwise (·≠·):=p.nodup_iff.2 nodup_range;rw[List.pairwise_iff_getElem] at nd
  rcases Nat.lt_trichotomy a b with q|q|q
  ·exact absurd e (nd a b _ _ q)
  ·exact q
  ·exact absurd e.symm (nd b a _ _ q)
theorem zot (hf:Fit S Z) (o:okF S Z=true) (s:List Int):∃ l,Full S Z l∧pcall h (run PP (n+3) true "_law_ring" [V.ints s,.int S,.int Z] h)=.ok (.l (V.nats l)) h:=by
 obtain⟨q,eq,f⟩:=zp9 o;generalize hr:q.1.take (S ^ Z)=r0 at f;have fg:=zqG (n:=n) (h:=h) hf eq;rw[hr] at fg;obtain⟨nm,w6,w7,en,pm⟩:=zlB (F:=run PP (n+2)) (h:=h) hf s (cellAt s 1) (.l (V.nats r0));obtain⟨lt,inj⟩:=zoa pm;have nl:nm.length=S:=by rw[pm.length_eq,length_range]
 have f1:=f.map hf.s1 lt inj;generalize hr1:r0.map (fun a=>nm.getD a 0)=r1 at f1;have p1:=f1.pos hf.s1;have b1:r1.length≤256:=by rw[f1.len];exact hf.few
 obtain⟨j,hj,ej⟩:=za8 (cellAt s 2) r1.length p1;have f2:=f1.rot hf.s1 hj;generalize hr2:r1.drop j++r1.take j=r2 at f2;have cell:∀ (k:Nat){ρ:List V}{g:H},ρ[0]?=some (V.ints s)→evE true (run PP (n+2)) ρ (.call false "_law_cell_at" [.v 0,.int k]) g=.ok (.int (cellAt s k)) g:=fun k {ρ g} e=>zaE (zap e trivial) rfl (znp (n:=n+1) s k);have go:∀ {l:List Nat}{b:Bool},decide (((cellAt s 2).fdiv 256).fmod 2=1)=b→(l=if b then r2.reverse else r2)→run PP (n+3) true "_law_ring" [V.ints s,.int S,.int Z] h=.ok (.l (V.nats l)) (h++[.list (V.nats nm)]):=fun {l b} hb hl=>by
  refine start zk4 rfl (ρ:=[V.ints s,.int S,.int Z,.uu,.uu,.uu,.uu,.uu,.uu]) rfl ?_;refine zax (cell 1 rfl) (ρ':=[V.ints s,.int S,.int Z,.int (cellAt s 1),.uu,.uu,.uu,.uu,.uu]) rfl ?_;refine zax (zaE (v:=.int S) (w:=.int Z) rfl rfl fg) (ρ':=E9 s S Z (cellAt s 1) (.l (V.nats r0)) .uu .uu .uu) rfl ?_;refine zax (zc3 (zha (a:=.v 1) (N:=S) rfl (zX hf.s9 (by decide)))) (ρ':=E9 s S Z (cellAt s 1) (.l (V.nats r0)) (.ref h.length) .uu .uu) rfl (zhf en ?_)
  refine zax (v:=.l (V.nats r1)) (h':=h++[.list (V.nats nm)]) ?_ (ρ':=E9 s S Z (cellAt s 1) (.l (V.nats r1)) (.ref h.length) w6 w7) rfl ?_
  ·refine zbk (l:=r0) (c:=V.nat) (zj7 (vs:=V.nats r0) rfl) rfl (fun a:Nat=>.int (nm.getD a 0:Nat)) (fun a ha=>?_) ?_
   ·exact zb4 (ρ:=[V.ints s,.int S,.int Z,.int (cellAt s 1),.l (V.nats r0),.ref h.length,w6,w7,.int a]) (a:=.v 5) (i:=.v 8) (j:=a) (v:=.ref h.length) rfl rfl (zah (zfU h _)) (zaX (zr4 (by rw[nl];exact f.lt a ha)))
   ·rw[show(r0.map fun a:Nat=>V.int (nm.getD a 0:Nat))=V.nats r1 by rw[←hr1];unfold V.nats;rw[map_map];rfl,zaY (by rw[nats_length];exact zX b1 (by decide))]
  ·have ln:=zaO (F:=run PP (n+2)) (ρ:=E9 s S Z (cellAt s 1) (.l (V.nats r1)) (.ref h.length) w6 w7) (h:=h++[.list (V.nats nm)]) (a:=.v 4) (v:=.l (V.nats r1)) rfl rfl
   rw[nats_length] at ln;refine zax (v:=.int j) (h':=h++[.list (V.nats nm)]) ((zbw (cell 2 rfl) ln (Int.natCast_ne_zero.2 (Nat.ne_of_gt p1))).trans (by rw[ej])) (ρ':=E9 s S Z (cellAt s 1) (.l (V.nats r1)) (.ref h.length) w6 (.int j)) rfl ?_
   have es:=zdW (F:=run PP (n+2)) (ρ:=E9 s S Z (cellAt s 1) (.l (V.nats r1)) (.ref h.length) w6 (.int j)) (h:=h++[.list (V.nats nm)]) (zcX (a:=.v 4) (e:=.v 7) (v:=.l (V.nats r1)) rfl (IsL.lst _ _) rfl) (zji (a:=.v 4) (e:=.v 7) (v:=.l (V.nats r1)) rfl (IsL.lst _ _) rfl) (by rw[Nat.add_comm,zi5];exact zX b1 (by decide))
   rw[hr2] at es;refine zax es (ρ':=E9 s S Z (cellAt s 1) (.l (V.nats r2)) (.ref h.length) w6 (.int j)) rfl ?_;have ec:=zfQ (F:=run PP (n+2)) (ρ:=E9 s S Z (cellAt s 1) (.l (V.nats r2)) (.ref h.length) w6 (.int j)) (h:=h++[.list (V.nats nm)]) (zbw (zbJ (b:=.int 256) (y:=256) (cell 2 rfl) rfl (by decide)) (b:=.int 2) (y:=2) rfl (by decide)) (b:=.int 1) (y:=1) rfl
   rw[hb] at ec
   cases b with
   |true =>
    refine zdv ec (zax (zpN (a:=.v 4) (l:=r2) rfl) (ρ':=E9 s S Z (cellAt s 1) (.l (V.nats r2.reverse)) (.ref h.length) w6 (.int j)) rfl ?_);rw[hl];rfl
   |false=>exact zaU ec (by rw[hl];rfl)
 cases hb:decide (((cellAt s 2).fdiv 256).fmod 2=1) with
 |true=>exact⟨r2.reverse,f2.rev hf.s1 hf.z1,by rw[go hb rfl];exact za3 ((Ext.refl h).app _) (za7 _ _ _ (zak _))⟩
 |false=>exact⟨r2,f2,by rw[go hb rfl];exact za3 ((Ext.refl h).app _) (za7 _ _ _ (zak _))⟩
end
section
variable {n:Nat}{h g:H}{F:Fn}{ρ:List V}{S Z:Nat}{v:V}{l r:List Nat}
theorem zrD (ea:evE true F ρ a h=.ok (.bool false) h) (eb:evE true F ρ b h=.ok (.bool false) h) (ec:evE true F ρ c h=.ok (.bool false) h):evE true F ρ (.or [a,b,c]) h=.ok (.bool false) h:=zsh ea eb ec
theorem zou {a b c:PE}{x y z:Nat}(ea:evE true F ρ a h=.ok (.int x) h) (eb:evE true F ρ b h=.ok (.int y) h) (ec:evE true F ρ c h=.ok (.int z) h) (h1:x≤y) (h2:y < z):evE true F ρ (.cmp2 .le .lt a b c) h=.ok (.bool true) h:=by
 rw[zjx,ea,R.bind_ok,eb,R.bind_ok,cmp_le_int,zW (Int.ofNat_le.2 h1)];show(evE true F ρ c h).bind _=_;rw[ec,R.bind_ok,cmp_lt_int,zW (Int.ofNat_lt.2 h2)];rfl
theorem zhV (p:l.Perm (List.range N)):srtN l=List.range N :=
 ze6 ((zjg l).trans p) (znM l) (List.Pairwise.imp Nat.le_of_lt List.pairwise_lt_range) fun z z=>Nat.le_antisymm
theorem zl6 (hf:Fit S Z) (f:Full S Z l) (hl:IsL h v l):pcall h (run PP (n+2) true "_law_is_full" [v,.int S,.int Z] h)=.ok (.bool true) h:=by
 have h0:=f.pos hf.s1;have h2:l.length≤256:=by rw[f.len];exact hf.few
 have v0:∀ w x y,evE true (run PP (n+1)) [v,.int S,.int Z,w,x,y] (.v 0) h=.ok v h:=fun u u u=>zap rfl hl.val;have ln:∀ w x y,evE true (run PP (n+1)) [v,.int S,.int Z,w,x,y] (.bf .len (.v 0)) h=.ok (.int (l.length:Nat)) h:=fun w x y=>by
  have:=zaO (v0 w x y) hl;rw[nats_length] at this;exact this
 have pw:∀ w x y,evE true (run PP (n+1)) [v,.int S,.int Z,w,x,y] (.call false "_law_power" [.v 1,.v 2]) h=.ok (.int (S ^ Z:Nat)) h:=fun u u u=>zaE (v:=.int S) (w:=.int Z) rfl rfl (zjz (n:=n) hf.s9 hf.z8);have c1:=zpm (zaK (zfH (v0 .uu .uu .uu) hl)) (zpn (ln .uu .uu .uu) (pw .uu .uu .uu) (t:=true) (by rw[f.len,pyEq_int,zW rfl]))
 obtain⟨t,ht,hto⟩:=zci hl;have hit:evIt true (run PP (n+1)) [v,.int S,.int Z,.uu,.uu,.uu] (.seq (.v 0)) h=.ok (l.map V.nat,t) h:=by rw[zn5,v0,R.bind_ok,ht];rfl
 have fin:∀ w,(exSs true (run PP (n+1)) [.asg 4 (.comp (.call false "_law_number" [.v 0,.v 5,.v 1,.v 2]) 5 (.range1 (.bf .len (.v 0))) .none),.ret (.cmp .eq (.bf .sorted (.v 4)) (.bf .listRange (.call false "_law_power" [.v 1,.v 2])))] [v,.int S,.int Z,w,.uu,.uu] h).out=.ok (.bool true) h:=fun w=>by
  have ec:evE true (run PP (n+1)) [v,.int S,.int Z,w,.uu,.uu] (.comp (.call false "_law_number" [.v 0,.v 5,.v 1,.v 2]) 5 (.range1 (.bf .len (.v 0))) .none) h=.ok (.l (V.nats ((rws l Z).map (num S)))) h:=by
   refine zbk (zaT (ln w .uu .uu) (zX h2 (by decide))) rfl (fun p:Nat=>.int (num S (rd l Z p):Nat)) (fun p u=>?_) ?_
   ·show evE true (run PP (n+1)) [v,.int S,.int Z,w,.uu,.int p] _ h=_
    rw[za2,zaa (v0 w .uu (.int p)) (zaa (v:=.int p) rfl (zaa (v:=.int S) rfl (zaa (v:=.int Z) rfl rfl))),R.bind_ok];exact zhg (n:=n) hl h0 hf.s9 hf.z8
   ·rw[show((List.range l.length).map fun p:Nat=>V.int (num S (rd l Z p):Nat))=V.nats ((rws l Z).map (num S)) by unfold V.nats rws;rw[map_map,map_map];rfl,zaY (by rw[nats_length,zJ,zaM];exact zX h2 (by decide))]
  refine zax ec (ρ':=[v,.int S,.int Z,w,.l (V.nats ((rws l Z).map (num S))),.uu]) rfl (zaQ ?_);have s1:=zcV (F:=run PP (n+1)) (ρ:=[v,.int S,.int Z,w,.l (V.nats ((rws l Z).map (num S))),.uu]) (h:=h) (a:=.v 4) (v:=.l (V.nats ((rws l Z).map (num S)))) rfl rfl (zgc h _ (by rw[zJ,zaM];exact zX h2 (by decide)))
  rw[zhV (f.nums hf.s1)] at s1;exact zqY s1 (zha (pw w _ .uu) (zX hf.few (by decide))) (by rw[zfb (IsL.lst h _) (IsL.lst h _),zW rfl])
 rw[start zf5 rfl (ρ:=[v,.int S,.int Z,.uu,.uu,.uu]) rfl (zaU c1 (zfn (fun u w=>[v,.int S,.int Z,w,.uu,.uu]) (fun u=>h) .uu hit (fun u=>hto) rfl rfl (fun p a q w hp=>?_) fun w=>fin w)),pcall_bool];have ha:a < S:=f.lt a (by rw[hp];exact mem_append_right _ (zZ ..))
 exact(zje (zrD rfl (zaK (x:=true) rfl) (zaK (zou (ρ:=[v,.int S,.int Z,.int a,.uu,.uu]) (a:=.int 0) (b:=.v 3) (c:=.v 1) (x:=0) (y:=a) (z:=S) rfl rfl rfl (Nat.zero_le _) ha)))).trans rfl
end
section
variable {n:Nat}{h g:H}{F:Fn}{ρ:List V}{S Z:Nat}{v:V}{l r:List Nat}
def BadP (x:V):Prop:=∃ a b,x=.tup [a,b]∧a.val∧b.val∧a.plain=true∧b.plain=true∧∀ w n h,run PP (n+6) true "grown" [a,b,w] h=.err "BadSize" h
theorem zra {a b:V}(ha:∀ h,okV h a) (hb:∀ h,okV h b) (pa:a.plain=true) (pb:b.plain=true) (e:(among a 1 9&&among b 1 8)=false):BadP (.tup [a,b]) :=
 ⟨a,b,rfl,(ha []).val,(hb []).val,pa,pb,fun z z h=>zin  (ha h) (hb h) (zgI e)⟩
theorem zeO (hf:Fit S Z) (e:256 < S ^ (Z+1)∨8 < Z+1):BadP (.tup [.int S,.int Z]):=by
 refine⟨_,_,rfl,trivial,trivial,rfl,rfl,fun z z h=>zio  hf ?_⟩
 cases q:fits (.int S) (.int ((Z+1:Nat):Int)) with
 |false=>rfl
 |true =>
  have q:=yK.1 q;have q1:=(yK.1 q.1).2;have q2:=zV (show decide ((S:Int) ^ ((Z+1:Nat):Int).toNat≤256)=true from q.2);rw[Int.toNat_natCast,← Int.natCast_pow] at q2
  rcases e with e|e
  ·exact absurd (Int.ofNat_le.1 q2) (Nat.not_le_of_lt e)
  ·exact absurd (zkP (lo:=1) (hi:=8) q1).2 (Nat.not_le_of_lt e)
noncomputable def far (S Z:Nat):List V:=[.tup [.int 0,.int Z],.tup [.int S,.int 0],.tup [.bool true,.int Z],.tup [.int S,.str "1"],.tup [.int 2,.int 8],.tup [.int 9,.int 2],.tup [.int 10,.int 1],.tup [.int 16,.int 1],.tup [.none,.int 1],.tup [.int 4,.int 4]]
theorem zoY (S Z:Nat):∀ x∈far S Z,BadP x:=by
 have no:∀ {a b:V},(∀ h,okV h a)→(∀ h,okV h b)→a.plain=true→b.plain=true→(among a 1 9&&among b 1 8)=false→BadP (.tup [a,b]):=zra;have r:∀ {a b:V},among b 1 8=false→(among a 1 9&&among b 1 8)=false:=fun {a b} e=>by rw[e,Bool.and_false]
 have t:∀ i:Int,∀ h,okV h (.int i):=fun z z=>trivial;exact zab (no (t _) (t _) rfl rfl rfl) (zab (no (t _) (t _) rfl rfl (r rfl)) (zab (no (fun z=>trivial) (t _) rfl rfl rfl) (zab (no (t _) (fun z=>trivial) rfl rfl (r rfl)) (zab (zeO (S:=2) (Z:=8) ⟨by decide,by decide,by decide,by decide,by decide⟩ (.inr (by decide))) (zab (zeO (S:=9) (Z:=2) ⟨by decide,by decide,by decide,by decide,by decide⟩ (.inl (by decide))) (zab (no (t _) (t _) rfl rfl rfl) (zab (no (t _) (t _) rfl rfl rfl) (zab (no (fun z=>trivial) (t _) rfl rfl rfl) (zab (zeO (S:=4) (Z:=4) ⟨by decide,by decide,by decide,by decide,by decide⟩ (.inl (by decide))) zdo)))))))))
def BadR (S Z:Nat) (w:V):Prop:=w.val∧w.plain=true∧∀ n h,run PP (n+6) true "grown" [.int S,.int Z,w] h=.err "BadRing" h
theorem zeP (hf:Fit S Z) (hf':Fit S (Z+1)) (c:clean w) (hb:∀ h,ringB S h w=false):BadR S Z w:=⟨c.2.1,c.1,fun z h=>zke  hf hf' ⟨c.okV h,c.items h⟩ (hb h)⟩
theorem zhF (hf:Fit S Z) (hf':Fit S (Z+1)) (h2:l.length≤256) (hd:∀ d∈l,d < S) (no:¬RingOf Z (words S Z) l):BadR S Z (.l (V.nats l)):=by
 by_cases h1:1≤l.length
 ·exact⟨trivial,zak l,fun z h=>zmg  hf hf' (IsL.lst h l) h1 h2 hd no⟩
 ·have:l=[]:=eq_nil_of_length_eq_zero (Nat.lt_one_iff.1 (Nat.lt_of_not_le h1))
  subst this;exact zeP  hf hf' (ziz []) fun z=>rfl
theorem zrb (hf:Fit S Z) (hf':Fit S (Z+1)) (hx:among x 0 ((S:Int) - 1)=false) (xv:x.val) (xp:x.plain=true) (p:Nat):BadR S Z (.l (V.nats (l.take p)++[x]++V.nats (l.drop (p+1)))):=by
 have mem:∀ {d:V},d∈V.nats (l.take p)++[x]++V.nats (l.drop (p+1))→d.val∧d.plain=true:=fun {d} hd=>by
  rcases zP.1 hd with hd|hd
  ·rcases zP.1 hd with hd|hd
   ·obtain⟨_,_,rfl⟩:=zbB hd;exact⟨trivial,rfl⟩
   ·rw[zK.1 hd];exact⟨xv,xp⟩
  ·obtain⟨_,_,rfl⟩:=zbB hd;exact⟨trivial,rfl⟩
 refine zeP  hf hf' ⟨zfc fun d hd=>(mem hd).2,trivial,fun vs e d hd=>by cases e;exact(mem hd).1⟩ fun h=>?_
 show ringy S (V.nats (l.take p)++[x]++V.nats (l.drop (p+1)))=false;unfold ringy;rw[show(V.nats (l.take p)++[x]++V.nats (l.drop (p+1))).all (fun v=>among v 0 ((S:Int) - 1))=false from List.all_eq_false.2 ⟨x,mem_append_left _ (mem_append_right _ (zZ ..)),by rw[hx];exact Bool.false_ne_true⟩,Bool.and_false]
end
section
variable {n:Nat}{h g:H}{F:Fn}{ρ:List V}{S Z:Nat}{v:V}{l r:List Nat}
noncomputable abbrev Eo (S Z:Nat) (l:List Nat) (c:Int) (a v5 v6 v7:V):List V:=[.int S,.int Z,.l (V.nats l),.int c,a,v5,v6,v7]
noncomputable def odT:List PS:=[
 .ifs (.cmp .eq (.bin .mod (.v 3) (.int 12)) (.int 6)) [
  .asg 6 (.idx (.list [.list [],.none,.bf .tuple (.v 2),.bin .add (.v 2) (.v 2),.slice (.v 2) (some (.int 1)) .none]) (.bin .mod (.bin .fdiv (.v 3) (.int 12)) (.int 5)))] [],
 .ret (.tup [.v 0,.v 1,.v 6,.tup [.int 3]])]
theorem zm2 (S Z:Nat) (hw:w.val):(exSs true F [.ret (.tup [.v 0,.v 1,.v 6,.tup [.int 3]])] (Eo S Z l c a v5 w v7) h).out=.ok (.tup [.int S,.int Z,w,.tup [.int 3]]) h:=by
 refine zaQ ?_;rw[zjv,zaa (v:=.int S) rfl (zaa (v:=.int Z) rfl (zaa (zap (v:=w) rfl hw) (zaa (v:=.tup [.int 3]) rfl rfl)))];rfl
theorem zjK (hf:Fit S Z) (hf':Fit S (Z+1)) (f:Full S Z l) (h1:BadR S Z w1):∃ w,BadR S Z w∧(exSs true F odT (Eo S Z l c a v5 w1 v7) h).out=.ok (.tup [.int S,.int Z,w,.tup [.int 3]]) h:=by
 have h0:=f.pos hf.s1;have ne:∀ {k:List Nat},k.length≠l.length→¬RingOf Z (words S Z) k:=fun {k} hk e=>hk (by rw[e.1,zar,f.len])
 have ec:=zfQ (q:=true) (F:=F) (ρ:=Eo S Z l c a v5 w1 v7) (h:=h) (a:=.bin .mod (.v 3) (.int 12)) (zbw (x:=c) (y:=12) rfl rfl (by decide)) (b:=.int 6) (y:=6) rfl
 cases hb:decide (c.fmod 12=6) with
 |false =>
  rw[hb] at ec;exact⟨w1,h1,zaU ec (zm2 S Z h1.1)⟩
 |true =>
  rw[hb] at ec;have l2:(l++l).length≤256:=by
   rw[zQ,f.len]
   rcases Nat.lt_or_ge S 2 with q|q
   ·have:S=1:=Nat.le_antisymm (Nat.le_of_lt_succ q) hf.s1
    subst this;rw[Nat.one_pow];decide
   ·refine zX ?_ hf'.few
    rw[Nat.pow_succ,← Nat.mul_two];exact Nat.mul_le_mul_left _ q
  have es:evEs true F (Eo S Z l c a v5 w1 v7) [.list [],.none,.bf .tuple (.v 2),.bin .add (.v 2) (.v 2),.slice (.v 2) (some (.int 1)) .none] h=.ok [.l (V.nats []),.none,.tup (V.nats l),.l (V.nats (l++l)),.l (V.nats (l.drop 1))] h :=
   zaa rfl (zaa rfl (zaa rfl (zaa (zdW (x:=l) (y:=l) rfl rfl (by rw[←zQ];exact zX l2 (by decide))) (zaa (zcX (a:=.v 2) (v:=.l (V.nats l)) (p:=1) rfl (IsL.lst _ _) rfl) rfl))))
  obtain⟨w,ew,hw⟩:=pick (F:=F) (ρ:=Eo S Z l c a v5 w1 v7) (h:=h) (i:=.bin .mod (.bin .fdiv (.v 3) (.int 12)) (.int 5)) (c:=c.fdiv 12) (m:=5) (BadR S Z) (by decide) rfl es (zbw (zbJ (x:=c) (y:=12) rfl rfl (by decide)) rfl (by decide)) (zab (zhF  hf hf' (Nat.zero_le _) (fun z h=>nomatch h) (ne (Nat.ne_of_lt h0)))
   (zab (zeP  hf hf' (zdU rfl trivial fun z e=>nomatch e) fun z=>rfl) (zab (zeP  hf hf' (zdU (zak l) trivial fun z e=>nomatch e) fun z=>rfl) (zab (zhF  hf hf' l2 (fun d hd=>f.lt d ((zP.1 hd).elim id id)) (ne (by rw[zQ];exact Nat.ne_of_gt (Nat.lt_add_of_pos_left h0))))
   (zab (zhF  hf hf' (by rw[length_drop,f.len];exact zX (Nat.sub_le ..) hf.few) (fun d hd=>f.lt d (mem_of_mem_drop hd)) (ne (by rw[length_drop];exact Nat.ne_of_lt (Nat.sub_lt h0 Nat.one_pos)))) zdo))))) (Nat.le_of_ble_eq_true rfl)
  exact⟨w,hw,zdv ec (zax ew (ρ':=Eo S Z l c a v5 w v7) rfl (zm2 S Z hw.1))⟩
theorem znR (hx:x < S) (hm:m < S - 1):(x+1+m) % S≠x:=by
 rcases Nat.lt_or_ge (x+1+m) S with q|q
 ·rw[Nat.mod_eq_of_lt q];exact Nat.ne_of_gt (Nat.le_add_right _ _)
 ·have h1:x+1+m - S < x:=Nat.sub_lt_left_of_lt_add q (by
   rw[Nat.add_assoc,Nat.add_comm S,Nat.add_comm 1];exact Nat.add_lt_add_left (Nat.add_lt_of_lt_sub hm) x)
  rw[Nat.mod_eq_sub_mod q,Nat.mod_eq_of_lt (Nat.lt_trans h1 hx)];exact Nat.ne_of_lt h1
noncomputable def spE (e:PE):PE:=.bin .add (.bin .add (.slice (.v 2) .none (some (.v 4))) (.list [e])) (.slice (.v 2) (some (.bin .add (.v 4) (.int 1))) .none)
theorem zpC {c:Int}{j:Nat}{v5 v6 v7 x:V}{e:PE}(hl:l.length≤256) (ex:evE true F (Eo S Z l c (.int j) v5 v6 v7) e h=.ok x h):evE true F (Eo S Z l c (.int j) v5 v6 v7) (spE e) h=.ok (.l (V.nats (l.take j)++[x]++V.nats (l.drop (j+1)))) h:=by
 have ex':evE true F (Eo S Z l c (.int j) v5 v6 v7) (.list [e]) h=.ok (.l [x]) h:=by rw[zjw,zaa ex rfl];rfl
 have t1:=zX (zd7 l j) hl;have t2:=zX (zeH l (j+1)) hl;exact zkQ (zkQ (zji (a:=.v 2) (e:=.v 4) (v:=.l (V.nats l)) (p:=j) rfl (IsL.lst _ _) rfl) ex' rfl rfl (by rw[nats_length];exact zX (Nat.add_le_add_right t1 1) (by decide))) (zcX (a:=.v 2) (e:=.bin .add (.v 4) (.int 1)) (v:=.l (V.nats l)) (p:=j+1) rfl (IsL.lst _ _) (add1 rfl)) rfl rfl (by
  rw[zQ,nats_length,nats_length];exact zX (Nat.add_le_add (Nat.add_le_add_right t1 1) t2) (by decide))
noncomputable def odM:List PS :=
 .ifs (.and [.cmp .lt (.bin .mod (.v 3) (.int 12)) (.int 6),.cmp .gt (.v 0) (.int 1)]) [
  .asg 7 (.bin .mod (.bin .add (.bin .add (.idx (.v 2) (.v 4)) (.int 1)) (.bin .mod (.bin .fdiv (.v 3) (.int 200)) (.bin .sub (.v 0) (.int 1)))) (.v 0)),
  .asg 6 (spE (.v 7))] []::odT
theorem zqa (hf:Fit S Z) (hf':Fit S (Z+1)) (f:Full S Z l) (hj:j < l.length) (h1:BadR S Z w1):∃ w,BadR S Z w∧(exSs true F odM (Eo S Z l c (.int j) v5 w1 .uu) h).out=.ok (.tup [.int S,.int Z,w,.tup [.int 3]]) h:=by
 have hl:l.length≤256:=by rw[f.len];exact hf.few
 have e1:evE true F (Eo S Z l c (.int j) v5 w1 .uu) (.cmp .lt (.bin .mod (.v 3) (.int 12)) (.int 6)) h=.ok (.bool (decide (c.fmod 12 < 6))) h:=by
  rw[zbo,zbw (x:=c) (y:=12) rfl rfl (by decide)];rfl
 have e2:evE true F (Eo S Z l c (.int j) v5 w1 .uu) (.cmp .gt (.v 0) (.int 1)) h=.ok (.bool (decide ((1:Int) < S))) h:=rfl;have e3:=zmK e1 fun z=>e2
 cases hb:(decide (c.fmod 12 < 6)&&decide ((1:Int) < S)) with
 |false =>
  rw[hb] at e3;obtain⟨w,hw,e⟩:=zjK (F:=F) (h:=h) hf hf' f (c:=c) (a:=.int j) (v5:=v5) (v7:=.uu) h1;exact⟨w,hw,zaU e3 e⟩
 |true =>
  rw[hb] at e3;have h2:1 < S:=Int.ofNat_lt.1 (zV (yK.1 hb).2);obtain⟨m,hm,em⟩:=za8 (c.fdiv 200) (S - 1) (Nat.sub_pos_of_lt h2);have sub:((S:Nat):Int) - 1=((S - 1:Nat):Int):=(Int.ofNat_sub (Nat.le_of_lt h2)).symm;have e7:evE true F (Eo S Z l c (.int j) v5 w1 .uu) (.bin .mod (.bin .add (.bin .add (.idx (.v 2) (.v 4)) (.int 1)) (.bin .mod (.bin .fdiv (.v 3) (.int 200)) (.bin .sub (.v 0) (.int 1)))) (.v 0)) h=.ok (.int (((l[j]+1+m) % S:Nat):Int)) h:=by
   have a1:=zb4 (F:=F) (ρ:=Eo S Z l c (.int j) v5 w1 .uu) (h:=h) (a:=.v 2) (i:=.v 4) (j:=j) (v:=.l (V.nats l)) rfl rfl rfl (zaX (zM hj));have a2:evE true F (Eo S Z l c (.int j) v5 w1 .uu) (.bin .mod (.bin .fdiv (.v 3) (.int 200)) (.bin .sub (.v 0) (.int 1))) h=.ok (.int m) h:=by
    rw[zbw (zbJ (x:=c) (y:=200) rfl rfl (by decide)) (y:=((S - 1:Nat):Int)) ((ziH (x:=S) (y:=1) rfl rfl).trans (by rw[sub])) (Int.natCast_ne_zero.2 (Nat.ne_of_gt (Nat.sub_pos_of_lt h2))),em]
   exact zlC (x:=l[j]+1+m) (zfT (x:=((l[j]+1:Nat):Int)) (y:=m) (add1 a1) a2) rfl hf.s1
  have other:=f.other hf.s1 hf.z1 hj (znR (f.lt _ (getElem_mem hj)) hm);have e6:=zpC (F:=F) (h:=h) (S:=S) (Z:=Z) (c:=c) (j:=j) (v5:=v5) (v6:=w1) (v7:=.int (((l[j]+1+m) % S:Nat):Int)) (e:=.v 7) hl rfl;rw[show V.nats (l.take j)++[V.int (((l[j]+1+m) % S:Nat):Int)]++V.nats (l.drop (j+1))=V.nats (l.take j++[(l[j]+1+m) % S]++l.drop (j+1)) by rw[zas,zas];rfl] at e6
  have br:BadR S Z (.l (V.nats (l.take j++[(l[j]+1+m) % S]++l.drop (j+1)))):=zhF  hf hf' (by
   rw[zQ,zQ,length_take,length_drop,length_singleton,Nat.min_eq_left (Nat.le_of_lt hj),Nat.add_sub_of_le hj];exact hl) (fun d hd=>by
   rcases zP.1 hd with hd|hd
   ·rcases zP.1 hd with hd|hd
    ·exact f.lt d (mem_of_mem_take hd)
    ·rw[zK.1 hd];exact Nat.mod_lt _ hf.s1
   ·exact f.lt d (mem_of_mem_drop hd)) other
  obtain⟨w,hw,e⟩:=zjK (F:=F) (h:=h) hf hf' f (c:=c) (a:=.int j) (v5:=v5) (v7:=.int (((l[j]+1+m) % S:Nat):Int)) br;exact⟨w,hw,zdv e3 (zax e7 (ρ':=Eo S Z l c (.int j) v5 w1 (.int (((l[j]+1+m) % S:Nat):Int))) rfl (zax e6 (ρ':=Eo S Z l c (.int j) v5 (.l (V.nats (l.take j++[(l[j]+1+m) % S]++l.drop (j+1)))) (.int (((l[j]+1+m) % S:Nat):Int))) rfl e))⟩
theorem zrL (hf:Fit S Z) (hf':Fit S (Z+1)) (f:Full S Z l) (c:Int):∃ a b w e,pcall h (run PP (n+1) true "_law_odd" [.int S,.int Z,.l (V.nats l),.int c] h)=.ok (.tup [a,b,w,.tup [.int (codeOf e)]]) h∧a.val∧b.val∧w.val∧e∈["BadSize","BadWord","BadBook","BadRing","NoWord","NoRing","NoJoin"]∧∀ n h,run PP (n+6) true "grown" [a,b,w] h=.err e h:=by
 have h0:=f.pos hf.s1;have hl:l.length≤256:=by rw[f.len];exact hf.few
 obtain⟨j,hj,ej⟩:=za8 (c.fdiv 12) l.length h0;have e4:evE true (run PP n) (Eo S Z l c .uu .uu .uu .uu) (.bin .mod (.bin .fdiv (.v 3) (.int 12)) (.bf .len (.v 2))) h=.ok (.int j) h:=by
  have ln:=zaO (F:=run PP n) (ρ:=Eo S Z l c .uu .uu .uu .uu) (h:=h) (a:=.v 2) (v:=.l (V.nats l)) rfl rfl;rw[nats_length] at ln;rw[zbw (zbJ (x:=c) (y:=12) rfl rfl (by decide)) ln (Int.natCast_ne_zero.2 (Nat.ne_of_gt h0)),ej]
 have e5:evE true (run PP n) (Eo S Z l c (.int j) .uu .uu .uu) (.cmp .lt (.bin .mod (.v 3) (.int 12)) (.int 3)) h=.ok (.bool (decide (c.fmod 12 < 3))) h:=by
  rw[zbo,zbw (x:=c) (y:=12) rfl rfl (by decide)];rfl
 cases hb:decide (c.fmod 12 < 3) with
 |true =>
  rw[hb] at e5;obtain⟨i,_,ei,x,hx,ex⟩:=zgG (h:=h) (vs:=far S Z) (i:=c.fdiv 12) (m:=10) (by decide) rfl
  obtain⟨a,b,rfl,va,vb,pa,pb,bad⟩:=zoY  S Z x (mem_of_getElem? hx);obtain⟨w,ew,hw⟩:=pick (F:=run PP n) (ρ:=Eo S Z l c (.int j) (.l (far S Z)) .uu .uu) (h:=h) (es:=[.v 2,.list [.int 9],.none]) (vs:=[.l (V.nats l),.l [.int 9],.none]) (i:=.bin .mod (.bin .fdiv (.v 3) (.int 120)) (.int 3)) (c:=c.fdiv 120) (m:=3) (fun w=>w.val∧w.plain=true) (by decide) rfl rfl (zbw (zbJ (x:=c) (y:=120) rfl rfl (by decide)) rfl (by decide)) (zab ⟨trivial,zak l⟩ (zab ⟨trivial,rfl⟩ (zab ⟨trivial,rfl⟩ zdo))) (Nat.le_of_ble_eq_true rfl)
  have xe:evE true (run PP n) (Eo S Z l c (.int j) (.l (far S Z)) .uu .uu) (.idx (.v 5) (.bin .mod (.bin .fdiv (.v 3) (.int 12)) (.int 10))) h=.ok (.tup [a,b]) h:=by
   rw[zce,show evE true (run PP n) (Eo S Z l c (.int j) (.l (far S Z)) .uu .uu) (.v 5) h=.ok (.l (far S Z)) h from rfl,R.bind_ok,zbw (zbJ (x:=c) (y:=12) rfl rfl (by decide)) (y:=10) rfl (by decide),R.bind_ok,show(10:Int)=((10:Nat):Int) from rfl,ex];rfl
  have x0:evE true (run PP n) (Eo S Z l c (.int j) (.l (far S Z)) .uu .uu) (.idx (.idx (.v 5) (.bin .mod (.bin .fdiv (.v 3) (.int 12)) (.int 10))) (.int 0)) h=.ok a h:=by rw[zce,xe];rfl
  have x1:evE true (run PP n) (Eo S Z l c (.int j) (.l (far S Z)) .uu .uu) (.idx (.idx (.v 5) (.bin .mod (.bin .fdiv (.v 3) (.int 12)) (.int 10))) (.int 1)) h=.ok b h:=by rw[zce,xe];rfl
  refine⟨a,b,w,"BadSize",?_,va,vb,hw.1,by decide,bad w⟩
  have fin:run PP (n+1) true "_law_odd" [.int S,.int Z,.l (V.nats l),.int c] h=.ok (.tup [a,b,w,.tup [.int 0]]) h:=by
   refine start zi9 rfl (ρ:=Eo S Z l c .uu .uu .uu .uu) rfl (zax e4 (ρ':=Eo S Z l c (.int j) .uu .uu .uu) rfl (zdv e5 (zax (v:=.l (far S Z)) (h':=h) rfl (ρ':=Eo S Z l c (.int j) (.l (far S Z)) .uu .uu) rfl (zaQ ?_))));rw[zjv,zaa x0 (zaa x1 (zaa ew (zaa (v:=.tup [.int 0]) rfl rfl)))];rfl
  rw[fin,zan (by show(a.plain&&(b.plain&&(w.plain&&_)))=true;rw[pa,pb,hw.2];rfl)];rfl
 |false =>
  rw[hb] at e5;have sx:∀ {x:Int},¬(0≤x∧x≤(S:Int) - 1)→among (.int x) 0 ((S:Int) - 1)=false:=fun {x} hx=>by
   cases q:among (.int x) 0 ((S:Int) - 1) with
   |false=>rfl
   |true=>exact absurd ⟨zV (yK.1 q).1,zV (yK.1 q).2⟩ hx
  obtain⟨x,ex,hx,xv,xp⟩:=pick (F:=run PP n) (ρ:=Eo S Z l c (.int j) .uu .uu .uu) (h:=h) (es:=[.neg 1,.v 0,.bool true,.none]) (vs:=[.int (-1),.int S,.bool true,.none]) (i:=.bin .mod (.bin .fdiv (.v 3) (.int 3)) (.int 4)) (c:=c.fdiv 3) (m:=4) (fun x=>among x 0 ((S:Int) - 1)=false∧x.val∧x.plain=true) (by decide) rfl rfl (zbw (zbJ (x:=c) (y:=3) rfl rfl (by decide)) rfl (by decide)) (zab ⟨sx (by omega),trivial,rfl⟩ (zab ⟨sx (by omega),trivial,rfl⟩ (zab ⟨rfl,trivial,rfl⟩ (zab ⟨rfl,trivial,rfl⟩ zdo)))) (Nat.le_of_ble_eq_true rfl)
  obtain⟨w,hw,e⟩:=zqa (F:=run PP n) (h:=h) hf hf' f (c:=c) (v5:=.uu) hj (zrb (l:=l) hf hf' hx xv xp j);refine⟨.int S,.int Z,w,"BadRing",?_,trivial,trivial,hw.1,by decide,hw.2.2⟩
  rw[start zi9 rfl (ρ:=Eo S Z l c .uu .uu .uu .uu) rfl (zax e4 (ρ':=Eo S Z l c (.int j) .uu .uu .uu) rfl (zaU e5 (zax (zpC hl ex) (ρ':=Eo S Z l c (.int j) .uu (.l (V.nats (l.take j)++[x]++V.nats (l.drop (j+1)))) .uu) rfl e))),zan (by show(true&&(true&&(w.plain&&_)))=true;rw[hw.2.1];rfl)];rfl
end
section
variable {n:Nat}{h g:H}{F:Fn}{ρ:List V}{S Z:Nat}{v:V}{l r:List Nat}
theorem zmA (eo:evE true F ρ o g=.ok (.ref c) g) (hc:g[c]?=some (.list vs)):evE true F ρ (.clear o) g=.ok .none (g.set c (.list [])):=by
 rw[zrz,eo,R.bind_ok,za4 hc _ .none [] rfl (Nat.zero_le _)]
theorem zkK (hf:Fit S Z) (hf':Fit S (Z+1)) (f:Full S Z l) (hl:IsL h v l):∃ a e,run PP (n+7) true "_law_asked" [.int S,.int Z,v] h=.ok (.ref a) (h++e)∧(h++e)[a]?=some (.list (V.nats (gr S Z l)))∧h.length≤a:=by
 obtain⟨a,e,e1,hc⟩:=zoM (n:=n) (h:=h) hf hf' f hl;exact⟨a,e,zmG  trivial trivial hl.val e1,hc⟩
theorem zqe (hc:(h++e)[a]?=some (.list (V.nats l))) (ha:h.length≤a):pcall h (.ok (.ref a) (h++e))=.ok (.l (V.nats l)) h:=za3 ((Ext.refl h).app _) (zcl ha hc)
noncomputable abbrev Ew (s:List Int) (a b l c d k t p:V):List V:=[V.ints s,.l pairs,a,b,l,c,d,k,t,p]
theorem zlR (hf:Fit S Z) (hf':Fit S (Z+1)) (f:Full S Z l) (s:List Int) (c:V):∃ H',(exSs true (run PP (n+7)) (zmL.body.drop 5) (Ew s (.int S) (.int Z) (.l (V.nats l)) c .uu .uu .uu .uu) []).out=.ok (.bool true) H':=by
 obtain⟨a,e,e8,hc,ha⟩:=zkK (n:=n) (h:=[.list (V.nats l)]) hf hf' f (IsL.ref (i:=0) rfl);have fr:=(zj1 (n:=n) (h:=[]) f hf').1;generalize hG:[Cell.list (V.nats l)]++e=G at e8 hc;have g0:G[0]?=some (.list (V.nats l)):=by rw[←hG];rfl
 have c1:=zl6 (n:=n+5) hf' fr (IsL.ref hc);obtain⟨a2,e2,ej,hc2,ha2⟩:=zj1 (n:=n+3) (h:=G) f hf' |>.2;have again:∀ g:H,pcall g (run PP (n+7) true "_law_asked" [.int S,.int Z,.l (V.nats l)] g)=.ok (.l (V.nats (gr S Z l))) g:=fun g=>by
  obtain⟨a',e',e1,hc',ha'⟩:=zkK (n:=n) (h:=g) hf hf' f (IsL.lst g l);rw[e1];exact zqe hc' ha'
 have n8:(gr S Z l).length≤256:=by rw[fr.len];exact hf'.few
 generalize gr S Z l=r at *
 have lv:∀ {d k t p:V}{g:H},evE true (run PP (n+7)) (Ew s (.int S) (.int Z) (.l (V.nats l)) c d k t p) (.bf .list (.v 4)) g=.ok (.l (V.nats l)) g:=fun {d k t p g}=>rfl;have ga:((G.set a (.list (V.nats (r++[0])))).set 0 (.list []))[a]?=some (.list (V.nats (r++[0]))):=by
  rw[List.getElem?_set_ne (Nat.ne_of_lt (show 0 < a from ha)),List.getElem?_set_self (List.getElem?_eq_some_iff.1 hc).1]
 have g0':(G.set a (.list (V.nats (r++[0]))))[0]?=some (.list (V.nats l)):=by rw[List.getElem?_set_ne (Nat.ne_of_gt (show 0 < a from ha))];exact g0
 refine⟨(G.set a (.list (V.nats (r++[0])))).set 0 (.list []),?_⟩;refine zax (zc3 lv) (ρ':=Ew s (.int S) (.int Z) (.l (V.nats l)) c .uu (.ref 0) .uu .uu) rfl ?_;refine zax (v:=.ref a) (h':=G) ?_ (ρ':=Ew s (.int S) (.int Z) (.l (V.nats l)) c .uu (.ref 0) (.ref a) .uu) rfl ?_
 ·rw[za2,zaa (v:=.int S) rfl (zaa (v:=.int Z) rfl (zaa (v:=.ref 0) rfl rfl)),R.bind_ok]
  exact e8
 refine zaU (h':=G) (zpm (x:=false) (y:=false) (zaK (x:=true) (zaH (v:=.ref a) (w:=.int S) rfl rfl (add1 rfl) c1)) (zpn (t:=true) (v:=.ref 0) (w:=.l (V.nats l)) rfl rfl (by rw[zfb (IsL.ref g0) (IsL.lst G l),zW rfl]))) ?_
 refine zaU (h':=G) (zpn (t:=true) (v:=.ref a) (w:=.l (V.nats r)) rfl (zaE (add1 rfl) (zaE (v:=.int S) (w:=.l (V.nats l)) rfl lv (zm7 (n:=n+4) f hf' (IsL.lst G l))) (by rw[ej];exact zqe hc2 ha2)) (by rw[zfb (IsL.ref hc) (IsL.lst G r),zW rfl])) ?_
 refine zax (zgu (v:=.ref a) rfl (zah hc)) (ρ':=Ew s (.int S) (.int Z) (.l (V.nats l)) c .uu (.ref 0) (.ref a) (.l (V.nats r))) rfl ?_;refine zaD (h':=G.set a (.list (V.nats (r++[0])))) ((zcN (o:=.v 8) (a:=.int 0) (y:=.int 0) (c:=a) rfl hc rfl (by rw[nats_length];exact zX n8 (by decide))).trans (by rw[nats0])) ?_
 refine zaD (zmA (o:=.v 7) (c:=0) rfl g0') (zaQ ?_);generalize (G.set a (.list (V.nats (r++[0])))).set 0 (.list [])=G2 at *
 refine zmK (x:=true) (y:=true) (zqY (v:=.l (V.nats r)) (w:=.l (V.nats r)) (zaH (v:=.int S) (w:=.int Z) (x:=.l (V.nats l)) rfl rfl lv (again G2)) rfl (by rw[zfb (IsL.lst G2 r) (IsL.lst G2 r),zW rfl])) fun z=>?_
 refine zqY (v:=.ref a) (w:=.l (V.nats (r++[0]))) rfl ?_ (by rw[zfb (IsL.ref ga) (IsL.lst G2 _),zW rfl])
 exact zdW (x:=r) (y:=[0]) rfl rfl (zX (Nat.add_le_add_right n8 1) (by decide))
theorem zls {c:Int}:∃ S Z:Nat,Fit S Z∧Fit S (Z+1)∧okF S Z=true∧pyIdx h (.l pairs) (.int (c.fmod 13))=some (.tup [.int S,.int Z]):=by
 obtain⟨j,_,_,x,hx,ex⟩:=zgG (h:=h) (vs:=pairs) (i:=c) (m:=13) (by decide) rfl
 obtain⟨S,Z,hf,hf',o,rfl⟩:=ziq x (mem_of_getElem? hx);exact⟨S,Z,hf,hf',o,ex⟩
theorem law_eq (n:Nat) (s:List Int):∃ H',run PP (n+8) true "law" [V.ints s] []=.ok (.bool true) H':=by
 obtain⟨S,Z,hf,hf',o,ep⟩:=zls (h:=[]) (c:=cellAt s 0);obtain⟨l,f,el⟩:=zot (n:=n+4) (h:=[]) hf o s;have cell:∀ (k:Nat){ρ:List V},ρ[0]?=some (V.ints s)→evE true (run PP (n+7)) ρ (.call false "_law_cell_at" [.v 0,.int k]) []=.ok (.int (cellAt s k)) []:=fun k {ρ} e=>zaE (zap e trivial) rfl (znp (n:=n+6) s k);have go:∀ {r:R V},(exSs true (run PP (n+7)) (zmL.body.drop 4) (Ew s (.int S) (.int Z) (.l (V.nats l)) (.int (cellAt s 3)) .uu .uu .uu .uu) []).out=r→run PP (n+8) true "law" [V.ints s] []=r:=fun {r} k=>by
  refine start znD rfl (ρ:=[V.ints s,.uu,.uu,.uu,.uu,.uu,.uu,.uu,.uu,.uu]) rfl ?_;refine zax (v:=.l pairs) (h':=[]) rfl (ρ':=Ew s .uu .uu .uu .uu .uu .uu .uu .uu) rfl ?_;refine zm3 (vs:=[.int S,.int Z]) (h':=[]) ?_ (ρ':=Ew s (.int S) (.int Z) .uu .uu .uu .uu .uu .uu) rfl ?_
  ·have em:evE true (run PP (n+7)) (Ew s .uu .uu .uu .uu .uu .uu .uu .uu) (.bin .mod (.call false "_law_cell_at" [.v 0,.int 0]) (.int 13)) []=.ok (.int ((cellAt s 0).fmod 13)) []:=zbw (cell 0 rfl) rfl (by decide)
   rw[zce,show evE true (run PP (n+7)) (Ew s .uu .uu .uu .uu .uu .uu .uu .uu) (.v 1) []=.ok (.l pairs) [] from rfl,R.bind_ok,em,R.bind_ok,ep];rfl
  ·exact zax (zaH (v:=V.ints s) (w:=.int S) (x:=.int Z) rfl rfl rfl el) (ρ':=Ew s (.int S) (.int Z) (.l (V.nats l)) .uu .uu .uu .uu .uu) rfl (zax (cell 3 rfl) (ρ':=Ew s (.int S) (.int Z) (.l (V.nats l)) (.int (cellAt s 3)) .uu .uu .uu .uu) rfl k)
 have ec:=zfQ (q:=true) (F:=run PP (n+7)) (ρ:=Ew s (.int S) (.int Z) (.l (V.nats l)) (.int (cellAt s 3)) .uu .uu .uu .uu) (h:=[]) (a:=.bin .mod (.v 5) (.int 5)) (zbw (x:=cellAt s 3) (y:=5) rfl rfl (by decide)) (b:=.int 1) (y:=1) rfl
 cases hb:decide ((cellAt s 3).fmod 5=1) with
 |false =>
  rw[hb] at ec;obtain⟨H',e⟩:=zlR (n:=n) hf hf' f s (.int (cellAt s 3));exact⟨H',go (zaU ec e)⟩
 |true =>
  rw[hb] at ec;obtain⟨a,b,w,e,eo,va,vb,vw,he,bad⟩:=zrL (n:=n+6) (h:=[])  hf hf' f ((cellAt s 3).fdiv 5);refine⟨[],go (zdv ec (zm3 (vs:=[a,b,w,.tup [.int (codeOf e)]]) (h':=[]) ?_ (ρ':=Ew s a b w (.int (cellAt s 3)) (.tup [.int (codeOf e)]) .uu .uu .uu) rfl (zaQ ?_)))⟩
  ·rw[za2,zaa (v:=.int S) rfl (zaa (v:=.int Z) rfl (zaa (v:=.l (V.nats l)) rfl (zaa (zbJ (x:=cellAt s 3) (y:=5) rfl rfl (by decide)) rfl))),R.bind_ok]
   exact eo
  ·refine zqY (v:=.tup [.int (codeOf e)]) (w:=.tup [.int (codeOf e)]) (zaH (v:=a) (w:=b) (x:=w) (zap rfl va) (zap rfl vb) (zap rfl vw) (by rw[zkL (n:=n) va vb vw he (bad n []),zan rfl])) rfl ?_
   rw[zcf [] rfl rfl rfl rfl];show some ((codeOf e == codeOf e)&&true)=_;rw[beq_self_eq_true];rfl
end
end L13
end Mine.Internal
set_option maxRecDepth 100000
set_option maxHeartbeats 8000000
namespace Mine.Internal
open PySem PySem.W PyProof.Rows
theorem b2:(defOf view PySem.Challenge.rw_uf010021_13.row.name).isSome=true:=by kernel_rfl
theorem b3:PySem.Challenge.rw_uf010021_13.row.prog.theDef PySem.Challenge.rw_uf010021_13.row.name=(defOf view PySem.Challenge.rw_uf010021_13.row.name).map fun x=>(x.1.params,x.1.body,x.1.scope):=by kernel_rfl
theorem b4:((defOf view PySem.Challenge.rw_uf010021_13.row.name).map fun x=>kwWritten? x.1.params.kwonlyargs x.1.params.kw_defaults)=(defOf view PySem.Challenge.rw_uf010021_13.row.name).map fun x=>some x.2:=by kernel_rfl
theorem b5:(chainsOk view&&opensWell PySem.Challenge.rw_uf010021_13.row.prog&&(frees PySem.Challenge.rw_uf010021_13.row.toRowW&&PySem.Challenge.rw_uf010021_13.row.within.isEmpty))=true:=by kernel_rfl
theorem b6:PySem.Challenge.rw_uf010021_13.row.prog.bare:=⟨rfl,rfl,rfl,rfl,rfl,by decide +kernel⟩
theorem b7:PySem.Challenge.rw_uf010021_13.row.toRowW.promised:=by w_witness2
theorem b8:importsNone view=true:=by kernel_rfl
theorem b9:zgb view=true:=by kernel_rfl
theorem b10:defChk view L13.fns L13.nums L13.tl=true:=by kernel_rfl
theorem b11:fnsChk view L13.fns=true:=by kernel_rfl
set_option tactic.hygienic true in
theorem b12 {w:World}{s₀ s₁:Shared}{args:List WData}{vals:List Value}{as:List Addr}(hpre:PySem.Challenge.rw_uf010021_13.row.claim.pre args=true) (hlay:WData.layableAll args=true) (hrd:ReadsAllW PySem.Challenge.rw_uf010021_13.row.records (classAt s₀.heap) s₁.heap vals args as) (hwl:WellAll w.params s₁.heap vals args) (hlo:∀ a∈as,(a == sysModules)=false):∃ a xs l,vals=[Value.ref a]∧s₁.heap.IsList a (List.toArray xs)∧IntsAre xs l∧¬ (63:Int) < (l.length:Int):=by
 wrow_args hpre hlay hrd hwl hlo
 rename_i hL _ _ _ hI _ hc _
 exact⟨_,_,_,rfl,hL,hI,hc⟩
end Mine.Internal
open PySem PySem.W PyProof.Rows
theorem PySem.Challenge.cw_uf010021_13_holds : PySem.Challenge.rw_uf010021_13.Holds := by
 refine Mine.Internal.zlQ Mine.Internal.b0 (row_said Mine.Internal.b0) Mine.Internal.b1 Mine.Internal.b2 Mine.Internal.b3 Mine.Internal.b4 rfl Mine.Internal.b5 Mine.Internal.b6 Mine.Internal.b7 ?_;intro d kwd hdef w s₀ s₁ mg mb G Y fa o pm cd doc dV kV ho hd hcd hD hmg hg args vals as hpre hlay hrd hwl hlo;rw[defOf_name hdef] at hmg
 clear ho hd hcd hD hdef
 refine Mine.Internal.hold fun X_ k_=>?_;obtain⟨K,KX,k3,k5,k8⟩:=Y;obtain⟨a,xs,l,rfl,hL,hI,hc⟩:=Mine.Internal.b12 hpre hlay hrd hwl hlo;obtain⟨H',hrun⟩:=Mine.Internal.L13.law_eq 0 l;refine k_ (Ground.open G fun T B D TE TW=>Mine.Internal.zqo T KX Mine.Internal.b8 rfl k3 Mine.Internal.b9 k5 Mine.Internal.b10 Mine.Internal.b11 k8 (List.contains_iff_mem.1 (by kernel_rfl)) hmg hL hI hc (by decide) hrun fun s' hs hk=>?_)
 obtain⟨h',tk,rfl⟩:=hs;exact⟨.inl ⟨.bool true,.bool true,[],rfl,fun z=>rfl,.bool true,by kernel_rfl,unshared_nil⟩,.of_keep hk,rfl,.of_eq hg⟩
