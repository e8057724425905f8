import PyProof.Rows.All
import Wide.All
import OpenK.AllK
import Wide.FinOn
import PySem.Value
import PyProof.Cells
import PyProof.CompFree
import PyProof.StationsW
import PyProof.RulesTry
import PyProof.TupleIter
import PyProof.TupleKey
import PyProof.DictKinds
import OpenK.KCall
import PyProof.NoPylong
import PyProof.Rows.IntRules
import PyProof.Rows.RuleB_sub
import PyProof.Rows.RuleB_mul
import PyProof.Rows.RuleB_mod
import PyProof.Rows.RuleB_floordiv
import PyProof.Rows.RuleB_pow
import PyProof.Rows.TupAdd
import PyProof.Rows.ListMul
import PyProof.ListMulAny
import PyProof.FitsBits
import PyProof.EqLayable
import PyProof.P3In
import PyProof.IsRules
import PyProof.PureInt
import PyProof.Rows.RuleC_int
import KE.KSortAsk
import PyProof.MeetsSeq3
import PyProof.FactsAll.list_2
import PyProof.Rows.SortWalk
import PyProof.MinMaxWalk
import PyProof.DictRoadsH
import PyProof.Rows.SeqSlice
import PyProof.SliceMore
import PyProof.ListIndexNeg
import PyProof.LetGo
import PyProof.Rows.TupSub
import PyProof.WalksMore
import PyProof.RangeFor
import PyProof.DictIter
import PyProof.DictWalks
import KE.KDictList
import PyProof.ConsumeWalk
import PyProof.TupleOfSeq
import PyProof.TupleCall
import PyProof.ListCopy
import PyProof.CallStr
import PyProof.Conv_int_bool
import PyProof.ListRange
import KE.KRevIter
import KE.KIsAll
import PyProof.Rows.StrJoin2
import PyProof.SeqWrite
import PyProof.ExcArgsOwn
import KE.KTryMore
import PyProof.MakeMany
import PyProof.CallType
import PyProof.CallRoads
import KE.KSortTup
import PyProof.FactsAll.str_0
import PyProof.FactsAll.str_5
import PyProof.FactsAll.list_0
import PyProof.FactsAll.list_3
import PyProof.FactsAll.list_4
import PyProof.MeetsSeq
import PyProof.Rows.TupMore
import PyProof.FactsAll.dict_3
import PyProof.Rows.TupDisplay
import PyProof.ForRange
import PyProof.Rows.Range3
import KE.KStateDown
import PyProof.CompMap
import PyProof.ExcAttrAll.ValueError
import PyProof.CompUse
import PyProof.Raises
import PyProof.Rows.TupAssign
import PyProof.ForAny
import PyProof.ExcBaseAll.ValueError
import PyProof.NsDelKeeps
import PyProof.RulesAs
import OpenK.KWalk
import PyProof.Rows.Top
import PyProof.Rows.TupIn
import Wide.BridgeG
import Wide.Loose
import Open.Head
import PySem.Challenge.RW_uf010021_11
namespace Mine
noncomputable def zZ := @List.mem_cons_self
noncomputable def zY := @List.mem_cons_of_mem
noncomputable def zQ := @List.length_append
noncomputable def zJ := @List.length_map
noncomputable def zK := @List.mem_singleton
noncomputable def zX := @Nat.le_trans
noncomputable def zW := @decide_eq_true
noncomputable def zV := @of_decide_eq_true
noncomputable def zU := @decide_eq_false
noncomputable def zT := @if_pos
noncomputable def zR := @if_neg
noncomputable def zP := @List.mem_append
noncomputable def zN := @List.mem_cons
noncomputable def zM := @List.getElem?_eq_getElem
noncomputable def yZ := @List.nodup_cons
noncomputable def yY := @List.map_cons
noncomputable def yQ := @List.mem_map
noncomputable def yJ := @List.append_assoc
noncomputable def yK := @Bool.and_eq_true_iff
noncomputable def yX := @PySem.wpAny_bind
noncomputable def yW := @PySem.wpAny_pure
noncomputable def yV := @PySem.wpAny_mono
noncomputable def yU := @PySem.wpAny_holding
end Mine
open List (all_eq_true all_map append_nil cons_append drop_length drop_zero eq_nil_of_length_eq_zero ext_getElem filterMap_cons filter_append filter_cons_of_neg filter_cons_of_pos foldl_cons getElem_map getElem_mem getElem_of_mem getElem_range length_cons length_drop length_erase_le length_erase_of_mem length_filter_le length_nil length_pos_of_mem length_range length_set length_singleton length_take lookup_cons map_append map_congr_left map_const' map_drop map_map map_nil map_set map_take mem_append_left mem_append_right mem_erase_of_ne mem_filter mem_of_getElem? mem_of_mem_erase mem_of_mem_take nodup_append not_mem_nil set_append_right set_set size_toArray take_append_drop take_left' take_length zip_cons_cons)
set_option tactic.hygienic false
set_option genInjectivity false
set_option Elab.async false
set_option bootstrap.genMatcherCode false
set_option genSizeOf false
set_option linter.unusedSimpArgs false
set_option linter.unusedVariables false
section
set_option maxRecDepth 100000
set_option maxHeartbeats 8000000
namespace Mine
open PySem PySem.W PyProof.Rows
noncomputable def zad:List String:=["RingError","BadSize","BadWord","BadBook","BadRing","NoWord","NoRing","NoJoin"]
noncomputable def bTab:List (Str × Value) :=
 [("len",.builtin "len"),("all",.builtin "all"),("any",.builtin "any"),("isinstance",.builtin "isinstance"),("sorted",.builtin "sorted"),("min",.builtin "min"),("sum",.builtin "sum"),
  ("list",.type "list"),("tuple",.type "tuple"),("int",.type "int"),("str",.type "str"),("bool",.type "bool"),("range",.type "range"),("reversed",.type "reversed"),
  ("enumerate",.type "enumerate"),("ValueError",.type "ValueError")]
noncomputable def refB (o:Option (Option Value)) (f:Addr→Bool):Bool:=match o with
 |some (some (.ref C))=>f C
 |_=>false
noncomputable def excOne (K:Frag) (c:String) (C:Addr):Bool :=
 findIn K (.ref C) "__getattribute__" == some (some (.builtin "BaseException.__getattribute__"))&&(findIn K (.ref C) "__getattr__" == some none&&((clsIn K C).isSome&&(findIn K (.ref C) "__class__" == some (some (.builtin "object.__class__")) &&
 (specialIn K (.builtin "object.__class__") "__get__" == some (some (.builtin "getset_descriptor.__get__"))&&(takesIn K (.builtin "object.__class__") == some true &&
 (mroIn K C (.type "object") == some true&&(kitOne K (.ref C) (.type "ValueError") == some true &&
 ((zad.all fun d=>refB (nsIn K mainGlobals (Str.ofString d)) fun D=>kitOne K (.ref C) (.ref D) == some (c == d||d == "RingError")) &&
 refB (nsIn K mainGlobals (Str.ofString "RingError")) fun D=>exmOne K (.ref C) (.ref D) == some true))))))))
noncomputable def excChk (K:Frag):Bool:=zad.all fun c=>refB (nsIn K mainGlobals (Str.ofString c)) (excOne K c)
noncomputable def btChk (K:Frag):Bool:=bTab.all fun q=>nsIn K mainGlobals q.1 == some none&&bootBuiltins q.1 == some q.2&&q.1 != ("__name__":Str)
noncomputable def intB (o:Option (Option Value)) (i:Int):Bool:=match o with
 |some (some (.int j _))=>j == i
 |_=>false
noncomputable def zek (K:Frag) (nums:List (String × Int)):Bool:=nums.all fun q=>intB (nsIn K mainGlobals (Str.ofString q.1)) q.2
noncomputable def zjE (h:Heap):List Addr:=zad.filterMap fun c=>match h.nsMap mainGlobals (Str.ofString c) with
 |some (.ref C)=>some C
 |_=>none
noncomputable def fragAt (h:Heap) (as:List Addr):Frag:=as.filterMap fun a=>(h.get? a).map fun o=>(a,o)
noncomputable def exFrag (h:Heap):Frag:=fragAt h (mainGlobals::zjE h++(zjE h).filterMap fun C=>match h.get? C with
 |some ⟨_,_,.cls cd,_⟩=>some cd.ns
 |_=>none)
noncomputable def hookB (nums:List (String × Int)) (h:Heap):Bool:=excChk (exFrag h)&&btChk (exFrag h)&&zek (exFrag h) nums
noncomputable def keepAt (is:List Nat) (p:Program):Program:={ p with main:={ p.main with body:=(p.main.body.zipIdx.filter fun x=>is.contains x.2).map (·.1) } }
namespace L11
noncomputable def nums:List (String × Int):=[("MOST_SIGNS",9),("MOST_SIZE",8),("MOST_WORDS",256)]
end L11
noncomputable def view:Program:=keepAt ((List.range 45).filter fun i=>!([0,9,19,24,29,33].contains i)) PySem.Challenge.rw_uf010021_11.row.prog
theorem b0:PySem.Challenge.rw_uf010021_11.wellSaid=true:=by kernel_rfl
theorem b1:LeftO PySem.Challenge.rw_uf010021_11.row.prog view [] (fun s=>xlAt view [] s&&recOk (RowW.records PySem.Challenge.rw_uf010021_11.row.toRowW) s) (fun s=>hookB L11.nums s.heap) (fun z=>true) 4976:=fun w=>by kernel_rfl
end Mine
end
namespace Mine
theorem zdd (m:Nat):(-1:Int)+((m+1:Nat):Int)=m:=by rw[Int.natCast_succ,Int.add_comm,Int.add_assoc];exact Int.add_zero _
theorem no {α:Type}{P:Prop}{x:α}(h:(none:Option α)=some x):P:=absurd h.symm (Option.some_ne_none x)
theorem noB {P:Prop}(h:false=true):P:=Bool.noConfusion h
theorem hold {G:Prop}(h:∀ X:Prop,(G→X)→X):G:=h G id
set_option genInjectivity true in
inductive V where
 |uu
 |none
 |bool (b:Bool)
 |int (i:Int)
 |str (s:String)
 |tup (vs:List V)
 |l (vs:List V)
 |ref (i:Nat)
 |exc (c:String)
set_option genInjectivity true in
inductive Cell where
 |list (vs:List V)
 |dict (es:List (V × V))
abbrev H:=List Cell
noncomputable instance:DecidableEq V:=fun z z=>Classical.propDecidable _
noncomputable instance:DecidableEq Cell:=fun z z=>Classical.propDecidable _
inductive R (α:Type) where
 |ok (a:α) (h:H)
 |err (c:String) (h:H)
 |bad
noncomputable def R.bind {α β:Type}(r:R α) (f:α→H→R β):R β :=
 match r with
 |.ok a h=>f a h
 |.err c h=>.err c h
 |.bad=>.bad
@[simp] theorem R.bind_ok {α β:Type}(a:α) (h:H) (f:α→H→R β):(R.ok a h).bind f=f a h:=rfl
noncomputable def R.opt {α:Type}(o:Option α) (h:H):R α :=
 match o with
 |some a=>.ok a h
 |none=>.bad
@[simp] theorem R.opt_some {α:Type}(a:α) (h:H):R.opt (some a) h=.ok a h:=rfl
mutual
noncomputable def V.mapRef (g:Nat→Option V):V→Option V
 |.tup vs=>(V.mapRefs g vs).map .tup
 |.l vs=>(V.mapRefs g vs).map .l
 |.ref i=>g i
 |.uu=>some .uu
 |.none=>some .none
 |.bool b=>some (.bool b)
 |.int i=>some (.int i)
 |.str s=>some (.str s)
 |.exc c=>some (.exc c)
noncomputable def V.mapRefs (g:Nat→Option V):List V→Option (List V)
 |[]=>some []
 |v::vs=>(V.mapRef g v).bind fun v'=>(V.mapRefs g vs).map (v'::·)
end
noncomputable def frzAt:Nat→Nat→H→Nat→Option V
 |0,n,_,i=>if i < n then some (.ref i) else Option.none
 |k+1,n,h,i =>
  if i < n then some (.ref i)
  else match h[i]? with
   |some (.list vs)=>(V.mapRefs (frzAt k n h) vs).map .l
   |_=>Option.none
noncomputable def frz (n:Nat) (h:H) (v:V):Option V:=V.mapRef (frzAt 4 n h) v
mutual
noncomputable def V.plain:V→Bool
 |.tup vs=>V.plains vs
 |.l vs=>V.plains vs
 |.ref _=>false
 |_=>true
noncomputable def V.plains:List V→Bool
 |[]=>true
 |v::vs=>V.plain v&&V.plains vs
end
mutual
theorem zaG (g:Nat→Option V):∀ v:V,v.plain=true→V.mapRef g v=some v
 |.tup vs,h=>congrArg (Option.map V.tup) (zam g vs h)
 |.l vs,h=>congrArg (Option.map V.l) (zam g vs h)
 |.ref _,h=>Bool.noConfusion h
 |.uu,_=>rfl
 |.none,_=>rfl
 |.bool _,_=>rfl
 |.int _,_=>rfl
 |.str _,_=>rfl
 |.exc _,_=>rfl
theorem zam (g:Nat→Option V):∀ vs:List V,V.plains vs=true→V.mapRefs g vs=some vs
 |[],_=>rfl
 |v::vs,h=>by
  have h:=yK.1 (show(V.plain v&&V.plains vs)=true from h);show((V.mapRef g v).bind fun v'=>(V.mapRefs g vs).map (v'::·))=_;rw[zaG g v h.1,zam g vs h.2];rfl
end
noncomputable def items (h:H):V→Option (List V)
 |.l vs=>some vs
 |.tup vs=>some vs
 |.ref i=>match h[i]? with
  |some (.list vs)=>some vs
  |_=>Option.none
 |_=>Option.none
noncomputable def litems (h:H):V→Option (List V)
 |.l vs=>some vs
 |.ref i=>match h[i]? with
  |some (.list vs)=>some vs
  |_=>Option.none
 |_=>Option.none
mutual
noncomputable def peq:V→V→Bool
 |.none,.none=>true
 |.bool a,.bool b=>a == b
 |.bool a,.int b=>(if a then 1 else 0) == b
 |.int a,.bool b=>a == (if b then 1 else 0)
 |.int a,.int b=>a == b
 |.str a,.str b=>a == b
 |.tup a,.tup b=>peqs a b
 |.l a,.l b=>peqs a b
 |_,_=>false
noncomputable def peqs:List V→List V→Bool
 |[],[]=>true
 |a::as,b::bs=>peq a b&&peqs as bs
 |_,_=>false
end
theorem zkR:peq .none .none=true:=rfl
theorem zkS (a b:Bool):peq (.bool a) (.bool b)=(a == b):=rfl
theorem zfU (a b:Int):peq (.int a) (.int b)=(a == b):=rfl
theorem znA (a b:String):peq (.str a) (.str b)=(a == b):=rfl
theorem znz (a b:List V):peq (.tup a) (.tup b)=peqs a b:=rfl
theorem zeg (a b:List V):peq (.l a) (.l b)=peqs a b:=rfl
theorem ziP (a b:V) (as bs:List V):peqs (a::as) (b::bs)=(peq a b&&peqs as bs):=rfl
noncomputable def V.ok:Nat→V→Bool
 |0,_=>false
 |n+1,v=>match v with
  |.uu=>false
  |.exc _=>false
  |.ref _=>false
  |.tup vs=>vs.all (V.ok n)
  |.l vs=>vs.all (V.ok n)
  |_=>true
noncomputable def pyEq (h:H) (a b:V):Option Bool :=
 match frz 0 h a,frz 0 h b with
 |some a,some b=>if V.ok 8 a&&V.ok 8 b then some (peq a b) else Option.none
 |_,_=>Option.none
noncomputable def asInts:List V→Option (List Int)
 |[]=>some []
 |.int i::vs=>(asInts vs).map (i::·)
 |_=>Option.none
noncomputable def lexLt:List Int→List Int→Bool
 |[],[]=>false
 |[],_::_=>true
 |_::_,[]=>false
 |a::as,b::bs=>if a=b then lexLt as bs else decide (a < b)
noncomputable def pyLt:V→V→Option Bool
 |.int a,.int b=>some (decide (a < b))
 |_,_=>Option.none
inductive Cop where
 |eq|ne|lt|le|gt|ge|is|isNot|isin|notIn
noncomputable def zhs:V→Option (List V)
 |.l vs=>some vs
 |.tup vs=>some vs
 |_=>Option.none
noncomputable def isIn (h:H) (a b:V):Option Bool :=
 match frz 0 h a,frz 0 h b with
 |some a,some b=>if V.ok 8 a&&V.ok 8 b then(zhs b).map fun vs=>vs.any fun y=>peq y a else Option.none
 |_,_=>Option.none
noncomputable def keyT:V→Option (List Int)
 |.tup vs=>asInts vs
 |_=>Option.none
noncomputable def keyOk (k:V):Bool:=(keyT k).isSome
noncomputable def dfind (k:V):List (V × V)→Option V
 |[]=>Option.none
 |(k',v)::es=>if k=k' then some v else dfind k es
noncomputable def dput (k v:V):List (V × V)→List (V × V)
 |[]=>[(k,v)]
 |(k',v')::es=>if k=k' then(k',v)::es else(k',v')::dput k v es
noncomputable def pyIn (h:H) (a b:V):Option Bool :=
 match b with
 |.ref i=>match h[i]? with
  |some (.dict es)=>if keyOk a then some (dfind a es).isSome else Option.none
  |_=>isIn h a b
 |_=>isIn h a b
noncomputable def pyIs (a b:V):Option Bool :=
 match b with
 |.none=>match a with
  |.none=>some true
  |.uu=>Option.none
  |_=>some false
 |_=>Option.none
noncomputable def pyCmp (op:Cop) (h:H) (a b:V):Option Bool :=
 match op with
 |.eq=>pyEq h a b
 |.ne=>(pyEq h a b).map (!·)
 |.lt=>pyLt a b
 |.gt=>pyLt b a
 |.le=>(pyLt b a).map (!·)
 |.ge=>(pyLt a b).map (!·)
 |.is=>pyIs a b
 |.isNot=>(pyIs a b).map (!·)
 |.isin=>pyIn h a b
 |.notIn=>(pyIn h a b).map (!·)
inductive Bop where
 |add|sub|mul|fdiv|mod
noncomputable def rep {α:Type}(vs:List α) (n:Int):List α:=(List.replicate n.toNat vs).flatten
noncomputable def mkL (vs:List V):Option V:=if vs.length≤1000000 then some (.l vs) else Option.none
noncomputable def mkT (vs:List V):Option V:=if vs.length≤1000000 then some (.tup vs) else Option.none
noncomputable def int2 (f:Int→Int→Option V) (a b:V):Option V :=
 match a with
 |.int x=>match b with
  |.int y=>f x y
  |_=>Option.none
 |_=>Option.none
noncomputable def pyAdd (h:H) (a b:V):Option V :=
 match a with
 |.int x=>match b with
  |.int y=>some (.int (x+y))
  |_=>Option.none
 |.tup x=>match b with
  |.tup y=>mkT (x++y)
  |_=>Option.none
 |a=>(litems h a).bind fun x=>(litems h b).bind fun y=>mkL (x++y)
noncomputable def pyMul (h:H) (a b:V):Option V :=
 match b with
 |.int n=>match a with
  |.int x=>if x.natAbs < 9223372036854775808∨n.natAbs < 9223372036854775808∨x.natAbs.log2+n.natAbs.log2+2≤134217728 then some (.int (x * n)) else Option.none
  |a=>if -1000000 < n∧n < 1000000 then(litems h a).bind fun vs=>mkL (rep vs n) else Option.none
 |_=>Option.none
noncomputable def pyBin (op:Bop) (h:H) (a b:V):Option V :=
 match op with
 |.add=>pyAdd h a b
 |.sub=>int2 (fun x y=>some (.int (x - y))) a b
 |.mul=>pyMul h a b
 |.fdiv=>int2 (fun x y=>if y=0 then Option.none else some (.int (x.fdiv y))) a b
 |.mod=>int2 (fun x y=>if y=0 then Option.none else some (.int (x.fmod y))) a b
inductive Int2C (f:Int→Int→Option V):V→V→Prop
 |none {a b:V}(e:int2 f a b=Option.none):Int2C f a b
 |ints (x y:Int):Int2C f (.int x) (.int y)
theorem zce (f:Int→Int→Option V) (a b:V):Int2C f a b:=by
 cases a with
 |int x=>cases b with
  |int y=>exact .ints x y
  |_=>exact .none rfl
 |_=>exact .none rfl
inductive AddC (h:H):V→V→Prop
 |none {a b:V}(e:pyAdd h a b=Option.none):AddC h a b
 |ints (x y:Int):AddC h (.int x) (.int y)
 |tups (x y:List V):AddC h (.tup x) (.tup y)
 |lsts {a b:V}(x y:List V) (ha:litems h a=some x) (hb:litems h b=some y) (e:pyAdd h a b=mkL (x++y)):AddC h a b
theorem zc7 (h:H) (a b:V):AddC h a b:=by
 have go:pyAdd h a b=((litems h a).bind fun x=>(litems h b).bind fun y=>mkL (x++y))→AddC h a b:=fun e=>by
  cases ha:litems h a with
  |none=>rw[ha] at e;exact .none e
  |some x=>cases hb:litems h b with
   |none=>rw[ha,hb] at e;exact .none e
   |some y=>rw[ha,hb] at e;exact .lsts x y ha hb e
 cases a with
 |int x=>cases b with
  |int y=>exact .ints x y
  |_=>exact .none rfl
 |tup x=>cases b with
  |tup y=>exact .tups x y
  |_=>exact .none rfl
 |_=>exact go rfl
inductive MulC (h:H):V→V→Prop
 |none {a b:V}(e:pyMul h a b=Option.none):MulC h a b
 |ints (x y:Int):MulC h (.int x) (.int y)
 |lsts {a:V}(n:Int) (e:pyMul h a (.int n)=if -1000000 < n∧n < 1000000 then(litems h a).bind fun vs=>mkL (rep vs n) else Option.none):MulC h a (.int n)
theorem zc6 (h:H) (a b:V):MulC h a b:=by
 cases b with
 |int n=>cases a with
  |int x=>exact .ints x n
  |_=>exact .lsts n rfl
 |_=>exact .none rfl
noncomputable def place (n:Nat) (i:Int):Option Nat :=
 if 0≤i then(if i < n then some i.toNat else Option.none)
 else if 0≤i+n then some (i+n).toNat else Option.none
noncomputable def pyIdx (h:H) (a i:V):Option V :=
 match a with
 |.ref r=>match h[r]? with
  |some (.dict es)=>if keyOk i then dfind i es else Option.none
  |some (.list vs)=>match i with
   |.int k=>(place vs.length k).bind fun j=>vs[j]?
   |_=>Option.none
  |none=>Option.none
 |.l vs=>match i with
  |.int k=>(place vs.length k).bind fun j=>vs[j]?
  |_=>Option.none
 |.tup vs=>match i with
  |.int k=>(place vs.length k).bind fun j=>vs[j]?
  |_=>Option.none
 |_=>Option.none
noncomputable def cut (n:Nat) (i:Int):Nat :=
 if i < 0 then(i+n).toNat else min i.toNat n
noncomputable def slc {α:Type}(vs:List α) (lo hi:Option Int):List α :=
 let a:=match lo with|some i=>cut vs.length i|none=>0
 let b:=match hi with|some i=>cut vs.length i|none=>vs.length
 (vs.take b).drop a
noncomputable def asInt?:V→Option Int
 |.int i=>some i
 |_=>Option.none
noncomputable def zas (h:H) (a:V) (lo hi:Option V):Option V :=
 match lo.mapM asInt?,hi.mapM asInt? with
 |some lo,some hi=>(litems h a).map fun vs=>.l (slc vs lo hi)
 |_,_=>Option.none
set_option genInjectivity true in
inductive Ty where
 |int|bool|list|tuple|valueError
 |own (c:String)
deriving DecidableEq
noncomputable def isExc (c:String) (t:Ty):Option Bool :=
 if zad.contains c then
  match t with
  |.own d=>if zad.contains d then some (c == d||d == "RingError") else Option.none
  |.valueError=>some true
  |_=>Option.none
 else Option.none
noncomputable def refTy:Option Cell→Ty→Option Bool
 |some (.list _),t=>some (t == .list)
 |some (.dict _),_=>some false
 |none,_=>Option.none
noncomputable def isTy (h:H) (v:V) (t:Ty):Option Bool :=
 match v with
 |.uu=>Option.none
 |.exc _=>Option.none
 |.ref i=>refTy h[i]? t
 |.l _=>some (t == .list)
 |.tup _=>some (t == .tuple)
 |.bool _=>some (t == .bool||t == .int)
 |.int _=>some (t == .int)
 |_=>some false
noncomputable def isTys (h:H) (v:V):List Ty→Option Bool
 |[]=>some false
 |t::ts=>match isTy h v t with
  |some true=>some true
  |some false=>isTys h v ts
  |none=>Option.none
noncomputable def truthy:V→Option Bool
 |.bool b=>some b
 |_=>Option.none
inductive Bf where
 |len|list|tuple|sorted|min|sum|any|all|int|str|listRev|listRange
noncomputable def Bf.walks (f:Bf):Bool:=f.casesOn false false false true true true true true false false true true
noncomputable def Bf.ready (f:Bf):Bool:=f.casesOn true true true
 true
 true
 false
 false
 true
 true
 false
 true
 false
noncomputable def isort {α:Type}(lt:α→α→Bool):List α→List α
 |[]=>[]
 |x::xs=>insertBy' lt x (isort lt xs)
where
 insertBy' (lt:α→α→Bool) (x:α):List α→List α
  |[]=>[x]
  |y::ys=>if lt y x then y::insertBy' lt x ys else x::y::ys
noncomputable def V.ints (l:List Int):V:=.l (l.map .int)
noncomputable def V.words (l:List (List Int)):V:=.l (l.map V.ints)
noncomputable def keyed {α:Type}(f:V→Option α):List V→Option (List (α × V))
 |[]=>some []
 |v::vs=>(f v).bind fun a=>(keyed f vs).map ((a,v)::·)
noncomputable def keyL (h:H) (v:V):Option (List Int):=(litems h v).bind asInts
noncomputable def keyI:V→Option Int
 |.int i=>some i
 |_=>Option.none
noncomputable def keyT1:V→Option (List Int)
 |.tup (v::vs)=>asInts (v::vs)
 |_=>Option.none
noncomputable def sortBy {α:Type} [DecidableEq α] (lt:α→α→Bool) (l:List (α × V)):Option (List V) :=
 if l.length < 64&&l.all (fun p=>l.all fun q=>decide (p.1=q.1→p.2=q.2)) then some ((isort (fun a b=>lt a.1 b.1) l).map (·.2)) else Option.none
noncomputable def sortVs (h:H) (vs:List V):Option (List V) :=
 match keyed keyI vs with
 |some l=>sortBy (fun a b=>decide (a < b)) l
 |none=>match keyed (keyL h) vs with
  |some l=>sortBy lexLt l
  |none=>match keyed keyT1 vs with
   |some l=>sortBy lexLt l
   |none=>if vs.length < 2 then some vs else Option.none
noncomputable def dictOf (h:H) (o:V):Option (List (V × V)) :=
 match o with
 |.ref r=>match h[r]? with
  |some (.dict es)=>some es
  |_=>Option.none
 |_=>Option.none
noncomputable def zbo (a:List Int) (v:V):List (List Int × V)→V
 |[]=>v
 |p::l=>if lexLt p.1 a then zbo p.1 p.2 l else zbo a v l
noncomputable def minVs (h:H) (vs:List V):Option V :=
 match keyed (keyL h) vs with
 |some (p::l)=>some (zbo p.1 p.2 l)
 |_=>Option.none
noncomputable def zbs:List V→Option (List Bool)
 |[]=>some []
 |.bool b::r=>(zbs r).map (b::·)
 |_=>Option.none
noncomputable def upto (n:Int):List V:=(List.range n.toNat).map fun(i:Nat)=>.int (i:Int)
noncomputable def fromTo (a b:Int):List V:=(List.range (b - a).toNat).map fun(i:Nat)=>.int (a+(i:Int))
noncomputable def downTo (a b:Int):List V:=(List.range (a - b).toNat).map fun(i:Nat)=>.int (a - (i:Int))
noncomputable def sumI (l:List Int):Option V:=if l.length≤1000∧∀ i∈l,0≤i∧i≤1000000 then some (.int l.sum) else Option.none
noncomputable def sitems (h:H) (v:V):Option (List V):=match dictOf h v with
 |some es=>some (es.map (·.1))
 |Option.none=>litems h v
noncomputable def bf (f:Bf) (h:H) (v:V):Option V :=
 match f with
 |.len=>match v with
  |.ref i=>match h[i]? with
   |some (.list vs)=>some (.int vs.length)
   |some (.dict es)=>some (.int es.length)
   |none=>Option.none
  |_=>(items h v).map fun vs=>.int vs.length
 |.list=>(items h v).map .l
 |.tuple=>(items h v).map .tup
 |.listRev=>(litems h v).map fun vs=>.l vs.reverse
 |.sorted=>(sitems h v).bind fun vs=>(sortVs h vs).map .l
 |.min=>(litems h v).bind (minVs h)
 |.sum=>(litems h v).bind fun vs=>(asInts vs).bind sumI
 |.any=>(litems h v).bind fun vs=>(zbs vs).map fun bs=>.bool (bs.any id)
 |.all=>(litems h v).bind fun vs=>(zbs vs).map fun bs=>.bool (bs.all id)
 |.int=>match v with
  |.bool b=>some (.int (if b then 1 else 0))
  |_=>Option.none
 |.str=>match v with
  |.int i=>if 0≤i∧i < 100 then some (.str (toString i)) else Option.none
  |_=>Option.none
 |.listRange=>match v with
  |.int n=>if -1000000≤n∧n≤1000000 then some (.l (upto n)) else Option.none
  |_=>Option.none
abbrev Watch:=Option (Nat × Cell)
noncomputable def Watch.ok (w:Watch) (h:H):Bool :=
 match w with
 |none=>true
 |some (i,c)=>decide (h[i]?=some c)
noncomputable def iterOf (h:H):V→Option (List V × Watch)
 |.l vs=>some (vs,Option.none)
 |.tup vs=>some (vs,Option.none)
 |.ref i=>match h[i]? with
  |some (.list vs)=>some (vs,some (i,.list vs))
  |some (.dict es)=>some (es.map (·.1),some (i,.dict es))
  |none=>Option.none
 |_=>Option.none
set_option genCtorIdx false in
mutual
inductive PE where
 |none|bool (b:Bool)|int (i:Int)|str (s:String)
 |v (i:Nat)
 |glob (g:String) (i:Int)
 |bin (op:Bop) (a b:PE)
 |neg (i:Int)
 |not (a:PE)
 |and (es:List PE)|or (es:List PE)
 |cmp (op:Cop) (a b:PE)
 |cmp2 (op1 op2:Cop) (a b c:PE)
 |list (es:List PE)|tup (es:List PE)
 |idx (a i:PE)
 |slice (a:PE) (lo hi:Option PE)
 |rev (a:PE)
 |isinst (a:PE) (ts:List Ty)
 |isexc (x:Nat) (t:Ty)        -- isinstance of the caught exception
 |callX (f:String) (x:Nat)    -- a call with the caught exception
 |bf (f:Bf) (a:PE)
 |comp (elt:PE) (x:Nat) (it:PIt) (cond:Option PE)
 |call (keep:Bool) (f:String) (args:List PE)
 |own (a:PE)                    -- a fresh list,as a cell
 |newDict                         -- {},as a cell
 |append (o a:PE)|remove (o a:PE)
 |pop (o:PE)|popAt (o i:PE)
 |get (o k d:PE)|setdef (o k d:PE)
 |dict1 (k v:PE)                -- {k: v},as a cell
inductive PIt where
 |seq (e:PE)
 |range1 (a:PE)|range2 (a b:PE)|range3 (a b c:PE)
end
set_option genCtorIdx false in
inductive PS where
 |expr (e:PE)
 |asg (x:Nat) (e:PE)
 |asgT (xs:List Nat) (e:PE)
 |setIdx (o i e:PE)
 |ret (e:PE)
 |ifs (t:PE) (a b:List PS)
 |for1 (x:Nat) (it:PIt) (body:List PS)
 |while (t:PE) (body:List PS)
 |raise (c:String)
 |try (body:List PS) (c:String) (x:Nat) (handler:List PS)
 |pass
structure FnDef where
 arity:Nat
 slots:Nat
 body:List PS
abbrev Tab:=String→Option FnDef
abbrev Fn:=Bool→String→List V→H→R V
noncomputable def pcall (h:H) (r:R V):R V :=
 match r with
 |.ok v h'=>if h'.take h.length=h then R.opt (Mine.frz h.length h' v) h else .bad
 |.err c h'=>if h'.take h.length=h then .err c h else .bad
 |.bad=>.bad
noncomputable def seti (h:H) (o i v:V):Option H :=
 match o with
 |.ref r=>match h[r]? with
  |some (.list vs)=>match i with
   |.int k=>(place vs.length k).map fun j=>h.set r (.list (vs.set j v))
   |_=>Option.none
  |some (.dict es)=>if keyOk i&&decide (es.length≤1000) then some (h.set r (.dict (dput i v es))) else Option.none
  |none=>Option.none
 |_=>Option.none
noncomputable def setiD (h:H) (r:Nat) (i v:V):Option H :=
 match h[r]? with
 |some (.list _)=>Option.none
 |some (.dict es)=>if keyOk i&&decide (es.length≤1000) then some (h.set r (.dict (dput i v es))) else Option.none
 |none=>Option.none
noncomputable def tailOf (v:V):Option V :=
 match v with
 |.tup vs=>if 0 < vs.length then some (.tup (vs.drop 1)) else Option.none
 |_=>Option.none
noncomputable def rmvI (y:V) (vs:List V):Option (V × List V) :=
 match y with
 |.int k=>(asInts vs).bind fun l=>(l.findIdx? fun i=>i == k).map fun j=>(.none,vs.eraseIdx j)
 |_=>Option.none
noncomputable def onList (h:H) (o:V) (f:List V→Option (V × List V)):R V :=
 match o with
 |.ref r=>match h[r]? with
  |some (.list vs)=>match f vs with
   |some (v,vs')=>if vs'.length≤1000000 then .ok v (h.set r (.list vs')) else .bad
   |none=>.bad
  |_=>.bad
 |_=>.bad
noncomputable def lcell (h:H) (o:V):Bool :=
 match o with
 |.ref r=>match h[r]? with
  |some (.list _)=>true
  |_=>false
 |_=>false
noncomputable def dcell (h:H) (o:V):Bool :=
 match o with
 |.ref r=>match h[r]? with
  |some (.dict _)=>true
  |_=>false
 |_=>false
noncomputable def onDict (h:H) (o k:V) (f:Nat→List (V × V)→R V):R V :=
 match o with
 |.ref r=>match h[r]? with
  |some (.dict es)=>if keyOk k then f r es else .bad
  |_=>.bad
 |_=>.bad
noncomputable def setDef (h:H) (x y z:V):R V :=
 onDict h x y fun r es=>match dfind y es with
  |some v=>.ok v h
  |Option.none=>if es.length≤1000 then .ok z (h.set r (.dict (es++[(y,z)]))) else .bad
noncomputable def getDef (h:H) (x y z:V):R V:=onDict h x y fun u es=>.ok ((dfind y es).getD z) h
noncomputable def rng3 (m n k:Int) (h:H):R (List V × Watch) :=
 if k=-1 then .ok (downTo m n,Option.none) h else .bad
noncomputable def compL (w:Watch) (elt:V→H→R V) (cond:V→H→R V):List V→H→R (List V)
 |[],h=>if w.ok h then .ok [] h else .bad
 |x::xs,h=>if w.ok h then(cond x h).bind fun b h=>match truthy b with
  |some true=>(elt x h).bind fun v h=>(compL w elt cond xs h).bind fun vs h=>.ok (v::vs) h
  |some false=>compL w elt cond xs h
  |none=>.bad
  else .bad
mutual
noncomputable def evE (q:Bool) (F:Fn) (ρ:List V):PE→H→R V
 |.none,h=>.ok .none h
 |.bool b,h=>.ok (.bool b) h
 |.int i,h=>.ok (.int i) h
 |.str s,h=>.ok (.str s) h
 |.v i,h=>match ρ[i]? with
  |some .uu=>.bad
  |some (.exc _)=>.bad
  |some v=>.ok v h
  |Option.none=>.bad
 |.glob _ i,h=>.ok (.int i) h
 |.bin op a b,h=>(evE q F ρ a h).bind fun x h=>(evE q F ρ b h).bind fun y h=>R.opt (pyBin op h x y) h
 |.neg i,h=>.ok (.int (-i)) h
 |.not a,h=>(evE q F ρ a h).bind fun x h=>match truthy x with
  |some b=>.ok (.bool (!b)) h
  |Option.none=>.bad
 |.and es,h=>evAnd q F ρ es h
 |.or es,h=>evOr q F ρ es h
 |.cmp op a b,h=>(evE q F ρ a h).bind fun x h=>(evE q F ρ b h).bind fun y h=>R.opt ((pyCmp op h x y).map .bool) h
 |.cmp2 op1 op2 a b c,h=>(evE q F ρ a h).bind fun x h=>(evE q F ρ b h).bind fun y h=>match pyCmp op1 h x y with
  |some true=>(evE q F ρ c h).bind fun z h=>R.opt ((pyCmp op2 h y z).map .bool) h
  |some false=>.ok (.bool false) h
  |Option.none=>.bad
 |.list es,h=>(evEs q F ρ es h).bind fun vs h=>R.opt (mkL vs) h
 |.tup es,h=>(evEs q F ρ es h).bind fun vs h=>R.opt (mkT vs) h
 |.idx a i,h=>(evE q F ρ a h).bind fun x h=>(evE q F ρ i h).bind fun y h=>R.opt (pyIdx h x y) h
 |.slice a lo hi,h=>(evE q F ρ a h).bind fun x h=>(evO q F ρ lo h).bind fun l h=>(evO q F ρ hi h).bind fun u h=>R.opt (zas h x l u) h
 |.rev a,h=>(evE q F ρ a h).bind fun x h=>R.opt (tailOf x) h
 |.isinst a ts,h=>(evE q F ρ a h).bind fun x h=>R.opt ((isTys h x ts).map .bool) h
 |.isexc x t,h=>match ρ[x]? with
  |some (.exc c)=>R.opt ((isExc c t).map .bool) h
  |_=>.bad
 |.callX f x,h=>match ρ[x]? with
  |some (.exc c)=>pcall h (F q f [.exc c] h)
  |_=>.bad
 |.bf f a,h=>if(!q&&f.walks)||!f.ready then .bad else(evE q F ρ a h).bind fun x h=>R.opt (Mine.bf f h x) h
 |.comp elt x it cond,h=>if !q then .bad else(evIt q F ρ it h).bind fun vs h =>
   match compL vs.2 (fun v h=>evE q F (ρ.set x v) elt h) (fun v h=>evC q F (ρ.set x v) cond h) vs.1 h with
   |.ok r h=>R.opt (mkL r) h
   |_=>.bad
 |.call k f args,h=>(evEs q F ρ args h).bind fun vs h=>if k then F q f vs h else pcall h (F q f vs h)
 |.own a,h=>(evE q F ρ a h).bind fun x h=>match x with
  |.l vs=>.ok (.ref h.length) (h++[.list vs])
  |_=>.bad
 |.newDict,h=>.ok (.ref h.length) (h++[.dict []])
 |.append o a,h=>(evE q F ρ o h).bind fun x h=>if lcell h x then(evE q F ρ a h).bind fun y h=>onList h x fun vs=>some (.none,vs++[y]) else .bad
 |.remove o a,h=>(evE q F ρ o h).bind fun x h=>if lcell h x then(evE q F ρ a h).bind fun y h=>onList h x fun vs=>rmvI y vs else .bad
 |.pop o,h=>(evE q F ρ o h).bind fun x h=>onList h x fun vs=>(vs.getLast?).map fun v=>(v,vs.dropLast)
 |.popAt o i,h=>(evE q F ρ o h).bind fun x h=>if lcell h x then(evE q F ρ i h).bind fun y h=>match y with
  |.int k=>onList h x fun vs=>(place vs.length k).bind fun j=>(vs[j]?).map fun v=>(v,vs.eraseIdx j)
  |_=>.bad
  else .bad
 |.get o k d,h=>(evE q F ρ o h).bind fun x h=>if dcell h x then(evE q F ρ k h).bind fun y h=>(evE q F ρ d h).bind fun z h=>getDef h x y z else .bad
 |.setdef o k d,h=>(evE q F ρ o h).bind fun x h=>if dcell h x then(evE q F ρ k h).bind fun y h=>(evE q F ρ d h).bind fun z h=>setDef h x y z else .bad
 |.dict1 a b,h=>(evE q F ρ a (h++[.dict []])).bind fun k h'=>(evE q F ρ b h').bind fun v h'=>match setiD h' h.length k v with
  |some h'=>.ok (.ref h.length) h'
  |Option.none=>.bad
noncomputable def evEs (q:Bool) (F:Fn) (ρ:List V):List PE→H→R (List V)
 |[],h=>.ok [] h
 |e::es,h=>(evE q F ρ e h).bind fun v h=>(evEs q F ρ es h).bind fun vs h=>.ok (v::vs) h
noncomputable def evO (q:Bool) (F:Fn) (ρ:List V):Option PE→H→R (Option V)
 |Option.none,h=>.ok Option.none h
 |some e,h=>(evE q F ρ e h).bind fun v h=>.ok (some v) h
noncomputable def evC (q:Bool) (F:Fn) (ρ:List V):Option PE→H→R V
 |Option.none,h=>.ok (.bool true) h
 |some e,h=>evE q F ρ e h
noncomputable def evAnd (q:Bool) (F:Fn) (ρ:List V):List PE→H→R V
 |[],_=>.bad
 |[e],h=>evE q F ρ e h
 |e::es,h=>(evE q F ρ e h).bind fun x h=>match truthy x with
  |some true=>evAnd q F ρ es h
  |some false=>.ok x h
  |Option.none=>.bad
noncomputable def evOr (q:Bool) (F:Fn) (ρ:List V):List PE→H→R V
 |[],_=>.bad
 |[e],h=>evE q F ρ e h
 |e::es,h=>(evE q F ρ e h).bind fun x h=>match truthy x with
  |some true=>.ok x h
  |some false=>evOr q F ρ es h
  |Option.none=>.bad
noncomputable def evIt (q:Bool) (F:Fn) (ρ:List V):PIt→H→R (List V × Watch)
 |.seq e,h=>(evE q F ρ e h).bind fun x h=>R.opt (iterOf h x) h
 |.range1 a,h=>(evE q F ρ a h).bind fun x h=>match x with
  |.int n=>if -1000000≤n∧n≤1000000 then .ok (upto n,Option.none) h else .bad
  |_=>.bad
 |.range2 a b,h=>(evE q F ρ a h).bind fun x h=>(evE q F ρ b h).bind fun y h=>match x,y with
  |.int m,.int n=>if -1000000≤m∧m≤1000000∧-1000000≤n∧n≤1000000 then .ok (fromTo m n,Option.none) h else .bad
  |_,_=>.bad
 |.range3 a b c,h=>(evE q F ρ a h).bind fun x h=>(evE q F ρ b h).bind fun y h=>(evE q F ρ c h).bind fun z h=>match x,y,z with
  |.int m,.int n,.int k=>if -1000000≤m∧m≤1000000∧-1000000≤n∧n≤1000000 then
    rng3 m n k h else .bad
  |_,_,_=>.bad
end
set_option genInjectivity true in
inductive Fl where
 |next
 |ret (v:V)
inductive RS where
 |ok (f:Fl) (ρ:List V) (h:H)
 |err (c:String) (ρ:List V) (h:H)
 |bad
noncomputable def R.st {α:Type}(r:R α) (ρ:List V) (f:α→H→RS):RS :=
 match r with
 |.ok a h=>f a h
 |.err c h=>.err c ρ h
 |.bad=>.bad
@[simp] theorem R.st_ok {α:Type}(a:α) (h:H) (ρ:List V) (f:α→H→RS):(R.ok a h).st ρ f=f a h:=rfl
noncomputable def RS.then (r:RS) (f:List V→H→RS):RS :=
 match r with
 |.ok .next ρ h=>f ρ h
 |r=>r
@[simp] theorem RS.then_next (ρ:List V) (h:H) (f:List V→H→RS):(RS.ok .next ρ h).then f=f ρ h:=rfl
noncomputable def setAll (ρ:List V):List Nat→List V→Option (List V)
 |[],[]=>some ρ
 |x::xs,v::vs=>setAll (ρ.set x v) xs vs
 |_,_=>Option.none
noncomputable def bind1 (x:Nat) (ρ:List V) (v:V):Option (List V):=some (ρ.set x v)
noncomputable def forL (w:Watch) (bindv:List V→V→Option (List V)) (body:List V→H→RS):List V→List V→H→RS
 |[],ρ,h=>if w.ok h then .ok .next ρ h else .bad
 |v::vs,ρ,h=>if w.ok h then(match bindv ρ v with
   |some ρ'=>(body ρ' h).then fun ρ h=>forL w bindv body vs ρ h
   |none=>.bad) else .bad
noncomputable def whileL (test:List V→H→R V) (body:List V→H→RS):Nat→List V→H→RS
 |0,_,_=>.bad
 |n+1,ρ,h=>(test ρ h).st ρ fun b h=>match truthy b with
  |some true=>(body ρ h).then fun ρ h=>whileL test body n ρ h
  |some false=>.ok .next ρ h
  |none=>.bad
noncomputable def turns:Nat:=1000000
noncomputable def noneS (_:V) (ρ:List V) (h:H):RS:=.ok .next ρ h
mutual
noncomputable def exS (q:Bool) (F:Fn):PS→List V→H→RS
 |.expr e,ρ,h=>(evE q F ρ e h).st ρ fun v h=>noneS v ρ h
 |.asg x e,ρ,h=>(evE q F ρ e h).st ρ fun v h=>.ok .next (ρ.set x v) h
 |.asgT xs e,ρ,h=>if !q then .bad else(evE q F ρ e h).st ρ fun v h=>match v with
  |.tup vs=>(match setAll ρ xs vs with
   |some ρ=>.ok .next ρ h
   |Option.none=>.bad)
  |_=>.bad
 |.setIdx o i e,ρ,h=>(evE q F ρ e h).st ρ fun v h=>(evE q F ρ o h).st ρ fun x h=>(evE q F ρ i h).st ρ fun y h=>match seti h x y v with
  |some h=>.ok .next ρ h
  |Option.none=>.bad
 |.ret e,ρ,h=>(evE q F ρ e h).st ρ fun v h=>.ok (.ret v) ρ h
 |.ifs t a b,ρ,h=>(evE q F ρ t h).st ρ fun x h=>match truthy x with
  |some true=>exSs q F a ρ h
  |some false=>exSs q F b ρ h
  |Option.none=>.bad
 |.for1 x it body,ρ,h=>if !q then .bad else(evIt q F ρ it h).st ρ fun vs h=>forL vs.2 (bind1 x) (fun ρ h=>exSs q F body ρ h) vs.1 ρ h
 |.while t body,ρ,h=>if !q then .bad else whileL (fun ρ h=>evE q F ρ t h) (fun ρ h=>exSs q F body ρ h) turns ρ h
 |.raise c,ρ,h=>if !q then .bad else .err c ρ h
 |.try body c x handler,ρ,h=>if !q then .bad else match exSs q F body ρ h with
  |.err d ρ h=>if zad.contains d&&c == "RingError" then(match exSs false F handler (ρ.set x (.exc d)) h with
    |.ok f ρ h=>.ok f (ρ.set x .uu) h
    |.err _ _ _=>.bad
    |.bad=>.bad) else .bad
  |r=>r
 |.pass,ρ,h=>.ok .next ρ h
noncomputable def exSs (q:Bool) (F:Fn):List PS→List V→H→RS
 |[],ρ,h=>.ok .next ρ h
 |s::ss,ρ,h=>(exS q F s ρ h).then fun ρ h=>exSs q F ss ρ h
end
noncomputable def RS.out (r:RS):R V :=
 match r with
 |.ok (.ret v) _ h=>.ok v h
 |.ok .next _ h=>.ok .none h
 |.err c _ h=>.err c h
 |.bad=>.bad
noncomputable def runD (q:Bool) (F:Fn) (d:FnDef) (vs:List V) (h:H):R V :=
 if vs.length=d.arity then(exSs q F d.body (vs++List.replicate (d.slots - d.arity) .uu) h).out else .bad
noncomputable def run (P:Tab):Nat→Fn
 |0=>fun z z z z=>.bad
 |n+1=>fun q f vs h=>match P f with
  |some d=>runD q (run P n) d vs h
  |Option.none=>.bad
theorem zkG (hf:P f=some d) (n:Nat) (q:Bool) (vs:List V) (h:H) :
  run P (n+1) q f vs h=runD q (run P n) d vs h:=by
 show(match P f with|some d=>runD q (run P n) d vs h|Option.none=>.bad)=_
 rw[hf]
theorem zn7 (n:Nat) (h:H) (i:Nat):frzAt 0 n h i=if i < n then some (.ref i) else Option.none:=rfl
theorem zbK (k n:Nat) (h:H) (i:Nat):frzAt (k+1) n h i=if i < n then some (.ref i) else match h[i]? with
   |some (.list vs)=>(V.mapRefs (frzAt k n h) vs).map .l
   |_=>Option.none:=rfl
theorem zcd (a b:Int) (as bs:List Int):lexLt (a::as) (b::bs)=if a=b then lexLt as bs else decide (a < b):=rfl
theorem zn2 {α:Type}(lt:α→α→Bool) (x:α) (xs:List α):isort lt (x::xs)=isort.insertBy' lt x (isort lt xs):=rfl
theorem zcJ {α:Type}(lt:α→α→Bool) (x y:α) (ys:List α):isort.insertBy' lt x (y::ys)=if lt y x then y::isort.insertBy' lt x ys else x::y::ys:=rfl
theorem zjb {α:Type}(f:V→Option α):keyed f []=some []:=rfl
theorem zf7 {α:Type}(f:V→Option α) (v:V) (vs:List V):keyed f (v::vs)=(f v).bind fun a=>(keyed f vs).map ((a,v)::·):=rfl
theorem zdg (a:List Int) (v:V) (p:List Int × V) (l:List (List Int × V)):zbo a v (p::l)=if lexLt p.1 a then zbo p.1 p.2 l else zbo a v l:=rfl
theorem zbj (k k' v:V) (es:List (V × V)):dfind k ((k',v)::es)=if k=k' then some v else dfind k es:=rfl
theorem zfj (k v k' v':V) (es:List (V × V)):dput k v ((k',v')::es)=if k=k' then(k',v)::es else(k',v')::dput k v es:=rfl
theorem zeH (w:Watch) (elt cond:V→H→R V) (h:H):compL w elt cond [] h=if w.ok h then .ok [] h else .bad:=rfl
theorem zeI (w:Watch) (elt cond:V→H→R V) (x:V) (xs:List V) (h:H):compL w elt cond (x::xs) h=if w.ok h then(cond x h).bind fun b h=>match truthy b with
  |some true=>(elt x h).bind fun v h=>(compL w elt cond xs h).bind fun vs h=>.ok (v::vs) h
  |some false=>compL w elt cond xs h
  |none=>.bad
  else .bad:=rfl
theorem zgS (w:Watch) (bindv:List V→V→Option (List V)) (body:List V→H→RS) (ρ:List V) (h:H):forL w bindv body [] ρ h=if w.ok h then .ok .next ρ h else .bad:=rfl
theorem zfi (w:Watch) (bindv:List V→V→Option (List V)) (body:List V→H→RS) (v:V) (vs ρ:List V) (h:H):forL w bindv body (v::vs) ρ h=if w.ok h then(match bindv ρ v with
   |some ρ'=>(body ρ' h).then fun ρ h=>forL w bindv body vs ρ h
   |none=>.bad) else .bad:=rfl
theorem zkp (test:List V→H→R V) (body:List V→H→RS) (n:Nat) (ρ:List V) (h:H):whileL test body (n+1) ρ h=(test ρ h).st ρ fun b h=>match truthy b with
  |some true=>(body ρ h).then fun ρ h=>whileL test body n ρ h
  |some false=>.ok .next ρ h
  |none=>.bad:=rfl
theorem zr1 (q:Bool) (F:Fn) (ρ:List V)  (h):evE q F ρ .none h=.ok .none h:=rfl
theorem zr0 (q:Bool) (F:Fn) (ρ:List V) (b) (h):evE q F ρ (.bool b) h=.ok (.bool b) h:=rfl
theorem zrK (q:Bool) (F:Fn) (ρ:List V) (i) (h):evE q F ρ (.int i) h=.ok (.int i) h:=rfl
theorem zrJ (q:Bool) (F:Fn) (ρ:List V) (s) (h):evE q F ρ (.str s) h=.ok (.str s) h:=rfl
theorem zrI (q:Bool) (F:Fn) (ρ:List V) (i) (h):evE q F ρ (.v i) h=match ρ[i]? with
  |some .uu=>.bad
  |some (.exc _)=>.bad
  |some v=>.ok v h
  |Option.none=>.bad:=rfl
theorem zrZ (q:Bool) (F:Fn) (ρ:List V) (i) (u1) (h):evE q F ρ (.glob u1 i) h=.ok (.int i) h:=rfl
theorem zhq (q:Bool) (F:Fn) (ρ:List V) (op) (a) (b) (h):evE q F ρ (.bin op a b) h=(evE q F ρ a h).bind fun x h=>(evE q F ρ b h).bind fun y h=>R.opt (pyBin op h x y) h:=rfl
theorem zrY (q:Bool) (F:Fn) (ρ:List V) (i) (h):evE q F ρ (.neg i) h=.ok (.int (-i)) h:=rfl
theorem zq1 (q:Bool) (F:Fn) (ρ:List V) (a) (h):evE q F ρ (.not a) h=(evE q F ρ a h).bind fun x h=>match truthy x with
  |some b=>.ok (.bool (!b)) h
  |Option.none=>.bad:=rfl
theorem zpj (q:Bool) (F:Fn) (ρ:List V) (es) (h):evE q F ρ (.and es) h=evAnd q F ρ es h:=rfl
theorem zkP (q:Bool) (F:Fn) (ρ:List V) (es) (h):evE q F ρ (.or es) h=evOr q F ρ es h:=rfl
theorem zbQ (q:Bool) (F:Fn) (ρ:List V) (op) (a) (b) (h):evE q F ρ (.cmp op a b) h=(evE q F ρ a h).bind fun x h=>(evE q F ρ b h).bind fun y h=>R.opt ((pyCmp op h x y).map .bool) h:=rfl
theorem znt (q:Bool) (F:Fn) (ρ:List V) (op1) (op2) (a) (b) (c) (h):evE q F ρ (.cmp2 op1 op2 a b c) h=(evE q F ρ a h).bind fun x h=>(evE q F ρ b h).bind fun y h=>match pyCmp op1 h x y with
  |some true=>(evE q F ρ c h).bind fun z h=>R.opt ((pyCmp op2 h y z).map .bool) h
  |some false=>.ok (.bool false) h
  |Option.none=>.bad:=rfl
theorem ziJ (q:Bool) (F:Fn) (ρ:List V) (es) (h):evE q F ρ (.list es) h=(evEs q F ρ es h).bind fun vs h=>R.opt (mkL vs) h:=rfl
theorem zns (q:Bool) (F:Fn) (ρ:List V) (es) (h):evE q F ρ (.tup es) h=(evEs q F ρ es h).bind fun vs h=>R.opt (mkT vs) h:=rfl
theorem zee (q:Bool) (F:Fn) (ρ:List V) (a) (i) (h):evE q F ρ (.idx a i) h=(evE q F ρ a h).bind fun x h=>(evE q F ρ i h).bind fun y h=>R.opt (pyIdx h x y) h:=rfl
theorem zfQ (q:Bool) (F:Fn) (ρ:List V) (a) (lo) (hi) (h):evE q F ρ (.slice a lo hi) h=(evE q F ρ a h).bind fun x h=>(evO q F ρ lo h).bind fun l h=>(evO q F ρ hi h).bind fun u h=>R.opt (zas h x l u) h:=rfl
theorem zpi (q:Bool) (F:Fn) (ρ:List V) (a) (h):evE q F ρ (.rev a) h=(evE q F ρ a h).bind fun x h=>R.opt (tailOf x) h:=rfl
theorem zph (q:Bool) (F:Fn) (ρ:List V) (a) (ts) (h):evE q F ρ (.isinst a ts) h=(evE q F ρ a h).bind fun x h=>R.opt ((isTys h x ts).map .bool) h:=rfl
theorem zq5 (q:Bool) (F:Fn) (ρ:List V) (x) (t) (h):evE q F ρ (.isexc x t) h=match ρ[x]? with
  |some (.exc c)=>R.opt ((isExc c t).map .bool) h
  |_=>.bad:=rfl
theorem zq4 (q:Bool) (F:Fn) (ρ:List V) (f) (x) (h):evE q F ρ (.callX f x) h=match ρ[x]? with
  |some (.exc c)=>pcall h (F q f [.exc c] h)
  |_=>.bad:=rfl
theorem znr (q:Bool) (F:Fn) (ρ:List V) (f) (a) (h):evE q F ρ (.bf f a) h=if(!q&&f.walks)||!f.ready then .bad else(evE q F ρ a h).bind fun x h=>R.opt (Mine.bf f h x) h:=rfl
theorem zpg (q:Bool) (F:Fn) (ρ:List V) (elt) (x) (it) (cond) (h):evE q F ρ (.comp elt x it cond) h=if !q then .bad else(evIt q F ρ it h).bind fun vs h =>
   match compL vs.2 (fun v h=>evE q F (ρ.set x v) elt h) (fun v h=>evC q F (ρ.set x v) cond h) vs.1 h with
   |.ok r h=>R.opt (mkL r) h
   |_=>.bad:=rfl
theorem zed (q:Bool) (F:Fn) (ρ:List V) (k) (f) (args) (h):evE q F ρ (.call k f args) h=(evEs q F ρ args h).bind fun vs h=>if k then F q f vs h else pcall h (F q f vs h):=rfl
theorem zkO (q:Bool) (F:Fn) (ρ:List V) (a) (h):evE q F ρ (.own a) h=(evE q F ρ a h).bind fun x h=>match x with
  |.l vs=>.ok (.ref h.length) (h++[.list vs])
  |_=>.bad:=rfl
theorem znq (q:Bool) (F:Fn) (ρ:List V) (o) (a) (h):evE q F ρ (.append o a) h=(evE q F ρ o h).bind fun x h=>if lcell h x then(evE q F ρ a h).bind fun y h=>onList h x fun vs=>some (.none,vs++[y]) else .bad:=rfl
theorem zq3 (q:Bool) (F:Fn) (ρ:List V) (o) (a) (h):evE q F ρ (.remove o a) h=(evE q F ρ o h).bind fun x h=>if lcell h x then(evE q F ρ a h).bind fun y h=>onList h x fun vs=>rmvI y vs else .bad:=rfl
theorem qE_34 (q:Bool) (F:Fn) (ρ:List V) (o) (h):evE q F ρ (.pop o) h=(evE q F ρ o h).bind fun x h=>onList h x fun vs=>(vs.getLast?).map fun v=>(v,vs.dropLast):=rfl
theorem zpf (q:Bool) (F:Fn) (ρ:List V) (o) (i) (h):evE q F ρ (.popAt o i) h=(evE q F ρ o h).bind fun x h=>if lcell h x then(evE q F ρ i h).bind fun y h=>match y with
  |.int k=>onList h x fun vs=>(place vs.length k).bind fun j=>(vs[j]?).map fun v=>(v,vs.eraseIdx j)
  |_=>.bad
  else .bad:=rfl
theorem zpe (q:Bool) (F:Fn) (ρ:List V) (o) (k) (d) (h):evE q F ρ (.get o k d) h=(evE q F ρ o h).bind fun x h=>if dcell h x then(evE q F ρ k h).bind fun y h=>(evE q F ρ d h).bind fun z h=>getDef h x y z else .bad:=rfl
theorem zq2 (q:Bool) (F:Fn) (ρ:List V) (o) (k) (d) (h):evE q F ρ (.setdef o k d) h=(evE q F ρ o h).bind fun x h=>if dcell h x then(evE q F ρ k h).bind fun y h=>(evE q F ρ d h).bind fun z h=>setDef h x y z else .bad:=rfl
theorem zpd (q:Bool) (F:Fn) (ρ:List V) (a) (b) (h):evE q F ρ (.dict1 a b) h=(evE q F ρ a (h++[.dict []])).bind fun k h'=>(evE q F ρ b h').bind fun v h'=>match setiD h' h.length k v with
  |some h'=>.ok (.ref h.length) h'
  |Option.none=>.bad:=rfl
theorem zkN (q:Bool) (F:Fn) (ρ:List V)  (h):evEs q F ρ [] h=.ok [] h:=rfl
theorem zbF (q:Bool) (F:Fn) (ρ:List V) (e) (es) (h):evEs q F ρ (e::es) h=(evE q F ρ e h).bind fun v h=>(evEs q F ρ es h).bind fun vs h=>.ok (v::vs) h:=rfl
theorem zoK (q:Bool) (F:Fn) (ρ:List V)  (h):evO q F ρ Option.none h=.ok Option.none h:=rfl
theorem zoJ (q:Bool) (F:Fn) (ρ:List V) (e) (h):evO q F ρ (some e) h=(evE q F ρ e h).bind fun v h=>.ok (some v) h:=rfl
theorem zrM (q:Bool) (F:Fn) (ρ:List V)  (h):evC q F ρ Option.none h=.ok (.bool true) h:=rfl
theorem zrL (q:Bool) (F:Fn) (ρ:List V) (e) (h):evC q F ρ (some e) h=evE q F ρ e h:=rfl
theorem zqJ (q:Bool) (F:Fn) (ρ:List V) (e) (h):evIt q F ρ (.seq e) h=(evE q F ρ e h).bind fun x h=>R.opt (iterOf h x) h:=rfl
theorem zrX (q:Bool) (F:Fn) (ρ:List V) (a) (h):evIt q F ρ (.range1 a) h=(evE q F ρ a h).bind fun x h=>match x with
  |.int n=>if -1000000≤n∧n≤1000000 then .ok (upto n,Option.none) h else .bad
  |_=>.bad:=rfl
theorem zrH (q:Bool) (F:Fn) (ρ:List V) (a) (b) (h):evIt q F ρ (.range2 a b) h=(evE q F ρ a h).bind fun x h=>(evE q F ρ b h).bind fun y h=>match x,y with
  |.int m,.int n=>if -1000000≤m∧m≤1000000∧-1000000≤n∧n≤1000000 then .ok (fromTo m n,Option.none) h else .bad
  |_,_=>.bad:=rfl
theorem zrG (q:Bool) (F:Fn) (ρ:List V) (a) (b) (c) (h):evIt q F ρ (.range3 a b c) h=(evE q F ρ a h).bind fun x h=>(evE q F ρ b h).bind fun y h=>(evE q F ρ c h).bind fun z h=>match x,y,z with
  |.int m,.int n,.int k=>if -1000000≤m∧m≤1000000∧-1000000≤n∧n≤1000000 then
    rng3 m n k h else .bad
  |_,_,_=>.bad:=rfl
theorem zrU (q:Bool) (F:Fn) (e) (ρ) (h):exS q F (.expr e) ρ h=(evE q F ρ e h).st ρ fun v h=>noneS v ρ h:=rfl
theorem zqY (q:Bool) (F:Fn) (x) (e) (ρ) (h):exS q F (.asg x e) ρ h=(evE q F ρ e h).st ρ fun v h=>.ok .next (ρ.set x v) h:=rfl
theorem zqX (q:Bool) (F:Fn) (o) (i) (e) (ρ) (h):exS q F (.setIdx o i e) ρ h=(evE q F ρ e h).st ρ fun v h=>(evE q F ρ o h).st ρ fun x h=>(evE q F ρ i h).st ρ fun y h=>match seti h x y v with
  |some h=>.ok .next ρ h
  |Option.none=>.bad:=rfl
theorem zrF (q:Bool) (F:Fn) (e) (ρ) (h):exS q F (.ret e) ρ h=(evE q F ρ e h).st ρ fun v h=>.ok (.ret v) ρ h:=rfl
theorem zrT (q:Bool) (F:Fn) (t) (a) (b) (ρ) (h):exS q F (.ifs t a b) ρ h=(evE q F ρ t h).st ρ fun x h=>match truthy x with
  |some true=>exSs q F a ρ h
  |some false=>exSs q F b ρ h
  |Option.none=>.bad:=rfl
theorem zrS (q:Bool) (F:Fn) (x) (it) (body) (ρ) (h):exS q F (.for1 x it body) ρ h=if !q then .bad else(evIt q F ρ it h).st ρ fun vs h=>forL vs.2 (bind1 x) (fun ρ h=>exSs q F body ρ h) vs.1 ρ h:=rfl
theorem zpb (q:Bool) (F:Fn) (t) (body) (ρ) (h):exS q F (.while t body) ρ h=if !q then .bad else whileL (fun ρ h=>evE q F ρ t h) (fun ρ h=>exSs q F body ρ h) turns ρ h:=rfl
theorem zq0 (q:Bool) (F:Fn) (c) (ρ) (h):exS q F (.raise c) ρ h=if !q then .bad else .err c ρ h:=rfl
theorem zpa (q:Bool) (F:Fn) (body) (c) (x) (handler) (ρ) (h):exS q F (.try body c x handler) ρ h=if !q then .bad else match exSs q F body ρ h with
  |.err d ρ h=>if zad.contains d&&c == "RingError" then(match exSs false F handler (ρ.set x (.exc d)) h with
    |.ok f ρ h=>.ok f (ρ.set x .uu) h
    |.err _ _ _=>.bad
    |.bad=>.bad) else .bad
  |r=>r:=rfl
theorem zqZ (q:Bool) (F:Fn)  (ρ) (h):exS q F .pass ρ h=.ok .next ρ h:=rfl
theorem zqW (q:Bool) (F:Fn)  (ρ) (h):exSs q F [] ρ h=.ok .next ρ h:=rfl
theorem znp (q:Bool) (F:Fn) (s) (ss) (ρ) (h):exSs q F (s::ss) ρ h=(exS q F s ρ h).then fun ρ h=>exSs q F ss ρ h:=rfl
theorem zr3 (q:Bool) (F:Fn) (ρ:List V) (h:H):evAnd q F ρ [] h=.bad:=rfl
theorem zr2 (q:Bool) (F:Fn) (ρ:List V) (e:PE) (h:H):evAnd q F ρ [e] h=evE q F ρ e h:=rfl
theorem zrN (q:Bool) (F:Fn) (ρ:List V) (e d:PE) (es:List PE) (h:H):evAnd q F ρ (e::d::es) h=(evE q F ρ e h).bind fun x h=>match truthy x with
  |some true=>evAnd q F ρ (d::es) h
  |some false=>.ok x h
  |Option.none=>.bad:=rfl
theorem zrW (q:Bool) (F:Fn) (ρ:List V) (h:H):evOr q F ρ [] h=.bad:=rfl
theorem zrV (q:Bool) (F:Fn) (ρ:List V) (e:PE) (h:H):evOr q F ρ [e] h=evE q F ρ e h:=rfl
theorem zpc (q:Bool) (F:Fn) (ρ:List V) (e d:PE) (es:List PE) (h:H):evOr q F ρ (e::d::es) h=(evE q F ρ e h).bind fun x h=>match truthy x with
  |some true=>.ok x h
  |some false=>evOr q F ρ (d::es) h
  |Option.none=>.bad:=rfl
end Mine
namespace Mine
open PySem
structure Ck where
 ctx:List (Str × Nat)
 names:List (Str × NameKind)
 fns:List String
 nums:List (String × Int)
noncomputable def zfz (k:Option NameKind):Bool:=k == some .local||k == some .cell||k == some .free
noncomputable def Ck.var (c:Ck) (x:Str) (i:Nat):Bool:=c.ctx.lookup x == some i&&zfz (c.names.lookup x)&&!(x == ("__debug__":Str))&&!(x == ("__classdict__":Str))
noncomputable def Ck.glob (c:Ck) (x:Str):Bool:=c.names.lookup x == some .globalImplicit&&!(x == ("__debug__":Str))
noncomputable def bopM:Bop→Operator
 |.add=>.Add|.sub=>.Sub|.mul=>.Mult|.fdiv=>.FloorDiv|.mod=>.Mod
noncomputable def copM:Cop→CmpOp
 |.eq=>.Eq|.ne=>.NotEq|.lt=>.Lt|.le=>.LtE|.gt=>.Gt|.ge=>.GtE|.is=>.Is|.isNot=>.IsNot|.isin=>.In|.notIn=>.NotIn
noncomputable def bopIs (op:Bop) (o:Operator):Bool:=decide (bopM op=o)
noncomputable def copIs (op:Cop) (o:CmpOp):Bool:=decide (copM op=o)
noncomputable def tyName:Ty→Str
 |.int=>"int"|.bool=>"bool"|.list=>"list"|.tuple=>"tuple"|.valueError=>"ValueError"
 |.own c=>Str.ofString c
noncomputable def isStar (e:Expr):Bool:=@Expr.casesOn (fun z=>Bool) e (fun z z z=>false) (fun z z z=>false) (fun z z z z=>false) (fun z z z=>false) (fun z z z z=>false) (fun z z z z=>false) (fun z z z=>false) (fun z z z=>false) (fun z z z z=>false) (fun z z z z=>false) (fun z z z z z=>false) (fun z z z z=>false) (fun z z=>false) (fun z z=>false) (fun z z=>false) (fun z z z z=>false) (fun z z z z=>false) (fun z z z z=>false) (fun z z=>false) (fun z z z=>false) (fun z z z=>false) (fun z z z=>false) (fun z z=>true) (fun z z=>false) (fun z z=>false) (fun z z z=>false) (fun z z z z=>false)
noncomputable def zn8 (o:Bop):Bool:=@Bop.casesOn (fun z=>Bool) o
 true
 false
 true
 false false
noncomputable def freshF (f:Bf):Bool:=@Bf.casesOn (fun z=>Bool) f false true false false false false false false false false true false
noncomputable def freshE (e:PE):Bool:=@PE.casesOn (fun z=>Bool) e false (fun z=>false) (fun z=>false) (fun z=>false) (fun z=>false) (fun z z=>false) (fun o z z=>zn8 o) (fun z=>false) (fun z=>false) (fun z=>false) (fun z=>false)
 (fun z z z=>false) (fun z z z z z=>false) (fun z=>true) (fun z=>false)
 (fun z z=>false) (fun z z z=>true) (fun z=>false) (fun z z=>false) (fun z z=>false) (fun z z=>false) (fun f z=>freshF f)
 (fun z z z z=>true) (fun z z z=>false) (fun z=>false) false (fun z z=>false) (fun z z=>false)
 (fun z=>false) (fun z z=>false) (fun z z z=>false) (fun z z z=>false) (fun z z=>false)
noncomputable def okBase (e:Expr):Bool:=@Expr.casesOn (fun z=>Bool) e (fun z z z=>true) (fun z z z=>true) (fun z z z z=>true) (fun z z z=>true) (fun z z z z=>true) (fun z z z z=>true) (fun z z z=>true) (fun z z z=>true) (fun z z z z=>true) (fun z z z z=>true) (fun z z z z z=>true) (fun z z z z=>true) (fun z z=>true) (fun z z=>true) (fun z z=>true) (fun z z z z=>true) (fun z xs z z=>!xs.isEmpty) (fun z z z z=>true) (fun z z=>true) (fun z z z=>true) (fun z z z=>true) (fun z z z=>true) (fun z z=>true) (fun z z=>true) (fun z z=>true) (fun z z z=>true) (fun z z z z=>true)
noncomputable def isSet (e:Expr):Bool:=@Expr.casesOn (fun z=>Bool) e (fun z z z=>false) (fun z z z=>false) (fun z z z z=>false) (fun z z z=>false) (fun z z z z=>false) (fun z z z z=>false) (fun z z z=>false) (fun z z z=>true) (fun z z z z=>false) (fun z z z z=>false) (fun z z z z z=>false) (fun z z z z=>false) (fun z z=>false) (fun z z=>false) (fun z z=>false) (fun z z z z=>false) (fun z z z z=>false) (fun z z z z=>false) (fun z z=>false) (fun z z z=>false) (fun z z z=>false) (fun z z z=>false) (fun z z=>false) (fun z z=>false) (fun z z=>false) (fun z z z=>false) (fun z z z z=>false)
noncomputable def tyPl:Ty→Bool
 |.own _|.valueError=>false
 |_=>true
theorem al (h:(a&&b)=true):a=true:=(yK.mp h).1
theorem ar (h:(a&&b)=true):b=true:=(yK.mp h).2
theorem nt (h:(!a)=true):a=false:=by cases a;rfl;cases h
theorem zaf {c:Prop} [Decidable c] {g:c→Bool}{G:Prop}(h:(dite c g fun z=>false)=true) (k:∀ hc,g hc=true→G):G :=
 if hc:c then k hc ((dif_pos hc).symm.trans h) else noB ((dif_neg hc).symm.trans h)
noncomputable def xConst (e:Expr) (v0:Const) (p:Bool):Bool:=dite (e.ctorIdx=19) (fun hc=>(@Expr.Constant.elim (fun z=>Bool) e hc fun v z z=>decide (v=v0)&&p)) fun z=>false
theorem za3 {G:Expr→Prop}(h:xConst e v0 p=true) (k:∀ n q,p=true→G (.Constant v0 n q)):G e :=
 zaf h fun hc h=>@Expr.Constant.elim (fun e=>∀ hc:e.ctorIdx=19,(@Expr.Constant.elim (fun z=>Bool) e hc fun v z z=>decide (v=v0)&&p)=true→G e) e hc (fun v n q z h=>(show G (.Constant v n q) from by cases zV (al h);exact k n q (ar h))) hc h
noncomputable def xName (e:Expr) (p:Str→Bool):Bool:=dite (e.ctorIdx=23) (fun hc=>(@Expr.Name.elim (fun z=>Bool) e hc fun x z=>p x)) fun z=>false
theorem zba {p:Str→Bool}{G:Expr→Prop}(h:xName e p=true) (k:∀ x q,p x=true→G (.Name x q)):G e :=
 zaf h fun hc h=>@Expr.Name.elim (fun e=>∀ hc:e.ctorIdx=23,(@Expr.Name.elim (fun z=>Bool) e hc fun x z=>p x)=true→G e) e hc (fun x q z h=>k x q h) hc h
noncomputable def zcO (e:Expr) (x0:Str) (p:Bool):Bool:=dite (e.ctorIdx=23) (fun hc=>(@Expr.Name.elim (fun z=>Bool) e hc fun x z=>decide (x=x0)&&p)) fun z=>false
theorem zbw {G:Expr→Prop}(h:zcO e x0 p=true) (k:∀ q,p=true→G (.Name x0 q)):G e :=
 zaf h fun hc h=>@Expr.Name.elim (fun e=>∀ hc:e.ctorIdx=23,(@Expr.Name.elim (fun z=>Bool) e hc fun x z=>decide (x=x0)&&p)=true→G e) e hc (fun x q z h=>(show G (.Name x q) from by cases zV (al h);exact k q (ar h))) hc h
noncomputable def xBin (e:Expr) (o0:Operator) (p:Expr→Expr→Bool):Bool:=dite (e.ctorIdx=2) (fun hc=>(@Expr.BinOp.elim (fun z=>Bool) e hc fun l o r z=>decide (o=o0)&&p l r)) fun z=>false
theorem zoA {p:Expr→Expr→Bool}{G:Expr→Prop}(h:xBin e o0 p=true) (k:∀ l r q,p l r=true→G (.BinOp l o0 r q)):G e :=
 zaf h fun hc h=>@Expr.BinOp.elim (fun e=>∀ hc:e.ctorIdx=2,(@Expr.BinOp.elim (fun z=>Bool) e hc fun l o r z=>decide (o=o0)&&p l r)=true→G e) e hc (fun l o r q z h=>(show G (.BinOp l o r q) from by cases zV (al h);exact k l r q (ar h))) hc h
noncomputable def xUn (e:Expr) (o0:UnaryOp) (p:Expr→Bool):Bool:=dite (e.ctorIdx=3) (fun hc=>(@Expr.UnaryOp.elim (fun z=>Bool) e hc fun o y z=>decide (o=o0)&&p y)) fun z=>false
theorem zl5 {p:Expr→Bool}{G:Expr→Prop}(h:xUn e o0 p=true) (k:∀ y q,p y=true→G (.UnaryOp o0 y q)):G e :=
 zaf h fun hc h=>@Expr.UnaryOp.elim (fun e=>∀ hc:e.ctorIdx=3,(@Expr.UnaryOp.elim (fun z=>Bool) e hc fun o y z=>decide (o=o0)&&p y)=true→G e) e hc (fun o y q z h=>(show G (.UnaryOp o y q) from by cases zV (al h);exact k y q (ar h))) hc h
noncomputable def xBool (e:Expr) (o0:BoolOp) (p:List Expr→Bool):Bool:=dite (e.ctorIdx=0) (fun hc=>(@Expr.BoolOp.elim (fun z=>Bool) e hc fun o ys z=>decide (o=o0)&&p ys)) fun z=>false
theorem zg7 {p:List Expr→Bool}{G:Expr→Prop}(h:xBool e o0 p=true) (k:∀ ys q,p ys=true→G (.BoolOp o0 ys q)):G e :=
 zaf h fun hc h=>@Expr.BoolOp.elim (fun e=>∀ hc:e.ctorIdx=0,(@Expr.BoolOp.elim (fun z=>Bool) e hc fun o ys z=>decide (o=o0)&&p ys)=true→G e) e hc (fun o ys q z h=>(show G (.BoolOp o ys q) from by cases zV (al h);exact k ys q (ar h))) hc h
noncomputable def xCmp (e:Expr) (p:Expr→List CmpOp→List Expr→Bool):Bool:=dite (e.ctorIdx=15) (fun hc=>(@Expr.Compare.elim (fun z=>Bool) e hc fun l os rs z=>p l os rs)) fun z=>false
theorem zjV {p:Expr→List CmpOp→List Expr→Bool}{G:Expr→Prop}(h:xCmp e p=true) (k:∀ l os rs q,p l os rs=true→G (.Compare l os rs q)):G e :=
 zaf h fun hc h=>@Expr.Compare.elim (fun e=>∀ hc:e.ctorIdx=15,(@Expr.Compare.elim (fun z=>Bool) e hc fun l os rs z=>p l os rs)=true→G e) e hc (fun l os rs q z h=>k l os rs q h) hc h
noncomputable def xList (e:Expr) (p:List Expr→Bool):Bool:=dite (e.ctorIdx=24) (fun hc=>(@Expr.List.elim (fun z=>Bool) e hc fun xs z=>p xs)) fun z=>false
theorem zk7 {p:List Expr→Bool}{G:Expr→Prop}(h:xList e p=true) (k:∀ xs q,p xs=true→G (.List xs q)):G e :=
 zaf h fun hc h=>@Expr.List.elim (fun e=>∀ hc:e.ctorIdx=24,(@Expr.List.elim (fun z=>Bool) e hc fun xs z=>p xs)=true→G e) e hc (fun xs q z h=>k xs q h) hc h
noncomputable def xTup (e:Expr) (p:List Expr→Bool):Bool:=dite (e.ctorIdx=25) (fun hc=>(@Expr.Tuple.elim (fun z=>Bool) e hc fun xs z z=>p xs)) fun z=>false
theorem zib {p:List Expr→Bool}{G:Expr→Prop}(h:xTup e p=true) (k:∀ xs n q,p xs=true→G (.Tuple xs n q)):G e :=
 zaf h fun hc h=>@Expr.Tuple.elim (fun e=>∀ hc:e.ctorIdx=25,(@Expr.Tuple.elim (fun z=>Bool) e hc fun xs z z=>p xs)=true→G e) e hc (fun xs n q z h=>k xs n q h) hc h
noncomputable def xDict (e:Expr) (p:List (Option Expr)→List Expr→Bool):Bool:=dite (e.ctorIdx=6) (fun hc=>(@Expr.Dict.elim (fun z=>Bool) e hc fun ks vs z=>p ks vs)) fun z=>false
theorem zgZ {p:List (Option Expr)→List Expr→Bool}{G:Expr→Prop}(h:xDict e p=true) (k:∀ ks vs q,p ks vs=true→G (.Dict ks vs q)):G e :=
 zaf h fun hc h=>@Expr.Dict.elim (fun e=>∀ hc:e.ctorIdx=6,(@Expr.Dict.elim (fun z=>Bool) e hc fun ks vs z=>p ks vs)=true→G e) e hc (fun ks vs q z h=>k ks vs q h) hc h
noncomputable def xSub (e:Expr) (p:Expr→Expr→Bool):Bool:=dite (e.ctorIdx=21) (fun hc=>(@Expr.Subscript.elim (fun z=>Bool) e hc fun v i z=>p v i)) fun z=>false
theorem zd8 {p:Expr→Expr→Bool}{G:Expr→Prop}(h:xSub e p=true) (k:∀ v i q,p v i=true→G (.Subscript v i q)):G e :=
 zaf h fun hc h=>@Expr.Subscript.elim (fun e=>∀ hc:e.ctorIdx=21,(@Expr.Subscript.elim (fun z=>Bool) e hc fun v i z=>p v i)=true→G e) e hc (fun v i q z h=>k v i q h) hc h
noncomputable def xSlice (e:Expr) (p:Option Expr→Option Expr→Option Expr→Bool):Bool:=dite (e.ctorIdx=26) (fun hc=>(@Expr.Slice.elim (fun z=>Bool) e hc fun l u d z=>p l u d)) fun z=>false
theorem zeU {p:Option Expr→Option Expr→Option Expr→Bool}{G:Expr→Prop}(h:xSlice e p=true) (k:∀ l u d q,p l u d=true→G (.Slice l u d q)):G e :=
 zaf h fun hc h=>@Expr.Slice.elim (fun e=>∀ hc:e.ctorIdx=26,(@Expr.Slice.elim (fun z=>Bool) e hc fun l u d z=>p l u d)=true→G e) e hc (fun l u d q z h=>k l u d q h) hc h
noncomputable def xCall (e:Expr) (p:Expr→List Expr→List Keyword→Pos→Bool):Bool:=dite (e.ctorIdx=16) (fun hc=>(@Expr.Call.elim (fun z=>Bool) e hc fun f xs ks q=>p f xs ks q)) fun z=>false
theorem zg6 {p:Expr→List Expr→List Keyword→Pos→Bool}{G:Expr→Prop}(h:xCall e p=true) (k:∀ f xs ks q,p f xs ks q=true→G (.Call f xs ks q)):G e :=
 zaf h fun hc h=>@Expr.Call.elim (fun e=>∀ hc:e.ctorIdx=16,(@Expr.Call.elim (fun z=>Bool) e hc fun f xs ks q=>p f xs ks q)=true→G e) e hc (fun f xs ks q z h=>k f xs ks q h) hc h
noncomputable def xAttr (e:Expr) (m0:Str) (p:Expr→Pos→Bool):Bool:=dite (e.ctorIdx=20) (fun hc=>(@Expr.Attribute.elim (fun z=>Bool) e hc fun v m q=>decide (m=m0)&&p v q)) fun z=>false
theorem zlR {p:Expr→Pos→Bool}{G:Expr→Prop}(h:xAttr e m0 p=true) (k:∀ v q,p v q=true→G (.Attribute v m0 q)):G e :=
 zaf h fun hc h=>@Expr.Attribute.elim (fun e=>∀ hc:e.ctorIdx=20,(@Expr.Attribute.elim (fun z=>Bool) e hc fun v m q=>decide (m=m0)&&p v q)=true→G e) e hc (fun v m q z h=>(show G (.Attribute v m q) from by cases zV (al h);exact k v q (ar h))) hc h
noncomputable def xLC (e:Expr) (p:Expr→List Comprehension→Scope→Bool):Bool:=dite (e.ctorIdx=8) (fun hc=>(@Expr.ListComp.elim (fun z=>Bool) e hc fun y gs sc z=>p y gs sc)) fun z=>false
theorem zmn {p:Expr→List Comprehension→Scope→Bool}{G:Expr→Prop}(h:xLC e p=true) (k:∀ y gs sc q,p y gs sc=true→G (.ListComp y gs sc q)):G e :=
 zaf h fun hc h=>@Expr.ListComp.elim (fun e=>∀ hc:e.ctorIdx=8,(@Expr.ListComp.elim (fun z=>Bool) e hc fun y gs sc z=>p y gs sc)=true→G e) e hc (fun y gs sc q z h=>k y gs sc q h) hc h
noncomputable def one {α:Type}(l:List α) (p:α→Bool):Bool:=@List.casesOn α (fun z=>Bool) l false fun x t=>@List.casesOn α (fun z=>Bool) t (p x) fun z z=>false
theorem zan {α:Type}{l:List α}{p:α→Bool}{G:List α→Prop}(h:one l p=true) (k:∀ x,p x=true→G [x]):G l :=
 @List.casesOn α (fun l=>one l p=true→G l) l noB (fun x t=>@List.casesOn α (fun t=>one (x::t) p=true→G (x::t)) t (k x) fun z z=>noB) h
noncomputable def two {α:Type}(l:List α) (p:α→α→Bool):Bool:=@List.casesOn α (fun z=>Bool) l false fun x t=>one t (p x)
theorem zbl {α:Type}{l:List α}{p:α→α→Bool}{G:List α→Prop}(h:two l p=true) (k:∀ x y,p x y=true→G [x,y]):G l :=
 @List.casesOn α (fun l=>two l p=true→G l) l noB (fun x t h=>zan (G:=fun t=>G (x::t)) h (k x)) h
noncomputable def three {α:Type}(l:List α) (p:α→α→α→Bool):Bool:=@List.casesOn α (fun z=>Bool) l false fun x t=>two t (p x)
theorem zie {α:Type}{l:List α}{p:α→α→α→Bool}{G:List α→Prop}(h:three l p=true) (k:∀ x y z,p x y z=true→G [x,y,z]):G l :=
 @List.casesOn α (fun l=>three l p=true→G l) l noB (fun x t h=>zbl (G:=fun t=>G (x::t)) h (k x)) h
theorem zaI {α:Type}{l:List α}{G:List α→Prop}(h:l.isEmpty=true) (k:G []):G l:=by
 cases l with
 |nil=>exact k
 |cons _ _=>cases h
noncomputable def oneO {α:Type}(o:Option α) (p:α→Bool):Bool:=@Option.casesOn α (fun z=>Bool) o false p
theorem zaS {α:Type}{o:Option α}{p:α→Bool}{G:Option α→Prop}(h:oneO o p=true) (k:∀ x,p x=true→G (some x)):G o :=
 @Option.casesOn α (fun o=>oneO o p=true→G o) o noB k h
theorem zbU {α:Type}{o:Option α}{G:Option α→Prop}(h:o.isNone=true) (k:G none):G o:=by
 cases o with
 |none=>exact k
 |some _=>cases h
noncomputable def xNamed (e:Expr) (f:Str) (p:List Expr→Bool):Bool:=xCall e fun g xs ks z=>ks.isEmpty&&(zcO g f true&&p xs)
theorem zay {e:Expr}{f:Str}{p:List Expr→Bool}{G:Expr→Prop}(h:xNamed e f p=true) (k:∀ xs q q',p xs=true→G (.Call (.Name f q) xs [] q')):G e :=
 zg6 h fun g xs ks q' h=>zaI (G:=fun ks=>G (.Call g xs ks q')) (al h) (zbw (G:=fun g=>G (.Call g xs [] q')) (al (ar h)) fun q z=>k xs q q' (ar (ar h)))
noncomputable def xMeth (e:Expr) (m:Str) (p:Expr→List Expr→Bool):Bool:=xCall e fun g xs ks q'=>ks.isEmpty&&xAttr g m fun v q=>q.endLine == q'.line&&p v xs
theorem zbx {e:Expr}{m:Str}{p:Expr→List Expr→Bool}{G:Expr→Prop}(h:xMeth e m p=true) (k:∀ v xs q q',(q.endLine == q'.line)=true→p v xs=true→G (.Call (.Attribute v m q) xs [] q')):G e :=
 zg6 h fun g xs ks q' h=>zaI (G:=fun ks=>G (.Call g xs ks q')) (al h) (zlR (G:=fun g=>G (.Call g xs [] q')) (ar h) fun v q h=>k v xs q q' (al h) (ar h))
noncomputable def xGen (gs:List Comprehension) (p:Str→Expr→List Expr→Bool):Bool:=one gs fun g=>decide (g.is_async=0)&&xName g.target fun x=>p x g.iter g.ifs
theorem zjs {gs:List Comprehension}{p:Str→Expr→List Expr→Bool}{G:List Comprehension→Prop}(h:xGen gs p=true) (k:∀ x iter ifs q,p x iter ifs=true→G [⟨.Name x q,iter,ifs,0⟩]):G gs :=
 zan h fun g h=>by
  obtain⟨t,iter,ifs,d⟩:=g
  cases zV (al h)
  exact zba (G:=fun t=>G [⟨t,iter,ifs,0⟩]) (ar h) fun x q h=>k x iter ifs q h
noncomputable def ckTy (c:Ck) (t:Ty) (e:Expr):Bool:=zcO e (tyName t) true&&c.glob (tyName t)
theorem zeJ (h:ckTy c t e=true):∃ p,e=.Name (tyName t) p∧c.glob (tyName t)=true :=
 zbw (G:=fun e=>∃ p,e=.Name (tyName t) p∧c.glob (tyName t)=true) (al h) fun q z=>⟨q,rfl,ar h⟩
noncomputable def ckTys (c:Ck):List Ty→List Expr→Bool
 |[],[]=>true
 |t::ts,e::es=>ckTy c t e&&ckTys c ts es
 |_,_=>false
noncomputable def relab (outer:List (Str × NameKind)) (names:List (Str × NameKind)):List (Str × NameKind) :=
 names.map fun(n,k)=>if(k == .free&&outer.lookup n == some .cell) then(n,.cell) else(n,k)
noncomputable def zc4 (c:Ck) (x:Str) (scope:Scope):Bool :=
 scope.kind == .function&&scope.names.all (fun p=>(p.2 != .local||((p.1 == x||p.1 == (".0":Str))&&scope.names.lookup p.1 == some .local))&&(p.2 != .free||c.names.lookup p.1 == some .cell||c.names.lookup p.1 == some .free)&&p.2 != .cell) &&
 scope.names.lookup x == some .local&&!(x == (".0":Str))&&c.ctx.lookup (".0":Str) == none
noncomputable def Ck.inner (c:Ck) (x:Str) (i:Nat) (scope:Scope):Ck:=⟨(x,i)::c.ctx,relab c.names scope.names,c.fns,c.nums⟩
noncomputable def bfName:Bf→Str
 |.len=>"len"|.list=>"list"|.tuple=>"tuple"|.sorted=>"sorted"|.min=>"min"|.sum=>"sum"|.any=>"any"|.all=>"all"|.int=>"int"|.str=>"str"
 |.listRev=>"list"|.listRange=>"list"
mutual
noncomputable def ckE (c:Ck):PE→Expr→Bool
 |.none,ex=>xConst ex .none true
 |.bool b,ex=>xConst ex (.bool b) true
 |.int i,ex=>xConst ex (.int i) true
 |.str s,ex=>xConst ex (.str (Str.ofString s)) true
 |.v i,ex=>xName ex fun x=>c.var x i
 |.glob g i,ex=>zcO ex (Str.ofString g) true&&(c.glob (Str.ofString g)&&c.nums.contains (g,i))
 |.bin op a b,ex=>xBin ex (bopM op) fun l r=>ckE c a l&&ckE c b r
 |.neg i,ex=>xUn ex .USub fun y=>xConst y (.int i) true
 |.not a,ex=>xUn ex .Not fun y=>ckE c a y
 |.and es,ex=>xBool ex .And fun ys=>ckEs c es ys
 |.or es,ex=>xBool ex .Or fun ys=>ckEs c es ys
 |.cmp op a b,ex=>xCmp ex fun l os rs=>one os fun o=>one rs fun r=>copIs op o&&(ckE c a l&&(ckE c b r&&!isSet r))
 |.cmp2 o1 o2 a b d,ex=>xCmp ex fun l os rs=>two os fun u1 u2=>two rs fun r1 r2=>copIs o1 u1&&(copIs o2 u2&&(ckE c a l&&(ckE c b r1&&(ckE c d r2&&!isSet r2))))
 |.list es,ex=>xList ex fun xs=>ckEs c es xs
 |.tup es,ex=>xTup ex fun xs=>ckEs c es xs
 |.idx a i,ex=>xSub ex fun v s=>ckE c a v&&ckE c i s
 |.slice a lo hi,ex=>xSub ex fun v s=>xSlice s fun l u d=>d.isNone&&(ckE c a v&&(ckO c lo l&&ckO c hi u))
 |.rev a,ex=>xSub ex fun v s=>xSlice s fun l u d=>d.isNone&&(u.isNone&&(ckE c a v&&oneO l fun e=>xConst e (.int 1) true))
 |.isinst a ts,ex=>xNamed ex "isinstance" fun xs=>two xs fun y t=>c.glob "isinstance"&&(ckE c a y&&(ts.all tyPl&&one ts fun u=>ckTy c u t))
 |.isexc i t,ex=>xNamed ex "isinstance" fun xs=>two xs fun y t'=>c.glob "isinstance"&&((xName y fun x=>c.var x i)&&ckTy c t t')
 |.callX f i,ex=>xNamed ex (Str.ofString f) fun xs=>one xs fun v=>c.glob (Str.ofString f)&&(c.fns.contains f&&xName v fun x=>c.var x i)
 |.bf f a,ex=>xNamed ex (bfName f) fun xs=>one xs fun x=>c.glob (bfName f)&&(match f with
    |.listRev=>false
    |.listRange=>false
    |_=>ckE c a x)
 |.comp elt i it cond,ex=>xLC ex fun y gs sc=>xGen gs fun x iter ifs=>ckIt c it iter&&(!isSet iter&&(zc4 c x sc&&(c.ctx.all (fun p=>p.2 != i)&&(ckE (c.inner x i sc) elt y&&ckC (c.inner x i sc) cond ifs))))
 |.call _ f args,ex=>xNamed ex (Str.ofString f) fun xs=>c.glob (Str.ofString f)&&(c.fns.contains f&&(ckEs c args xs&&!args.isEmpty))
 |.own a,ex=>freshE a&&ckE c a ex
 |.newDict,ex=>xDict ex fun ks vs=>ks.isEmpty&&vs.isEmpty
 |.append o a,ex=>xMeth ex "append" fun v xs=>one xs fun x=>okBase v&&(ckE c o v&&(ckE c a x&&!isStar x))
 |.remove o a,ex=>xMeth ex "remove" fun v xs=>one xs fun x=>okBase v&&(ckE c o v&&(ckE c a x&&!isStar x))
 |.pop o,ex=>xMeth ex "pop" fun v xs=>okBase v&&(ckE c o v&&xs.isEmpty)
 |.popAt o a,ex=>xMeth ex "pop" fun v xs=>one xs fun x=>okBase v&&(ckE c o v&&(ckE c a x&&!isStar x))
 |.get o k d,ex=>xMeth ex "get" fun v xs=>two xs fun x y=>okBase v&&(ckE c o v&&(ckE c k x&&(ckE c d y&&(!isStar x&&!isStar y))))
 |.setdef o k d,ex=>xMeth ex "setdefault" fun v xs=>two xs fun x y=>okBase v&&(ckE c o v&&(ckE c k x&&(ckE c d y&&(!isStar x&&!isStar y))))
 |.dict1 a b,ex=>xDict ex fun ks vs=>one ks fun k=>oneO k fun k=>one vs fun v=>ckE c a k&&ckE c b v
noncomputable def ckEs (c:Ck):List PE→List Expr→Bool
 |[],xs=>xs.isEmpty
 |e::es,xs=>(match xs with|x::xs=>!isStar x&&(ckE c e x&&ckEs c es xs)|[]=>false)
noncomputable def ckO (c:Ck):Option PE→Option Expr→Bool
 |none,x=>x.isNone
 |some e,x=>oneO x fun x=>ckE c e x
noncomputable def ckC (c:Ck):Option PE→List Expr→Bool
 |none,xs=>xs.isEmpty
 |some e,xs=>one xs fun x=>ckE c e x
noncomputable def ckIt (c:Ck):PIt→Expr→Bool
 |.seq e,x=>ckE c e x
 |.range1 a,x=>xNamed x "range" fun xs=>one xs fun y=>c.glob "range"&&ckE c a y
 |.range2 a b,x=>xNamed x "range" fun xs=>two xs fun y z=>c.glob "range"&&(ckE c a y&&ckE c b z)
 |.range3 a b d,x=>xNamed x "range" fun xs=>three xs fun y z w=>c.glob "range"&&(ckE c a y&&(ckE c b z&&ckE c d w))
end
structure Amb where
 prog:Program
 w:World
 B:Heap
 mg:Str→Option Value
 mb:Str→Option Value
 P:Tab
 K:List (Addr × Obj):=[]
 res:List Addr:=[]
abbrev Amb.M (am:Amb):Model:=model am.prog am.w
noncomputable def ExcAt (am:Amb) (h:Heap) (c:String) (a:Addr):Prop :=
 ∃ C o vs,am.mg (Str.ofString c)=some (.ref C)∧h.get? a=some o∧(o.cls=.ref C∧o.dict=none)∧o.data=.fields vs∧vs[2]?=some .none∧am.B.get? a=none
mutual
def VR (am:Amb) (π:List Addr) (h:Heap):V→Value→Prop
 |.uu,_=>False
 |.none,x=>x=.none
 |.bool b,x=>x=.bool b
 |.int i,x=>∃ t,x=.int i t
 |.str s,x=>∃ t,x=.str (Str.ofString s) t
 |.tup vs,x=>∃ a xs,x=.ref a∧(a ∉ π∧a ∉ am.res)∧h.IsTuple a (List.toArray xs)∧vs.length≤1000000∧VRs am π h vs xs
 |.l vs,x=>∃ a xs,x=.ref a∧(a ∉ π∧a ∉ am.res)∧h.IsList a (List.toArray xs)∧vs.length≤1000000∧VRs am π h vs xs
 |.ref i,x=>∃ a,x=.ref a∧π[i]?=some a
 |.exc _,_=>False
def VRs (am:Amb) (π:List Addr) (h:Heap):List V→List Value→Prop
 |[],xs=>xs=[]
 |v::vs,xs=>∃ x xs',xs=x::xs'∧VR am π h v x∧VRs am π h vs xs'
end
theorem zka:VR am π h (.ref i) x=∃ a,x=.ref a∧π[i]?=some a:=rfl
theorem zqz:VR am π h (.int i) x=∃ t,x=.int i t:=rfl
theorem VRs.len (e:VRs am π h vs xs):xs.length=vs.length:=by
 induction vs generalizing xs with
 |nil=>cases e;rfl
 |cons v vs ih =>
  obtain⟨x,xs',rfl,_,r⟩:=e;exact congrArg Nat.succ (ih r)
theorem VRs.get (e:VRs am π h vs xs) (i:Nat) (v:V) (hv:vs[i]?=some v):∃ x,xs[i]?=some x∧VR am π h v x:=by
 induction vs generalizing xs i with
 |nil=>cases hv
 |cons w vs ih =>
  obtain⟨x,xs',rfl,hx,r⟩:=e
  cases i with
  |zero=>cases hv;exact⟨x,rfl,hx⟩
  |succ i=>exact ih r i hv
theorem VRs.append (e:VRs am π h vs xs) (r:VRs am π h ws ys):VRs am π h (vs++ws) (xs++ys):=by
 induction vs generalizing xs with
 |nil=>cases e;exact r
 |cons v vs ih =>
  obtain⟨x,xs',rfl,hx,e⟩:=e;exact⟨x,xs'++ys,rfl,hx,ih e⟩
theorem VRs.single (e:VR am π h v x):VRs am π h [v] [x]:=by
 exact⟨x,[],rfl,e,rfl⟩
theorem VRs.take (n:Nat) (e:VRs am π h vs xs):VRs am π h (vs.take n) (xs.take n):=by
 induction vs generalizing xs n with
 |nil=>cases e;cases n<;>rfl
 |cons v vs ih =>
  obtain⟨x,xs',rfl,hx,e⟩:=e
  cases n with
  |zero=>rfl
  |succ n=>exact⟨x,xs'.take n,rfl,hx,ih n e⟩
theorem VRs.drop (n:Nat) (e:VRs am π h vs xs):VRs am π h (vs.drop n) (xs.drop n):=by
 induction vs generalizing xs n with
 |nil=>cases e;cases n<;>rfl
 |cons v vs ih =>
  cases n with
  |zero=>exact e
  |succ n =>
   obtain⟨x,xs',rfl,hx,e⟩:=e;exact ih n e
theorem VRs.flatten (e:VRs am π h vs xs) (n:Nat):VRs am π h (List.replicate n vs).flatten (List.replicate n xs).flatten:=by
 induction n with
 |zero=>rfl
 |succ n ih=>exact VRs.append e ih
theorem VRs.set (i:Nat) (e:VRs am π h vs xs) (hv:VR am π h v x):VRs am π h (vs.set i v) (xs.set i x):=by
 induction vs generalizing xs i with
 |nil=>cases e;rfl
 |cons w vs ih =>
  obtain⟨y,xs',rfl,hy,e⟩:=e
  cases i with
  |zero=>exact⟨x,xs',rfl,hv,e⟩
  |succ i=>exact⟨y,xs'.set i x,rfl,hy,ih i e⟩
theorem VRs.eraseIdx (i:Nat) (e:VRs am π h vs xs):VRs am π h (vs.eraseIdx i) (xs.eraseIdx i):=by
 induction vs generalizing xs i with
 |nil=>cases e;rfl
 |cons w vs ih =>
  obtain⟨y,xs',rfl,hy,e⟩:=e
  cases i with
  |zero=>exact e
  |succ i=>exact⟨y,xs'.eraseIdx i,rfl,hy,ih i e⟩
structure Ext (π Fs:List Addr) (h h':Heap):Prop where
 keep:∀ a o,h.get? a=some o→a ∉ π→a ∉ Fs→h'.get? a=some o
 slots:∀ a o,h.get? a=some o→a ∉ π→∃ sl,h'.get? a=some { o with slots:=sl }
 alive:∀ a o,h.get? a=some o→∃ o',h'.get? a=some o'
theorem Ext.refl (π Fs:List Addr) (h:Heap):Ext π Fs h h :=
 ⟨fun z z e z z=>e,fun z o e z=>⟨o.slots,e⟩,fun z o e=>⟨o,e⟩⟩
theorem Ext.of_keeps (k:∀ b o,h.get? b=some o→h'.get? b=some o):Ext π Fs h h' :=
 ⟨fun a o e z z=>k a o e,fun a o e z=>⟨o.slots,k a o e⟩,fun a o e=>⟨o,k a o e⟩⟩
theorem Ext.push (π Fs:List Addr) (h:Heap) (o:Obj):Ext π Fs h (h.push o) :=
 Ext.of_keeps fun z z e=>Heap.get?_push_of_some _ e
structure Step (Fs:List Addr) (π:List Addr) (s:Shared) (π':List Addr) (s':Shared):Prop where
 same:∃ h' tk,s'={ s with heap:=h',toks:=tk }
 ext:Ext π Fs s.heap s'.heap
 grow:∃ δ,π'=π++δ∧∀ a∈δ,s.heap.get? a=none
theorem Step.refl (Fs π:List Addr) (s:Shared):Step Fs π s π s:=⟨⟨s.heap,s.toks,rfl⟩,.refl ..,[],by simp,by simp⟩
theorem Step.notin (x:Step Fs π s π' s') (ho:s.heap.get? a=some o) (ha:a ∉ π):a ∉ π':=by
 obtain⟨δ,rfl,hδ⟩:=x.grow;intro hm
 rcases zP.mp hm with h1|h1
 ·exact ha h1
 ·have:=hδ a h1;rw[ho] at this;cases this
theorem Step.trans (x:Step Fs π₀ s₀ π₁ s₁) (y:Step Fs π₁ s₁ π₂ s₂):Step Fs π₀ s₀ π₂ s₂:=by
 refine⟨?_,⟨fun a o e h1 h2=>?_,fun a o e h1=>?_,fun a o e=>?_⟩,?_⟩
 ·obtain⟨h',tk,rfl⟩:=x.same
  obtain⟨h'',tk',rfl⟩:=y.same;exact⟨h'',tk',rfl⟩
 ·exact y.ext.keep a o (x.ext.keep a o e h1 h2) (x.notin e h1) h2
 ·obtain⟨sl,h3⟩:=x.ext.slots a o e h1
  obtain⟨sl',h4⟩:=y.ext.slots a _ h3 (x.notin e h1);exact⟨sl',h4⟩
 ·obtain⟨o',h3⟩:=x.ext.alive a o e
  exact y.ext.alive a o' h3
 ·obtain⟨δ,rfl,hδ⟩:=x.grow
  obtain⟨δ',rfl,hδ'⟩:=y.grow;refine⟨δ++δ',by simp,fun a ha=>?_⟩
  rcases zP.mp ha with h1|h1
  ·exact hδ a h1
  ·cases hq:s₀.heap.get? a with
   |none=>rfl
   |some o =>
    obtain⟨o',h3⟩:=x.ext.alive a o hq;have:=hδ' a h1;rw[h3] at this;cases this
theorem Step.keeps (k:∀ b o,s.heap.get? b=some o→h'.get? b=some o):Step Fs π s π { s with heap:=h',toks:=tk } :=
 ⟨⟨h',tk,rfl⟩,.of_keeps k,[],by simp,by simp⟩
theorem Step.tok (tk:Nat):Step Fs π s π { s with toks:=tk }:=Step.keeps fun z z e=>e
noncomputable def Via (am am':Amb) (π π':List Addr) (h h':Heap):Prop :=
 (∀ a o,h.get? a=some o→(∀ us,o.data≠.fields us)→a ∉ π→a ∉ am.res→(∃ sl,h'.get? a=some { o with slots:=sl })∧a ∉ π'∧a ∉ am'.res)∧∀ (i:Nat) (a:Addr),π[i]?=some a→π'[i]?=some a
mutual
theorem VR.via (k:Via am am' π π' h h'):∀ {v:V}{y:Value},VR am π h v y→VR am' π' h' v y
 |.uu,_,e=>e
 |.none,_,e=>e
 |.bool _,_,e=>e
 |.int _,_,e=>e
 |.str _,_,e=>e
 |.exc _,_,e=>e
 |.ref i,_,e=>by
  obtain⟨a,h1,h2⟩:=e;exact⟨a,h1,k.2 i a h2⟩
 |.tup vs,_,e=>by
  obtain⟨a,xs,h1,ha,⟨o,ho,hc,n,hd⟩,hz,e⟩:=e;obtain⟨⟨sl,hs⟩,q⟩:=k.1 a o ho (fun us z=>by rw[hd] at z;cases z) ha.1 ha.2
  exact⟨a,xs,h1,q,⟨_,hs,hc,n,hd⟩,hz,VRs.via k e⟩
 |.l vs,_,e=>by
  obtain⟨a,xs,h1,ha,⟨o,ho,hc,n,hd⟩,hz,e⟩:=e;obtain⟨⟨sl,hs⟩,q⟩:=k.1 a o ho (fun us z=>by rw[hd] at z;cases z) ha.1 ha.2
  exact⟨a,xs,h1,q,⟨_,hs,hc,n,hd⟩,hz,VRs.via k e⟩
theorem VRs.via (k:Via am am' π π' h h'):∀ {vs:List V}{ys:List Value},VRs am π h vs ys→VRs am' π' h' vs ys
 |[],_,e=>e
 |v::vs,_,e=>by
  obtain⟨y,ys',h1,h2,h3⟩:=e;exact⟨y,ys',h1,VR.via k h2,VRs.via k h3⟩
end
theorem Step.via (x:Step Fs π s π' s'):Via am am π π' s.heap s'.heap :=
 ⟨fun a o ho z h1 h2=>⟨x.ext.slots a o ho h1,x.notin ho h1,h2⟩,fun i a ha=>by
  obtain⟨δ,rfl,_⟩:=x.grow;rw[List.getElem?_append_left (List.getElem?_eq_some_iff.mp ha).1];exact ha⟩
theorem VR.step (x:Step Fs π s π' s') (e:VR am π s.heap v y):VR am π' s'.heap v y:=e.via x.via
theorem VRs.step (x:Step Fs π s π' s') (e:VRs am π s.heap vs ys):VRs am π' s'.heap vs ys:=e.via x.via
def PL (h:Heap) (a:Addr) (xs:List Value):Prop:=∃ o n,h.get? a=some o∧o.cls=.type "list"∧o.dict=none∧o.data=.seq (List.toArray xs) n
theorem PL.is (x:PL h a xs):h.IsList a (List.toArray xs):=let ⟨o,n,ho,hc,_,hd⟩:=x;⟨o,ho,hc,n,hd⟩
noncomputable def Cell.vals:Cell→List V
 |.list vs=>vs
 |.dict es=>es.flatMap fun e=>[e.1,e.2]
noncomputable def hashV (k:V):Int:=match keyT k with
 |some is=>reduceHash (Builtin.Tuple.tupleHashOf (is.map hashInt))
 |none=>0
noncomputable def ents:List (V × V)→List Value→List DictEntry
 |(k,_)::es,x::y::xs=>⟨hashV k,x,y⟩::ents es xs
 |_,_=>[]
def dgood (es:List (V × V)):Prop:=(es.map (·.1)).Nodup∧∀ e∈es,(keyT e.1).isSome=true
def CK:Cell→Addr→Obj→List Value→Prop
 |.list _,_,o,xs=>∃ n,o.cls=.type "list"∧o.dict=none∧o.data=.seq (List.toArray xs) n
 |.dict es,a,o,xs=>a≠sysModules∧∃ arr ep,o.cls=.type "dict"∧o.dict=none∧o.data=.dict arr ep∧arr.toList=ents es xs∧dgood es∧ep=es.length
theorem CK.slots (sl:Array (Option Value)) (x:CK c a o xs):CK c a { o with slots:=sl } xs:=by
 cases c<;>exact x
theorem CK.nf (x:CK c a o xs):∀ us,o.data≠.fields us:=fun us q=>by
 cases c with
 |list vs=>obtain⟨n,_,_,hd⟩:=x;rw[hd] at q;cases q
 |dict es=>obtain⟨_,arr,ep,_,_,hd,_⟩:=x;rw[hd] at q;cases q
def CellAt (am:Amb) (π:List Addr) (h:Heap) (c:Cell) (a:Addr):Prop:=∃ o xs,h.get? a=some o∧CK c a o xs∧c.vals.length≤1000000∧VRs am π h c.vals xs
theorem CellAt.list (x:CellAt am π h (.list vs) a):∃ xs,PL h a xs∧vs.length≤1000000∧VRs am π h vs xs:=by
 obtain⟨o,xs,ho,⟨n,r⟩,h2,h3⟩:=x;exact⟨xs,⟨o,n,ho,r⟩,h2,h3⟩
theorem CellAt.ofList (x:PL h a xs) (h2:vs.length≤1000000) (h3:VRs am π h vs xs):CellAt am π h (.list vs) a:=by
 obtain⟨o,n,ho,r⟩:=x;exact⟨o,xs,ho,⟨n,r⟩,h2,h3⟩
theorem CellAt.obj (x:CellAt am π h c a):∃ o,h.get? a=some o∧∀ us,o.data≠.fields us:=by
 obtain⟨o,xs,ho,hk,_⟩:=x;exact⟨o,ho,hk.nf⟩
theorem CellAt.via (k:Via am am' π π' h h') (ka:∀ o,h.get? a=some o→(∀ us,o.data≠.fields us)→∃ sl,h'.get? a=some { o with slots:=sl }) (x:CellAt am π h c a):CellAt am' π' h' c a:=by
 obtain⟨o,xs,ho,hk,h2,h3⟩:=x;obtain⟨sl,hs⟩:=ka o ho hk.nf;exact⟨_,xs,hs,hk.slots sl,h2,h3.via k⟩
structure HR (am:Amb) (sk:List Env) (π:List Addr) (H:H) (h:Heap):Prop where
 base:am.B.StaysIn h
 frames:h.FunFrames am.B sk
 len:π.length=H.length
 nodup:π.Nodup
 res:∀ a∈am.res,∃ o,h.get? a=some o∧∀ us,o.data≠.fields us
 off:∀ a∈π,am.B.get? a=none∧a ∉ sk.filterMap (·.frame)
 cell:∀ (i:Nat) (c:Cell) (a:Addr),H[i]?=some c→π[i]?=some a→CellAt am π h c a
end Mine
namespace Mine
open PySem PySem.W
abbrev Fs (sk:List Env):List Addr:=sk.filterMap (·.frame)
noncomputable def XAt (base h:Heap) (e:Addr) (C:Value) (fl:Option Value):Prop :=
 base.StaysIn h∧base.get? e=none∧∃ oe vs,h.get? e=some oe∧(oe.cls=C∧oe.dict=none)∧oe.data=.fields vs∧vs[2]?=some .none ∧
  (match fl with
   |none=>vs[1]?=some .none
   |some f=>∃ T oT ts,vs[1]?=some (.ref T)∧base.get? T=none∧T≠e∧h.get? T=some oT∧oT.data=.fields ts∧ts[3]?=some f)
theorem zal {base B:Heap}(k:base.StaysIn B){b:Addr}(e:B.get? b=none):base.get? b=none:=by
 cases q:base.get? b with
 |none=>rfl
 |some o=>have:=k b o q;rw[e] at this;cases this
theorem zdo {h h' base:Heap}(k:h.UpToSlots h'){l:List Env}(x:h.FunFrames base l):h'.FunFrames base l :=
 x.of_keeps fun b o ho hn=>let ⟨_,e⟩:=k b o ho hn;⟨_,e,rfl⟩
theorem XAt.mono {base B h:Heap}{e:Addr}{C:Value}{fl:Option Value}(k:base.StaysIn B) (x:XAt B h e C fl):XAt base h e C fl:=by
 refine hold fun z k_=>?_;obtain⟨h1,h2,oe,vs,h3,h4,h5,h6,h7⟩:=x;refine k_ ?_;refine⟨fun b o q=>h1 b o (k b o q),zal k h2,oe,vs,h3,h4,h5,h6,?_⟩
 cases fl with
 |none=>exact h7
 |some f =>
  refine hold fun z k_=>?_;obtain⟨T,oT,ts,t1,t2,t3⟩:=h7;refine k_ ?_;exact⟨T,oT,ts,t1,zal k t2,t3⟩
structure Touch (base:Heap) (h h':Heap):Prop where
 stays:base.StaysIn h'
 slots:h.UpToSlots h'
theorem Touch.trans (x:Touch base h₁ h₂) (y:Touch base h₂ h₃):Touch base h₁ h₃:=⟨y.stays,x.slots.trans y.slots⟩
theorem zdG (o:Obj) (f):(o.mapFields f).dict=o.dict:=by
 obtain⟨c,d,dt,sl⟩:=o;cases dt<;>rfl
section
variable {M:Model}{A:Around}{E:Value→Shared→Prop}{s:Shared}
theorem zhY {Q:Unit→Shared→Prop}
  (hfr:A.frames=some (env::outer)) (hl:s.heap.FunFrames base (env::outer)) (hf:env.frame=some L)
  (he:s.heap.get? e=some oe) (hkb:base.StaysIn s.heap) (hen:base.get? e=none) (hdi:oe.dict=none) (hd:oe.data=.fields vs) (hsz:1 < vs.size) (h2:vs[2]?=some .none)
  (h:∀ h',XAt base h' e oe.cls (some (rawInt L))→Touch base s.heap h'→Q () { s with heap:=h' }) :
  wpAny M A (do let a ← frameOf env;let pl ← entryPlaceOf L hadNext;let b ← EntryCells.newEntry head a .none (rawInt L) .none pl;setField (.ref e) 1 b) Q E s:=by
 have hene:e ∉ (env::outer).filterMap (·.frame):=fun hm=>by
  refine hold fun z k_=>?_;obtain⟨_,o,ho,hnf⟩:=hl.mem hm;refine k_ ?_;rw[he] at ho;injection ho with ho;subst ho;exact hnf vs hd
 refine yX (wpAny_frameOf_fun hfr hl hf fun h₁ hs₁=>?_);refine yX (wpAny_entryPlaceOf fun pl hpl=>?_);unfold EntryCells.newEntry newFields;refine yX (wpAny_newObj_type ?_ (hpl.sizeOk5 _ _ _ _ _));have he₁:h₁.get? e=some oe:=(hs₁.2.1 e hene).trans he;have kb₁:base.StaysIn h₁:=fun b o hbo=>(hs₁.2.1 b fun hm=>by rw[(hl.mem hm).1] at hbo;cases hbo).trans (hkb b o hbo)
 generalize hT:({ cls:=.type "traceback",dict:=none,data:=.fields ([head,.ref L,.none,rawInt L,.none]++(if pl.isEmpty then List.replicate 6 Value.none else pl)).toArray }:Obj)=T;have hTd:T.data=.fields ([head,.ref L,.none,rawInt L,.none]++(if pl.isEmpty then List.replicate 6 Value.none else pl)).toArray:=by rw[←hT]
 have he₂:=Heap.get?_push_of_some (h:=h₁) T he₁;refine wpAny_setField he₂ hd hsz (h _ ?_ ?_)
 all_goals
  have hTe:h₁.objs.size≠e:=Nat.ne_of_gt (Heap.lt_size he₁);have hd₃:=Obj.data_mapFields hd (·.setIfInBounds 1 (Value.ref h₁.objs.size));have he₃:=Heap.get?_update_self (Obj.mapFields (·.setIfInBounds 1 (Value.ref h₁.objs.size))) he₂ (Obj.isFreed_of_fields hd₃);have hT₃:=(Heap.get?_update_other (h₁.push T) (Obj.mapFields (·.setIfInBounds 1 (Value.ref h₁.objs.size))) (Ne.symm hTe)).trans (Heap.get?_push_size h₁ (Obj.isFreed_of_fields hTd))
  have keep:∀ b o,b≠e→h₁.get? b=some o→((h₁.push T).update e (Obj.mapFields (·.setIfInBounds 1 (Value.ref h₁.objs.size)))).get? b=some o :=
   fun b o hbe hb=>by
    rw[Heap.get?_update_other _ _ (Ne.symm hbe)];exact Heap.get?_push_of_some _ hb
  have noRecord:∀ b o,s.heap.get? b=some o→(∀ vs,o.data≠.fields vs)→b≠e:=fun b o hb hnf q=>by
   rw[q,he] at hb;injection hb with hb;subst hb;exact hnf vs hd
  have kb₂:base.StaysIn ((h₁.push T).update e (Obj.mapFields (·.setIfInBounds 1 (Value.ref h₁.objs.size)))):=fun b o hbo=>keep b o (fun q=>by rw[q,hen] at hbo;cases hbo) (kb₁ b o hbo)
 ·refine⟨kb₂,hen,_,_,he₃,⟨Obj.cls_mapFields _ _,(zdG _ _).trans hdi⟩,hd₃,by rw[Array.getElem?_setIfInBounds_ne (by decide)];exact h2,h₁.objs.size,_,_,by simp[hsz],kb₁.fresh,hTe,hT₃,hTd,?_⟩
  first|(simp;done)|(rcases hpl with rfl|⟨_,_,_,_,_,_,_,rfl⟩<;>simp)
 ·refine⟨kb₂,fun b o hb hnf=>?_⟩
  obtain⟨sl,hs⟩:=hs₁.2.2 b o hb;exact⟨sl,keep b _ (noRecord b o hb hnf) hs⟩
theorem zhX {Q:Unit→Shared→Prop}
  (hfr:A.frames=some (env::outer)) (hl:s.heap.FunFrames base (env::outer)) (hf:env.frame=some L) (x:XAt base s.heap e C fl)
  (h:∀ h',XAt base h' e C (some (rawInt L))→Touch base s.heap h'→Q () { s with heap:=h' }):wpAny M A (noteFrame (.ref e) env) Q E s:=by
 refine hold fun z k_=>?_;obtain⟨h1,h2,oe,vs,h3,h4,h5,h6,h7⟩:=id x;refine k_ ?_;have hz2:2 < vs.size:=(Array.getElem?_eq_some_iff.mp h6).1;obtain⟨rfl,h4d⟩:=h4;unfold noteFrame;simp only[hf]
 cases fl with
 |none =>
  refine yX (wpAny_field h3 h5 h7 ?_);rw[zR (by decide)]
  exact zhY hfr hl hf h3 h1 h2 h4d h5 (by omega) h6 h
 |some f =>
  refine hold fun z k_=>?_;obtain⟨T,oT,ts,t1,t2,t3,t4,t5,t6⟩:=h7;refine k_ ?_;refine yX (wpAny_field h3 h5 t1 ?_);rw[zT (show(Value.ref T != Value.none)=true from by simp)]
  refine yX (wpAny_field t4 t5 t6 ?_)
  by_cases hq:(f == rawInt L)=true
  ·rw[zT hq]
   have:f=rawInt L:=eq_of_beq hq;subst this;refine hold fun z k_=>?_;obtain⟨hh,hg,hd,ht,ho⟩:=s;refine k_ ?_;exact yW (h hh x ⟨h1,.refl _⟩)
  ·rw[zR hq]
   refine yX (wpAny_setField t4 t5 (Array.getElem?_eq_some_iff.mp t6).1 ?_);have other:∀ b,b≠T→(s.heap.update T (Obj.mapFields (·.setIfInBounds 3 Value.none))).get? b=s.heap.get? b:=fun b hb=>Heap.get?_update_other _ _ (Ne.symm hb);have noRecord:∀ b o,s.heap.get? b=some o→(∀ vs,o.data≠.fields vs)→b≠T:=fun b o hb hnf q=>by
    rw[q,t4] at hb;injection hb with hb;subst hb;exact hnf ts t5
   refine zhY (s:={ s with heap:=s.heap.update T (Obj.mapFields (·.setIfInBounds 3 Value.none)) }) hfr (hl.of_keeps fun b o hb hnf=>⟨o,(other b (noRecord b o hb hnf)).trans hb,rfl⟩) hf ((other e (Ne.symm t3)).trans h3)
    (fun b o hbo=>(other b fun q=>by rw[q,t2] at hbo;cases hbo).trans (h1 b o hbo)) h2 h4d h5 (by omega) h6 fun h' y1 y2=>h h' y1 ⟨y2.stays,fun b o hb hnf=>y2.slots b o ((other b (noRecord b o hb hnf)).trans hb) hnf⟩
theorem zcA {Q:Unit→Shared→Prop}
  (x:XAt base s.heap e C (some f))
  (h:∀ h',XAt base h' e C (some (fr.elim .none fun f=>rawInt f))→Touch base s.heap h'→Q () { s with heap:=h' }):wpAny M A (setFlight (.ref e) fr) Q E s:=by
 refine hold fun z k_=>?_;obtain⟨h1,h2,oe,vs,h3,h4,h5,h6,T,oT,ts,t1,t2,t3,t4,t5,t6⟩:=id x;refine k_ ?_;have hsz3:3 < ts.size:=(Array.getElem?_eq_some_iff.mp t6).1;have other:∀ b,b≠T→(s.heap.update T (Obj.mapFields (·.setIfInBounds 3 (fr.elim Value.none fun f=>rawInt f)))).get? b=s.heap.get? b :=
  fun b hb=>Heap.get?_update_other _ _ (Ne.symm hb)
 have noRecord:∀ b o,s.heap.get? b=some o→(∀ vs,o.data≠.fields vs)→b≠T:=fun b o hb hnf q=>by
  rw[q,t4] at hb;injection hb with hb;subst hb;exact hnf ts t5
 have kb:base.StaysIn (s.heap.update T (Obj.mapFields (·.setIfInBounds 3 (fr.elim Value.none fun f=>rawInt f)))):=fun b o hbo=>(other b fun q=>by rw[q,t2] at hbo;cases hbo).trans (h1 b o hbo)
 unfold setFlight;refine yX (wpAny_field h3 h5 t1 ?_);rw[zT (show(Value.ref T != Value.none)=true from by simp)]
 refine wpAny_setField t4 t5 hsz3 (h _ ?_ ⟨kb,fun b o hb hnf=>⟨o.slots,(other b (noRecord b o hb hnf)).trans hb⟩⟩);exact⟨kb,h2,oe,vs,(other e (Ne.symm t3)).trans h3,h4,h5,h6,T,_,_,t1,t2,t3,Heap.get?_update_self _ t4 (Obj.isFreed_of_fields (Obj.data_mapFields t5 _)),Obj.data_mapFields t5 _,by simp[hsz3]⟩
theorem zmK {Q:Unit→Shared→Prop}
  (hfr:A.frames=some (env::outer)) (hl:s.heap.FunFrames base (env::outer)) (hf:env.frame=some L) (x:XAt base s.heap e C fl)
  (h:∀ h',XAt base h' e C (some .none)→Touch base s.heap h'→Q () { s with heap:=h' }):wpAny M A (leaving env (.ref e)) Q E s:=by
 unfold leaving;refine yX (zhX hfr hl hf x fun h₁ x₁ k₁=>?_);exact zcA (fr:=none) x₁ fun h₂ x₂ k₂=>h h₂ x₂ (k₁.trans k₂)
end
theorem zdK {M:Model}{A:Around}{α:Type}{t:Sem α}{Q:α→Shared→Prop}{E:Value→Shared→Prop}{s:Shared}(h:∀ (Q':α→Shared→Prop) (E':Value→Shared→Prop),(∀ a s,Q a s→Q' a s)→(∀ y s,E y s→E' y s)→wpAny M A t Q' E' s):wpAny M A t Q E s:=h Q E (fun z z h=>h) fun z z h=>h
inductive OkP (am:Amb) (sk:List Env){α β:Type}(Rel:List Addr→Heap→β→α→Prop) (π:List Addr) (s:Shared) (r:R β) (a:α) (s':Shared):Prop
 |mk (b:β) (H':H) (π':List Addr) (h1:r=.ok b H') (h2:Step (Fs sk) π s π' s') (h3:HR am sk π' H' s'.heap) (h4:Rel π' s'.heap b a)
abbrev ground (sk:List Env) (π:List Addr) (h:Heap):Heap:=hideAll h (π++Fs sk)
inductive ErP (am:Amb) (sk:List Env){β:Type}(π:List Addr) (s:Shared) (r:R β) (x:Value) (s':Shared):Prop
 |mk (c:String) (H':H) (π':List Addr) (e C:Addr) (fl:Option Value) (h1:r=.err c H') (h2:x=.ref e) (h3:am.mg (Str.ofString c)=some (.ref C)) (h4:Step (Fs sk) π s π' s') (h5:HR am sk π' H' s'.heap) (h6:XAt (ground sk π s.heap) s'.heap e (.ref C) fl)
noncomputable def JAt (am:Amb) (sk:List Env) (A:Around){α β:Type}(m:Sem α) (r:R β) (Rel:List Addr→Heap→β→α→Prop) (π:List Addr) (s:Shared):Prop :=
 r=.bad∨wpAny am.M A m (OkP am sk Rel π s r) (ErP am sk π s r) s
theorem zgb {sk:List Env}{π π':List Addr}{s s':Shared}(x:Step (Fs sk) π s π' s'):(ground sk π s.heap).StaysIn (ground sk π' s'.heap):=by
 intro b o e;have h1:=of_hideAll _ e;have hn:b ∉ π++Fs sk:=fun hm=>by rw[hideAll_none _ hm] at e;cases e
 rw[zP,not_or] at hn;refine hideAll_get _ (x.ext.keep b o h1 hn.1 hn.2) ?_;rw[zP,not_or];exact⟨x.notin h1 hn.1,hn.2⟩
theorem OkP.step {am:Amb}{sk:List Env}{α β:Type}{Rel:List Addr→Heap→β→α→Prop}{π π₁:List Addr}{s s₁:Shared}{r:R β}{a:α}{s':Shared}
  (x:Step (Fs sk) π s π₁ s₁) (y:OkP am sk Rel π₁ s₁ r a s'):OkP am sk Rel π s r a s':=by
 refine hold fun z k_=>?_;obtain⟨b,H',π',h1,h2,h3,h4⟩:=y;refine k_ ?_;exact⟨b,H',π',h1,x.trans h2,h3,h4⟩
theorem ErP.step {am:Amb}{sk:List Env}{β:Type}{π π₁:List Addr}{s s₁:Shared}{r:R β}{a:Value}{s':Shared}
  (x:Step (Fs sk) π s π₁ s₁) (y:ErP am sk π₁ s₁ r a s'):ErP am sk π s r a s':=by
 refine hold fun z k_=>?_;obtain⟨c,H',π',e,C,fl,h1,h2,h3,h4,h5,h6⟩:=y;refine k_ ?_;exact⟨c,H',π',e,C,fl,h1,h2,h3,x.trans h4,h5,h6.mono (zgb x)⟩
section
variable {am:Amb}{sk:List Env}{A:Around}{α β γ δ:Type}{Rel:List Addr→Heap→β→α→Prop}{Rel':List Addr→Heap→δ→γ→Prop}{π:List Addr}{s:Shared}
theorem JAt.bind {m:Sem α}{f:α→Sem γ}{r:R β}{g:β→H→R δ}(h1:JAt am sk A m r Rel π s)
  (h2:∀ a b H' π' s',r=.ok b H'→Step (Fs sk) π s π' s'→HR am sk π' H' s'.heap→Rel π' s'.heap b a→JAt am sk A (f a) (g b H') Rel' π' s') :
  JAt am sk A (m >>= f) (r.bind g) Rel' π s:=by
 rcases h1 with rfl|h1
 ·exact .inl rfl
 ·cases r with
  |bad=>exact .inl rfl
  |err c H' =>
   refine .inr (yX (yV h1 (fun a s' h=>?_) fun e s' h=>?_))
   ·obtain⟨_,_,_,h,_⟩:=h;cases h
   ·refine hold fun z k_=>?_
    obtain⟨c',H'',π',e',C,fl,h,r2,r3,r4,r5,r6⟩:=h;refine k_ ?_
    cases h
    exact⟨c,H',π',e',C,fl,rfl,r2,r3,r4,r5,r6⟩
  |ok b H' =>
   by_cases hb:g b H'=.bad
   ·exact .inl hb
   ·refine .inr (yX (yV h1 (fun a s' h=>?_) fun e s' h=>?_))
    ·refine hold fun z k_=>?_
     obtain⟨b',H'',π',h,h3,h4,h5⟩:=h;refine k_ ?_
     cases h
     rcases h2 a b H' π' s' rfl h3 h4 h5 with h6|h6
     ·exact absurd h6 hb
     ·exact yV h6 (fun z z y=>OkP.step h3 y) fun z z y=>ErP.step h3 y
    ·obtain⟨_,_,_,_,_,_,h,_⟩:=h;cases h
theorem JAt.mono {Rel₂:List Addr→Heap→β→α→Prop}(h:JAt am sk A m r Rel π s) (k:∀ π h b a,Rel π h b a→Rel₂ π h b a):JAt am sk A m r Rel₂ π s:=by
 rcases h with h|h
 ·exact .inl h
 ·exact .inr (yV h (fun a s' ⟨b,H',π',h1,h2,h3,h4⟩=>⟨b,H',π',h1,h2,h3,k _ _ _ _ h4⟩) fun z z y=>y)
theorem JAt.pure (hr:HR am sk π Hc s.heap) (h:Rel π s.heap b a):JAt am sk A (pure a:Sem α) (.ok b Hc) Rel π s :=
 .inr (yW ⟨b,Hc,π,rfl,.refl ..,hr,h⟩)
theorem JAt.congr (e:m=m') (er:r=r') (h:JAt am sk A m' r' Rel π s):JAt am sk A m r Rel π s:=by subst e er;exact h
theorem JAt.holding (h:JAt am sk A m r Rel π s):JAt am sk A (PySem.holding vs m) r Rel π s:=by
 rcases h with h|h
 ·exact .inl h
 ·exact .inr (yU h)
theorem JAt.standAt {f:Unit→Sem α}(h:JAt am sk A (f ()) r Rel π s):JAt am sk A (PySem.standAt pos >>= f) r Rel π s:=by
 rcases h with h|h
 ·exact .inl h
 ·exact .inr (yX (wpAny_standAt h))
theorem JAt.rule (k:∀ (Q:α→Shared→Prop) (E:Value→Shared→Prop),wpAny am.M A m' Q E s→wpAny am.M A m Q E s) (h:JAt am sk A m' r Rel π s):JAt am sk A m r Rel π s:=by
 rcases h with h|h
 ·exact .inl h
 ·exact .inr (k _ _ h)
end
theorem zdO {Q:Unit→Shared→Prop}{E:Value→Shared→Prop}(h:Q () s):wpAny M A (release vs keep) Q E s :=
 fun Γ p z=>by
  unfold release;rw[Sem.wp_release_go];exact h
theorem zcb {Q:Value→Shared→Prop}{E:Value→Shared→Prop}(h:wpAny M A m Q E s):wpAny M A (operate vs m) Q E s:=by
 unfold operate;exact yX (yU (yV h (fun r s' hr=>yX (zdO (yW hr))) fun z z y=>y))
theorem JAt.operate {am:Amb}{sk:List Env}{A:Around}{β:Type}{Rel:List Addr→Heap→β→Value→Prop}{π:List Addr}{s:Shared}{vs:List Value}{m:Sem Value}{r:R β}(h:JAt am sk A m r Rel π s):JAt am sk A (PySem.operate vs m) r Rel π s :=
 h.rule fun z z x=>zcb x
structure Cx where
 env:Env
 sk:List Env
 ctx:List (Str × Nat)
def Vis (env:Env) (x:Str):Prop:=env.kindOf x=some .local∨env.kindOf x=some .cell∨env.kindOf x=some .free
noncomputable def VarAt (h:Heap) (env:Env) (x:Str) (v:Value):Prop :=
 (env.kindOf x=some .local∧∃ m,h.Ns env.locals m∧m x=some v) ∨
 ((env.kindOf x=some .cell∨env.kindOf x=some .free)∧∃ c,env.cells.lookup x=some c∧h.IsCell c (some v))
noncomputable def SR (am:Amb) (π:List Addr) (h:Heap) (v:V) (x:Value):Prop :=
 VR am π h v x∨∃ c a,v=.exc c∧x=.ref a∧a ∉ π∧ExcAt am h c a
structure ER (am:Amb) (cx:Cx) (ρ:List V) (π:List Addr) (h:Heap):Prop where
 ns:∃ m,h.Ns cx.env.locals m
 locOff:cx.env.locals ∉ π
 cellOff:∀ x c,cx.env.cells.lookup x=some c→c ∉ π∧c≠cx.env.locals∧∃ v,h.IsCell c v
 apart:∀ x y c,cx.env.cells.lookup x=some c→cx.env.cells.lookup y=some c→x=y
 var:∀ x i v,cx.ctx.lookup x=some i→ρ[i]?=some v→v≠.uu→Vis cx.env x→∃ v',VarAt h cx.env x v'∧SR am π h v v'
theorem Ext.ns {π Fs:List Addr}{h h':Heap}(x:Ext π Fs h h'){a:Addr}{m:Str→Option Value}(hn:h.Ns a m) (ha:a ∉ π):h'.Ns a m:=by
 refine hold fun z k_=>?_;obtain⟨o,es,ep,ho,hd,r⟩:=hn;refine k_ ?_;obtain⟨sl,hs⟩:=x.slots a o ho ha;exact⟨_,es,ep,hs,hd,r⟩
theorem Ext.cell {π Fs:List Addr}{h h':Heap}(x:Ext π Fs h h'){a:Addr}{v:Option Value}(hn:h.IsCell a v) (ha:a ∉ π):h'.IsCell a v:=by
 obtain⟨o,ho,hd⟩:=hn;obtain⟨sl,hs⟩:=x.slots a o ho ha;exact⟨_,hs,hd⟩
theorem Heap.Ns.exist {h:Heap}{a:Addr}{m:Str→Option Value}(hn:h.Ns a m):∃ o,h.get? a=some o:=let ⟨o,_,_,ho,_⟩:=hn;⟨o,ho⟩
theorem Heap.IsCell.exist {h:Heap}{a:Addr}{v:Option Value}(hn:h.IsCell a v):∃ o,h.get? a=some o:=let ⟨o,ho,_⟩:=hn;⟨o,ho⟩
theorem ExcAt.step {am:Amb}{Fs π π':List Addr}{s s':Shared}(x:Step Fs π s π' s'){c:String}{a:Addr}(e:ExcAt am s.heap c a) (ha:a ∉ π):a ∉ π'∧ExcAt am s'.heap c a:=by
 refine hold fun z k_=>?_;obtain⟨C,o,vs,h1,h2,h3,h4,h5,h6⟩:=e;refine k_ ?_;obtain⟨sl,h7⟩:=x.ext.slots a o h2 ha;exact⟨x.notin h2 ha,C,_,vs,h1,h7,h3,h4,h5,h6⟩
theorem SR.step {am:Amb}{Fs π π':List Addr}{s s':Shared}(x:Step Fs π s π' s'){v:V}{y:Value}(e:SR am π s.heap v y):SR am π' s'.heap v y:=by
 rcases e with e|⟨c,a,h1,h2,h3,h4⟩
 ·exact .inl (e.step x)
 ·have:=h4.step x h3
  exact .inr ⟨c,a,h1,h2,this.1,this.2⟩
theorem ER.step {am:Amb}{cx:Cx}{ρ:List V}{Fs π π':List Addr}{s s':Shared}(x:Step Fs π s π' s') (e:ER am cx ρ π s.heap):ER am cx ρ π' s'.heap:=by
 obtain⟨m,hm⟩:=e.ns;obtain⟨o,ho⟩:=Heap.Ns.exist hm;refine⟨⟨m,x.ext.ns hm e.locOff⟩,x.notin ho e.locOff,fun y c hc=>?_,e.apart,fun y i v h1 h2 h3 h4=>?_⟩
 ·refine hold fun z k_=>?_
  obtain⟨h1,h2,v,h3⟩:=e.cellOff y c hc;refine k_ ?_;obtain⟨o,ho⟩:=Heap.IsCell.exist h3;exact⟨x.notin ho h1,h2,v,x.ext.cell h3 h1⟩
 ·obtain⟨v',h5,h6⟩:=e.var y i v h1 h2 h3 h4
  refine⟨v',?_,h6.step x⟩
  rcases h5 with⟨k,m',h7,h8⟩|⟨k,c,h7,h8⟩
  ·exact .inl ⟨k,m',x.ext.ns h7 e.locOff,h8⟩
  ·exact .inr ⟨k,c,h7,x.ext.cell h8 (e.cellOff y c h7).1⟩
noncomputable def Hd (q:Bool) (A:Around) (π Fs:List Addr) (h:Heap):Prop :=
 if q then A.handled=none else ∃ he o vs,A.handled=some (.ref he)∧he ∉ π∧he ∉ Fs∧h.get? he=some o∧o.data=.fields vs∧vs[2]?=some .none
set_option tactic.hygienic true in
theorem Hd.step {q:Bool}{A:Around}{Fs π π':List Addr}{s s':Shared}(x:Step Fs π s π' s') (e:Hd q A π Fs s.heap):Hd q A π' Fs s'.heap:=by
 unfold Hd at e ⊢
 split
 ·rename_i hq;rw[zT hq] at e;exact e
 ·rename_i hq
  rw[zR hq] at e;refine hold fun z k_=>?_;obtain⟨he,o,vs,h1,h2,h3,h4,h5⟩:=e;refine k_ ?_;exact⟨he,o,vs,h1,x.notin h4 h2,h3,x.ext.keep he o h4 h2 h3,h5⟩
structure AS (n:Nat) (sk:List Env) (A:Around):Prop where
 frames:A.frames=some sk
 depth:A.depth+n < 800
 units:A.units+10 * n < 9000
theorem AS.dk {n:Nat}{sk:List Env}{A:Around}(as:AS n sk A){k:Nat}(hk:k≤200):A.depth+k < 1000:=Nat.lt_of_le_of_lt (Nat.add_le_add_right (Nat.le_add_right _ n) k) (Nat.lt_of_lt_of_le (Nat.add_lt_add_right as.depth k) (Nat.add_le_add_left hk 800))
theorem AS.uk {n:Nat}{sk:List Env}{A:Around}(as:AS n sk A){k:Nat}(hk:k≤900):A.units+k < 9900:=Nat.lt_of_le_of_lt (Nat.add_le_add_right (Nat.le_add_right _ (10 * n)) k) (Nat.lt_of_lt_of_le (Nat.add_lt_add_right as.units k) (Nat.add_le_add_left hk 9000))
theorem zmx (h:i < n+1) (h':¬ i < n):i=n:=Nat.le_antisymm (Nat.le_of_lt_succ h) (Nat.le_of_not_lt h')
structure St (am:Amb) (q:Bool) (cx:Cx) (ρ:List V) (π:List Addr) (Hc:H) (A:Around) (s:Shared):Prop where
 hr:HR am cx.sk π Hc s.heap
 er:ER am cx ρ π s.heap
 hd:Hd q A π (Fs cx.sk) s.heap
theorem St.step (x:St am q cx ρ π Hc A s) (y:Step (Fs cx.sk) π s π' s') (hr:HR am cx.sk π' H' s'.heap):St am q cx ρ π' H' A s' :=
 ⟨hr,x.er.step y,x.hd.step y⟩
structure AmbOK (am:Amb):Prop where
 g:am.B.Ns mainGlobals am.mg
 b:am.B.Ns builtinsNs am.mb
 nolimit:am.B.NoLimit
 noseer:am.B.NoSeer
 tree:am.prog.given.tree=none
structure TopEnv (e₀:Env):Prop where
 gen:e₀.scope.isGenerator=false
 co:e₀.scope.isCoroutine=false
 globals:e₀.globals=mainGlobals
 builtins:e₀.builtins=builtinsNs
def zeL (sk:List Env):Prop:=∃ e₀ outer,sk=e₀::outer∧TopEnv e₀
structure CxOK (cx:Cx):Prop where
 clos:∀ x,cx.env.kindOf x=some .cell∨cx.env.kindOf x=some .free→∃ c,cx.env.cells.lookup x=some c
 kind:cx.env.scope.kind=.function
 globals:cx.env.globals=mainGlobals
 builtins:cx.env.builtins=builtinsNs
 top:∃ e₀ outer,cx.sk=e₀::outer∧e₀.frame=cx.env.frame∧TopEnv e₀
theorem CxOK.stackOK (x:CxOK cx):zeL cx.sk:=let ⟨e₀,outer,h,_,t⟩:=x.top;⟨e₀,outer,h,t⟩
end Mine
namespace Mine
open PySem PySem.W PyProof.Rows
theorem VR.keeps (k:∀ b o,h.get? b=some o→h'.get? b=some o) (e:VR am π h v x):VR am π h' v x :=
 VR.step (Fs:=[]) (s:={ heap:=h }) (s':={ heap:=h' }) (Step.keeps (s:={ heap:=h }) (tk:=1) k) e
theorem VRs.keeps (k:∀ b o,h.get? b=some o→h'.get? b=some o) (e:VRs am π h v x):VRs am π h' v x :=
 VRs.step (Fs:=[]) (s:={ heap:=h }) (s':={ heap:=h' }) (Step.keeps (s:={ heap:=h }) (tk:=1) k) e
theorem CellAt.keeps (k:∀ b o,h.get? b=some o→h'.get? b=some o) (e:CellAt am π h c a):CellAt am π h' c a:=by
 obtain⟨o,xs,ho,hk,h2,h3⟩:=e;exact⟨o,xs,k _ _ ho,hk,h2,h3.keeps k⟩
theorem HR.keeps {am:Amb}{sk:List Env}{π:List Addr}{Hc:H}{h h':Heap}(x:HR am sk π Hc h) (k:∀ b o,h.get? b=some o→h'.get? b=some o):HR am sk π Hc h' :=
 ⟨fun b o e=>k b o (x.base b o e),x.frames.of_keeps fun b o e z=>⟨o,k b o e,rfl⟩,x.len,x.nodup,fun a ha=>let ⟨o,ho,hn⟩:=x.res a ha;⟨o,k a o ho,hn⟩,x.off,fun i c a h1 h2=>(x.cell i c a h1 h2).keeps k⟩
section
variable {am:Amb}{sk:List Env}{A:Around}{α β:Type}{Rel:List Addr→Heap→β→α→Prop}{π:List Addr}{s:Shared}{Hc:H}
theorem OkP.keeps (hr:HR am sk π Hc s.heap) (k:∀ b o,s.heap.get? b=some o→h'.get? b=some o) (h:Rel π h' b a) :
  OkP am sk Rel π s (.ok b Hc) a { s with heap:=h',toks:=tk } :=
 ⟨b,Hc,π,rfl,.keeps k,hr.keeps k,h⟩
theorem OkP.tok (hr:HR am sk π Hc s.heap) (h:Rel π s.heap b a) :
  OkP am sk Rel π s (.ok b Hc) a { s with toks:=tk }:=OkP.keeps (h':=s.heap) hr (fun z z e=>e) h
theorem OkP.here (hr:HR am sk π Hc s.heap) (h:Rel π s.heap b a) :
  OkP am sk Rel π s (.ok b Hc) a s:=OkP.tok (tk:=s.toks) hr h
end
theorem zaQ {am:Amb}{sk:List Env}{π:List Addr}{Hc:H}{h:Heap}(hr:HR am sk π Hc h){l:Addr}(hl:h.get? l=none):l ∉ am.res:=fun hm=>by
 obtain⟨o,ho,_⟩:=hr.res l hm;rw[hl] at ho;cases ho
theorem zaU {am:Amb}{sk:List Env}{π:List Addr}{Hc:H}{h:Heap}(hr:HR am sk π Hc h){l:Addr}(hl:h.get? l=none):l ∉ π:=by
 intro hm;obtain⟨i,hi⟩:=List.mem_iff_getElem?.mp hm;have hlt:i < Hc.length:=by rw[←hr.len];exact(List.getElem?_eq_some_iff.mp hi).1
 obtain⟨o,ho,_⟩:=(hr.cell i Hc[i] _ (zM hlt) hi).obj;rw[hl] at ho;cases ho
theorem zbZ {am:Amb}{sk:List Env}{π:List Addr}{Hc:H}{h:Heap}(hr:HR am sk π Hc h){l:Addr}(hl:h.get? l=none):l ∉ Fs sk:=fun hm=>by
 refine hold fun z k_=>?_;obtain⟨_,o,ho,_⟩:=hr.frames.mem hm;refine k_ ?_;rw[hl] at ho;cases ho
theorem zaj (h:Heap):h.get? h.objs.size=none:=by
 cases q:h.get? h.objs.size with
 |none=>rfl
 |some o=>exact absurd (Heap.lt_size q) (Nat.lt_irrefl _)
noncomputable def Amb.hold (am:Amb) (l:Addr):Amb:={ am with res:=l::am.res }
theorem zoP:Via (am.hold l) am π (π++[l]) h h :=
 ⟨fun a o ho z h1 h2=>⟨⟨o.slots,ho⟩,by
   simp only[Amb.hold,zN,not_or] at h2;simp[h1,h2.1],by
   simp only[Amb.hold,zN,not_or] at h2;exact h2.2⟩,fun i a ha=>by rw[List.getElem?_append_left (List.getElem?_eq_some_iff.mp ha).1];exact ha⟩
theorem zmT:Via (am.hold l) am π π h h :=
 ⟨fun a o ho z h1 h2=>⟨⟨o.slots,ho⟩,h1,fun q=>h2 (zY _ q)⟩,fun z z e=>e⟩
theorem zgp (hl:h.get? l=none):Via am (am.hold l) π π h h :=
 ⟨fun a o ho z h1 h2=>⟨⟨o.slots,ho⟩,h1,fun q=>by
  rcases zN.mp q with rfl|q
  ·rw[hl] at ho;cases ho
  ·exact h2 q⟩,fun z z e=>e⟩
theorem VRs.reserve (e:VRs (am.hold l) π h vs xs):VRs am (π++[l]) h vs xs∧VRs am π h vs xs:=⟨e.via zoP,e.via zmT⟩
theorem VR.held (hl:h.get? l=none) (e:VR am π h v x):VR (am.hold l) π h v x:=e.via (zgp hl)
theorem VRs.held (hl:h.get? l=none) (e:VRs am π h vs xs):VRs (am.hold l) π h vs xs:=e.via (zgp hl)
noncomputable def NewL (am:Amb) (π:List Addr) (s:Shared) (vs:List V) (x:Value) (s':Shared):Prop :=
 ∃ l xs h' tk,x=.ref l∧s'={ s with heap:=h',toks:=tk }∧(∀ b o,s.heap.get? b=some o→h'.get? b=some o)∧s.heap.get? l=none∧PL h' l xs∧VRs (am.hold l) π h' vs xs
theorem NewL.push (hv:VRs am π s.heap vs xs) (hc:o.cls=.type "list") (hdi:o.dict=none) (hd:o.data=.seq (List.toArray xs) n) :
  NewL am π s vs (.ref s.heap.objs.size) { s with heap:=s.heap.push o,toks:=tk }:=by
 have k:∀ b o',s.heap.get? b=some o'→(s.heap.push o).get? b=some o':=fun z z e=>Heap.get?_push_of_some _ e;exact⟨_,xs,_,tk,rfl,rfl,k,zaj _,⟨o,n,Heap.get?_push_size _ (Obj.isFreed_of_seq hd),hc,hdi,hd⟩,(hv.held (zaj _)).keeps k⟩
theorem NewL.lst {am:Amb}{sk:List Env}{π:List Addr}{s s':Shared}{Hc:H}{vs:List V}{x:Value}(hr:HR am sk π Hc s.heap) (hl:vs.length≤1000000) (n:NewL am π s vs x s') :
  OkP am sk (VR am) π s (.ok (.l vs) Hc) x s':=by
 refine hold fun z k_=>?_;obtain⟨l,xs,h',tk,rfl,rfl,k,h1,h2,h3⟩:=n;refine k_ ?_;refine OkP.keeps hr k ?_;exact⟨_,xs,rfl,⟨zaU hr h1,zaQ hr h1⟩,h2.is,hl,h3.reserve.2⟩
theorem OkP.tup {am:Amb}{sk:List Env}{π:List Addr}{s:Shared}{Hc:H}{vs:List V}{xs:List Value}{o:Obj}{n:Nat}{tk:Nat}(hr:HR am sk π Hc s.heap) (hv:VRs am π s.heap vs xs) (hl:vs.length≤1000000)
  (hc:o.cls=.type "tuple") (hd:o.data=.seq (List.toArray xs) n):OkP am sk (VR am) π s (.ok (.tup vs) Hc) (.ref s.heap.objs.size) { s with heap:=s.heap.push o,toks:=tk }:=by
 have k:∀ b o',s.heap.get? b=some o'→(s.heap.push o).get? b=some o':=fun z z e=>Heap.get?_push_of_some _ e;refine OkP.keeps hr k ?_;exact⟨_,xs,rfl,⟨zaU hr (zaj _),zaQ hr (zaj _)⟩,⟨o,Heap.get?_push_size _ (Obj.isFreed_of_seq hd),hc,n,hd⟩,hl,hv.keeps k⟩
theorem zaq {am:Amb}{sk:List Env}{π:List Addr}{Hc:H}{h:Heap}(hr:HR am sk π Hc h){v:V}{x:Value}{vs:List V}(e:VR am π h v x) (hi:litems Hc v=some vs) :
  ∃ l xs,x=.ref l∧h.IsList l (List.toArray xs)∧vs.length≤1000000∧VRs am π h vs xs:=by
 cases v with
 |l ws =>
  cases Option.some.inj hi
  refine hold fun z k_=>?_;obtain⟨a,xs,h1,_,h3,h4,h5⟩:=e;refine k_ ?_;exact⟨a,xs,h1,h3,h4,h5⟩
 |ref i =>
  obtain⟨a,h1,h2⟩:=e
  cases hw:Hc[i]? with
  |none=>rw[show litems Hc (.ref i)=Option.none by show(match Hc[i]? with|some (.list vs)=>some vs|_=>Option.none)=_;rw[hw]] at hi;cases hi
  |some c =>
  cases c with
  |dict es=>rw[show litems Hc (.ref i)=Option.none by show(match Hc[i]? with|some (.list vs)=>some vs|_=>Option.none)=_;rw[hw]] at hi;cases hi
  |list ws =>
   rw[show litems Hc (.ref i)=some ws by show(match Hc[i]? with|some (.list vs)=>some vs|_=>Option.none)=_;rw[hw]] at hi
   cases hi
   refine hold fun z k_=>?_;obtain⟨xs,h3,h4,h5⟩:=(hr.cell i _ a hw h2).list;refine k_ ?_;exact⟨a,xs,h1,h3.is,h4,h5⟩
 |_=>exact no hi
theorem zbb:(1000000:Nat)≤sizeLine:=by decide
theorem zaw (h:n≤1000000):n≤sizeLine:=zX h zbb
theorem zcZ {n:Nat}(h:n≤1000000):(n:Int) < 2 ^ 63:=Int.lt_of_le_of_lt (Int.ofNat_le.2 h) (by decide)
theorem zgy {j n:Nat}(h:j < n) (hz:n≤1000000):(j:Int) < 2 ^ 63:=zcZ (zX (Nat.le_of_lt h) hz)
theorem zeT {k:Int}{n:Nat}(h:-(n:Int)≤k) (hz:n≤1000000):-2 ^ 63≤k:=Int.le_trans (Int.le_trans (by decide) (Int.neg_le_neg (Int.ofNat_le.2 hz))) h
section
variable {am:Amb}{sk:List Env}{A:Around}{π:List Addr}{s:Shared}{Hc:H}
theorem seer (ok:AmbOK am) (st:zeL sk) (hf:A.frames=some sk) (hr:HR am sk π Hc s.heap):SeerAt am.M A s.heap:=by
 refine hold fun z k_=>?_;obtain⟨e₀,outer,rfl,t⟩:=st;refine k_ ?_;exact SeerAt.of (ok.noseer.keeps hr.base) ok.tree hf t.gen t.co t.builtins t.globals
theorem zhB (hr:HR am sk π Hc s.heap):JAt am sk A (binaryOp .Add (.int x t) (.int y u)) (.ok (V.int (x+y)) Hc) (VR am) π s :=
 .inr (add_int (OkP.tok hr ⟨_,rfl⟩))
theorem zhw (hr:HR am sk π Hc s.heap):JAt am sk A (binaryOp .Sub (.int x t) (.int y u)) (.ok (V.int (x - y)) Hc) (VR am) π s :=
 .inr (sub_int' (OkP.tok hr ⟨_,rfl⟩))
set_option tactic.hygienic true in
theorem zdZ (h:x.natAbs < 9223372036854775808):Builtin.Int.intBits x≤64:=by
 unfold Builtin.Int.intBits
 split
 ·exact Nat.zero_le _
 ·rename_i h0
  have h1:x.natAbs≠0:=by simpa using h0
  exact Nat.le_succ_of_le ((Nat.log2_lt h1 (k:=63)).mpr (by simpa using h))
theorem zhy (hr:HR am sk π Hc s.heap) (h:y≠0) :
  JAt am sk A (binaryOp .Mod (.int x t) (.int y u)) (.ok (V.int (x.fmod y)) Hc) (VR am) π s :=
 .inr (mod_int' h (OkP.tok hr ⟨_,rfl⟩))
theorem zfW (ok:AmbOK am) (st:zeL sk) (as:AS n sk A) (hr:HR am sk π Hc s.heap) (h:y≠0) :
  JAt am sk A (binaryOp .FloorDiv (.int x t) (.int y u)) (.ok (V.int (x.fdiv y)) Hc) (VR am) π s :=
 .inr (floordiv_int h (OkP.tok hr ⟨_,rfl⟩) (.inr (PylongRoom.of (ok.nolimit.keeps hr.base) (as.dk (by decide)) (seer ok st as.frames hr))))
theorem zcS {Q:Value→Shared→Prop}{E:Value→Shared→Prop}(hr:HR am sk π Hc s.heap) (ha:VR am π s.heap a x) (hb:VR am π s.heap b y) (la:litems Hc a=some vs) (lb:litems Hc b=some ws) (hle:(vs++ws).length≤1000000)
  (h:∀ y s',NewL am π s (vs++ws) y s'→Q y s'):wpAny am.M A (binaryOp .Add x y) Q E s:=by
 refine hold fun z k_=>?_;obtain⟨l,xs,rfl,hl,h1,h2⟩:=zaq hr ha la;refine k_ ?_;refine hold fun z k_=>?_;obtain⟨l',ys,rfl,hl',h3,h4⟩:=zaq hr hb lb;refine k_ ?_;refine hold fun z k_=>?_;obtain⟨⟨cls,dd,data,sl⟩,ho,hc,n,hd⟩:=hl;refine k_ ?_;refine hold fun z k_=>?_;obtain⟨⟨cls2,dd2,data2,sl2⟩,ho2,hc2,n2,hd2⟩:=hl';refine k_ ?_;simp only at hc hd hc2 hd2;subst hc hd hc2 hd2;have hsz:(List.toArray xs).size+(List.toArray ys).size≤sizeLine:=by
  rw[zQ] at hle;rw[size_toArray,size_toArray,h2.len,h4.len];exact zaw hle
 refine concat_meets ⟨_,ho,rfl⟩ ⟨_,ho2,rfl⟩ noFill_list_add seq_list_add PySem.F.slot_list_add PySem.F.entry_list_add (PySem.F.args_list_add_2 _ _) (list_addW l l' _ _ n n2 dd dd2 sl sl2 hsz) ⟨ho,ho2,?_⟩;exact h _ _ (NewL.push (xs:=xs++ys) (n:=0) (h2.append h4) rfl rfl (by simp))
set_option tactic.hygienic true in
theorem zfX (hr:HR am sk π Hc s.heap) (ha:VR am π s.heap a x) (hb:VR am π s.heap b y) (la:litems Hc a=some vs) (lb:litems Hc b=some ws) :
  JAt am sk A (binaryOp .Add x y) (R.opt (mkL (vs++ws)) Hc) (VR am) π s:=by
 unfold mkL
 split
 ·rename_i hle
  exact .inr (zcS hr ha hb la lb hle fun y s' n=>n.lst hr hle)
 ·exact .inl rfl
set_option tactic.hygienic true in
theorem zhA (hr:HR am sk π Hc s.heap) (ha:VR am π s.heap (.tup vs) x) (hb:VR am π s.heap (.tup ws) y) :
  JAt am sk A (binaryOp .Add x y) (R.opt (mkT (vs++ws)) Hc) (VR am) π s:=by
 unfold mkT
 split
 ·rename_i hle
  refine hold fun z k_=>?_;obtain⟨l,xs,rfl,hp,hl,h1,h2⟩:=ha;refine k_ ?_;refine hold fun z k_=>?_;obtain⟨l',ys,rfl,hp',hl',h3,h4⟩:=hb;refine k_ ?_;have hl0:=hl;have hl0':=hl';refine hold fun z k_=>?_;obtain⟨⟨cls,dd,data,sl⟩,ho,hc,n,hd⟩:=hl;refine k_ ?_;refine hold fun z k_=>?_;obtain⟨⟨cls2,dd2,data2,sl2⟩,ho2,hc2,n2,hd2⟩:=hl';refine k_ ?_;simp only at hc hd hc2 hd2;subst hc hd hc2 hd2;have hsz:(List.toArray xs).size+(List.toArray ys).size≤sizeLine:=by
   rw[zQ] at hle;rw[size_toArray,size_toArray,h2.len,h4.len];exact zaw hle
  refine .inr ?_
  by_cases hv:xs=[]
  ·refine concat_meets ⟨_,ho,rfl⟩ ⟨_,ho2,rfl⟩ noFill_tuple_add seq_tuple_add PySem.F.slot_tuple_add PySem.F.entry_tuple_add (PySem.F.args_tuple_add_2 _ _)
    (tuple_addW0 l l' _ _ n n2 dd dd2 sl sl2 (by simp[hv])) ⟨ho,ho2,OkP.here hr ?_⟩
   have:vs=[]:=by have:=h2.len;rw[hv] at this;exact eq_nil_of_length_eq_zero this.symm
   subst this;exact⟨l',ys,rfl,hp',hl0',h3,h4⟩
  ·by_cases hw:ys=[]
   ·refine concat_meets ⟨_,ho,rfl⟩ ⟨_,ho2,rfl⟩ noFill_tuple_add seq_tuple_add PySem.F.slot_tuple_add PySem.F.entry_tuple_add (PySem.F.args_tuple_add_2 _ _)
     (tuple_addW1 l l' _ _ n n2 dd dd2 sl sl2 (by simpa using hv) (by simp[hw])) ⟨ho,ho2,OkP.here hr ?_⟩
    have:ws=[]:=by have:=h4.len;rw[hw] at this;exact eq_nil_of_length_eq_zero this.symm
    subst this;rw[append_nil];exact⟨l,xs,rfl,hp,hl0,h1,h2⟩
   ·refine concat_meets ⟨_,ho,rfl⟩ ⟨_,ho2,rfl⟩ noFill_tuple_add seq_tuple_add PySem.F.slot_tuple_add PySem.F.entry_tuple_add (PySem.F.args_tuple_add_2 _ _)
     (tuple_addW2 l l' _ _ n n2 dd dd2 sl sl2 (by simpa using hv) (by simpa using hw) hsz) ⟨ho,ho2,?_⟩
    exact OkP.tup (xs:=xs++ys) (n:=0) hr (h2.append h4) hle rfl (by simp)
 ·exact .inl rfl
theorem zjy (xs:List Value) (n:Nat) (acc:Array Value):(List.foldl (fun x1 x2=>x1++x2) acc (List.replicate n (List.toArray xs)))=acc++List.toArray (List.replicate n xs).flatten:=by
 induction n generalizing acc with
 |zero=>exact(Array.append_empty ..).symm
 |succ n ih =>
  rw[List.replicate_succ,foldl_cons,ih,List.replicate_succ,List.flatten_cons,Array.append_assoc]
  congr 1
  exact List.append_toArray ..
theorem znn {α:Type}(vs:List α) (n:Int):(rep vs n).length=n.toNat * vs.length:=by simp[rep]
theorem zcR {Q:Value→Shared→Prop}{E:Value→Shared→Prop}(hr:HR am sk π Hc s.heap) (ha:VR am π s.heap a x) (la:litems Hc a=some vs) (hk:k < 1000000∧-1000000 < k) (hle:(rep vs k).length≤1000000)
  (h:∀ y s',NewL am π s (rep vs k) y s'→Q y s'):wpAny am.M A (binaryOp .Mult x (.int k u)) Q E s:=by
 refine hold fun z k_=>?_;obtain⟨l,xs,rfl,hl,h1,h2⟩:=zaq hr ha la;refine k_ ?_;refine hold fun z k_=>?_;obtain⟨⟨cls,dd,data,sl⟩,ho,hc,n,hd⟩:=hl;refine k_ ?_;simp only at hc hd;subst hc hd;have e1:=h2.len;rw[znn] at hle;have hsz:(List.toArray xs).size * k.toNat≤1000000:=by rw[size_toArray,e1,Nat.mul_comm];exact hle
 refine wpAny_binaryOp_repeat_ref (T:="list") (U:="int") (by decide) ⟨_,ho,rfl⟩ (fun s'=>typeIs_int s' k u) noFill_list_mul PySem.F.fills_int_mul PySem.F.slot_int_rmul repeat_list PySem.F.slot_int_index.lookup
  (call_meets PySem.F.slot_int_rmul (typeIs_int s k u) PySem.F.entry_int_rmul (PySem.F.args_int_rmul_2 _ _) (lm_int_rmul_list_any k u l _ n dd sl)
   ⟨ho,rfl,⟨_,ho,rfl⟩,call_meets PySem.F.slot_list_mul ⟨_,ho,rfl⟩ PySem.F.entry_list_mul (PySem.F.args_list_mul_2 _ _)
    (lm_list_mul_any l _ n dd sl k u (by simp[Builtin.List.listFitsIndex];omega) (by omega) (by simp[Builtin.List.listTooLong,sizeLine];simp only[size_toArray] at hsz;omega)) ⟨ho,?_⟩⟩)
 rw[zjy];refine h _ _ (NewL.push (xs:=(List.replicate k.toNat xs).flatten) (n:=0) (VRs.flatten h2 _) rfl rfl ?_);simp only[Array.empty_append,List.isEmpty_toArray]
 by_cases hx:xs=[]
 ·subst hx;simp
 ·rw[zR (by simpa using hx)]
set_option tactic.hygienic true in
theorem zfV (hr:HR am sk π Hc s.heap) (ha:VR am π s.heap a x) (la:litems Hc a=some vs) (hk:k < 1000000∧-1000000 < k) :
  JAt am sk A (binaryOp .Mult x (.int k u)) (R.opt (mkL (rep vs k)) Hc) (VR am) π s:=by
 unfold mkL
 split
 ·rename_i hle
  exact .inr (zcR hr ha la hk hle fun y s' n=>n.lst hr hle)
 ·exact .inl rfl
end
end Mine
namespace Mine
open PySem PySem.W PyProof.Rows PySem.SeqAt
mutual
noncomputable def toD:V→PyData
 |.uu=>.none
 |.none=>.none
 |.bool b=>.bool b
 |.int i=>.int i
 |.str s=>.str (Str.ofString s)
 |.tup vs=>.tuple (toDs vs)
 |.l vs=>.list (toDs vs)
 |.ref _=>.none
 |.exc _=>.none
noncomputable def toDs:List V→List PyData
 |[]=>[]
 |v::vs=>toD v::toDs vs
end
theorem zeZ (h:Str.ofString a=Str.ofString b):a=b:=by
 unfold Str.ofString at h
 injection h with h
 have h:=congrArg Array.toList h;simp only at h;rw[cpsOfBytes_string,cpsOfBytes_string] at h;have h2:a.toList=b.toList:=List.map_inj_right (fun x y e=>by
  have:=Char.ext (UInt32.toNat_inj.mp e);exact this) |>.mp h
 exact String.toList_inj.mp h2
theorem ze0 (a b:String):(Str.ofString a == Str.ofString b)=(a == b):=by
 by_cases h:a=b
 ·subst h;simp
 ·rw[beq_eq_false_iff_ne.mpr h]
  exact beq_eq_false_iff_ne.mpr fun e=>h (zeZ e)
theorem zkz (s:String):PyData.strOk (Str.ofString s)=true:=by
 unfold PyData.strOk Str.ofString;rw[←Array.all_toList];simp only[cpsOfBytes_string,all_map,all_eq_true];intro c _;have h:=c.valid;simp only[UInt32.isValidChar,Nat.isValidChar] at h;exact zW (h.elim (fun h=>Nat.lt_trans h (by decide)) And.right)
theorem zgX (ih:∀ a b,V.ok n a=true→V.ok n b=true→PyData.eqv (toD a) (toD b)=peq a b) (a b:List V) (h:a.all (V.ok n)=true) (h':b.all (V.ok n)=true):PyData.eqvAll (toDs a) (toDs b)=peqs a b:=by
 induction a generalizing b with
 |nil=>cases b<;>rfl
 |cons x a ih2=>cases b with
  |nil=>rfl
  |cons y b =>
   have h:=yK.1 h;have h':=yK.1 h';show(PyData.eqv (toD x) (toD y)&&PyData.eqvAll (toDs a) (toDs b))=_;rw[ih x y h.1 h'.1,ih2 b h.2 h'.2];rfl
theorem zgd (n:Nat) (a b:V) (h:V.ok n a=true) (h':V.ok n b=true):PyData.eqv (toD a) (toD b)=peq a b:=by
 induction n generalizing a b with
 |zero=>exact noB h
 |succ n ih =>
  cases a with
  |tup vs=>cases b<;>first|rfl|exact noB h'|exact zgX ih vs _ h h'
  |l vs=>cases b<;>first|rfl|exact noB h'|exact zgX ih vs _ h h'
  |str x=>cases b<;>first|rfl|exact noB h'|exact ze0 _ _
  |none=>cases b<;>first|rfl|exact noB h'
  |bool _=>cases b<;>first|rfl|exact noB h'
  |int _=>cases b<;>first|rfl|exact noB h'
  |_=>exact noB h
theorem zbM (ih:∀ a:V,V.ok n a=true→(toD a).canLay0=true∧(toD a).depth≤n) (a:List V) (h:a.all (V.ok n)=true):PyData.canLayAll0 (toDs a)=true∧PyData.depthAll (toDs a)≤n:=by
 induction a with
 |nil=>exact⟨rfl,Nat.zero_le _⟩
 |cons x a ih2 =>
  have h:=yK.1 h;have h1:=ih x h.1;have h2:=ih2 h.2;exact⟨yK.2 ⟨h1.1,h2.1⟩,Nat.max_le.2 ⟨h1.2,h2.2⟩⟩
theorem zcm (n:Nat) (a:V) (h:V.ok n a=true):(toD a).canLay0=true∧(toD a).depth≤n:=by
 induction n generalizing a with
 |zero=>exact noB h
 |succ n ih =>
  cases a with
  |tup vs=>exact(zbM ih vs h).imp id Nat.succ_le_succ
  |l vs=>exact(zbM ih vs h).imp id Nat.succ_le_succ
  |str x=>exact⟨zkz x,Nat.zero_le _⟩
  |none=>exact⟨rfl,Nat.zero_le _⟩
  |bool _=>exact⟨rfl,Nat.zero_le _⟩
  |int _=>exact⟨rfl,Nat.zero_le _⟩
  |_=>exact noB h
theorem zbu (h:V.ok 8 a=true):shaped (toD a)=true:=by
 have:=zcm 8 a h;unfold shaped;rw[this.1];simp only[Bool.true_and,decide_eq_true_eq];exact zX this.2 (by decide)
noncomputable def Tells (am:Amb) (π:List Addr) (h:Heap) (g:Nat→Option V):Prop :=
 ∀ (i:Nat) (a:Addr) (v':V),π[i]?=some a→g i=some v'→∀ n,V.ok n v'=true→∃ as,Reads h (.ref a) (toD v') as
theorem za8 {g:Nat→Option V}(ih:∀ (v:V) (x:Value) (v':V),VR am π h v x→V.mapRef g v=some v'→V.ok n v'=true→∃ as,Reads h x (toD v') as) (h1:VRs am π h vs xs) (h2:V.mapRefs g vs=some vs') (h3:vs'.all (V.ok n)=true):∃ as,ReadsAll h xs (toDs vs') as:=by
 induction vs generalizing xs vs' with
 |nil=>cases h2;cases h1;exact⟨[],.nil⟩
 |cons v vs ih2 =>
  obtain⟨v',j2,h4⟩:=Option.bind_eq_some_iff.1 h2;obtain⟨ws,j4,rfl⟩:=Option.map_eq_some_iff.1 h4;obtain⟨x,xs',rfl,h5,h6⟩:=h1;have h3:=yK.1 h3;obtain⟨as,h7⟩:=ih v x v' h5 j2 h3.1;obtain⟨bs,h8⟩:=ih2 h6 j4 h3.2;exact⟨as++bs,.cons h7 h8⟩
theorem zct {g:Nat→Option V}(T:Tells am π h g) (v:V) (x:Value) (v':V) (n:Nat) (h1:VR am π h v x) (h2:V.mapRef g v=some v') (h3:V.ok n v'=true):∃ as,Reads h x (toD v') as:=by
 induction n generalizing v x v' with
 |zero=>exact noB h3
 |succ n ih =>
  cases v with
  |uu=>exact h1.elim
  |exc _=>exact h1.elim
  |none=>cases h2;cases h1;exact⟨[],.none⟩
  |bool b=>cases h2;cases h1;exact⟨[],.bool _⟩
  |int _=>cases h2;obtain⟨t,rfl⟩:=h1;exact⟨[],.int _ t⟩
  |str _=>cases h2;obtain⟨t,rfl⟩:=h1;exact⟨[],.str _ t⟩
  |ref i =>
   obtain⟨a,rfl,ha⟩:=h1;exact T i a v' ha h2 _ h3
  |tup vs =>
   obtain⟨vs',j2,rfl⟩:=Option.map_eq_some_iff.1 h2;obtain⟨a,xs,rfl,_,⟨o,ho,hc,m,hd⟩,_,h5⟩:=h1;obtain⟨as,h6⟩:=za8 ih h5 j2 h3;exact⟨as,.tuple ho hc hd h6⟩
  |l vs =>
   obtain⟨vs',j2,rfl⟩:=Option.map_eq_some_iff.1 h2;obtain⟨a,xs,rfl,_,⟨o,ho,hc,m,hd⟩,_,h5⟩:=h1;obtain⟨as,h6⟩:=za8 ih h5 j2 h3;exact⟨a::as,.list ho hc hd h6⟩
theorem zfB {am:Amb}{sk:List Env}{π:List Addr}{Hc:H}{h:Heap}(hr:HR am sk π Hc h) (k:Nat):Tells am π h (frzAt k 0 Hc):=by
 induction k with
 |zero=>exact fun i a v' z hg=>no hg
 |succ k ih =>
  intro i a v' hi hg n hn;rw[zbK,zR (Nat.not_lt_zero _)] at hg
  cases hc:Hc[i]? with
  |none=>rw[hc] at hg;cases hg
  |some c =>
  cases c with
  |dict es=>rw[hc] at hg;cases hg
  |list vs =>
   rw[hc] at hg;obtain⟨vs',h1,rfl⟩:=Option.map_eq_some_iff.1 hg;refine hold fun z k_=>?_;obtain⟨xs,⟨o,m,ho,hcl,_,hd⟩,_,h3⟩:=(hr.cell i _ a hc hi).list;refine k_ ?_
   cases n with
   |zero=>exact noB hn
   |succ n =>
    obtain⟨as,h6⟩:=za8 (fun v x v' a b c=>zct ih v x v' n a b c) h3 h1 hn;exact⟨a::as,.list ho hcl hd h6⟩
section
variable {am:Amb}{sk:List Env}{A:Around}{π:List Addr}{s:Shared}{Hc:H}
theorem zaZ (hr:HR am sk π Hc s.heap) (h1:VR am π s.heap v x) (h2:frz 0 Hc v=some v') (h3:V.ok 8 v'=true):∃ as,Reads s.heap x (toD v') as :=
 zct (zfB hr 4) v x v' 8 h1 h2 h3
set_option tactic.hygienic true in
theorem zrb (as:AS n sk A) (hr:HR am sk π Hc s.heap) (ha:VR am π s.heap a x) (hb:VR am π s.heap b y) :
  JAt am sk A (compareOp .Eq x y) (R.opt ((pyEq Hc a b).map V.bool) Hc) (VR am) π s:=by
 unfold pyEq
 cases h1:frz 0 Hc a with
 |none=>exact .inl rfl
 |some a' =>
  cases h2:frz 0 Hc b with
  |none=>exact .inl rfl
  |some b' =>
   simp only
   split
   ·rename_i h
    simp only[Bool.and_eq_true] at h;obtain⟨_,r1⟩:=zaZ hr ha h1 h.1;obtain⟨_,r2⟩:=zaZ hr hb h2 h.2;refine .inr (compareEq_shaped r1 r2 (zbu h.1) (zbu h.2) (as.uk (by decide)) ?_)
    rw[zgd 8 a' b' h.1 h.2];exact OkP.here hr rfl
   ·exact .inl rfl
set_option tactic.hygienic true in
theorem zq6 (as:AS n sk A) (hr:HR am sk π Hc s.heap) (ha:VR am π s.heap a x) (hb:VR am π s.heap b y) :
  JAt am sk A (compareOp .NotEq x y) (R.opt (((pyEq Hc a b).map (!·)).map V.bool) Hc) (VR am) π s:=by
 unfold pyEq
 cases h1:frz 0 Hc a with
 |none=>exact .inl rfl
 |some a' =>
  cases h2:frz 0 Hc b with
  |none=>exact .inl rfl
  |some b' =>
   simp only
   split
   ·rename_i h
    simp only[Bool.and_eq_true] at h;obtain⟨_,r1⟩:=zaZ hr ha h1 h.1;obtain⟨_,r2⟩:=zaZ hr hb h2 h.2;refine .inr (compareNe_shaped r1 r2 (zbu h.1) (zbu h.2) (as.uk (by decide)) ?_)
    rw[zgd 8 a' b' h.1 h.2];exact OkP.here hr rfl
   ·exact .inl rfl
theorem zoB (h:vs.all (V.ok n)=true) (ha:V.ok n a=true):((toDs vs).any fun y=>PyData.eqv y (toD a))=vs.any fun y=>peq y a:=by
 induction vs with
 |nil=>rfl
 |cons v vs ih =>
  simp only[List.all_cons,Bool.and_eq_true] at h;show(PyData.eqv (toD v) (toD a)||(toDs vs).any fun y=>PyData.eqv y (toD a))=(peq v a||vs.any fun y=>peq y a);rw[zgd n v a h.1 ha,ih h.2]
theorem zfZ:∀ (n:Nat) (v:V),V.ok n v=true→V.ok (n+1) v=true
 |0,v,h=>Bool.noConfusion h
 |n+1,v,h=>by
  cases v with
  |tup vs=>exact List.all_eq_true.2 fun x hx=>zfZ n x (List.all_eq_true.1 h x hx)
  |l vs=>exact List.all_eq_true.2 fun x hx=>zfZ n x (List.all_eq_true.1 h x hx)
  |_=>exact h
set_option tactic.hygienic true in
theorem ziX (as:AS n sk A) (hr:HR am sk π Hc s.heap) (ha:VR am π s.heap a x) (hb:VR am π s.heap b y) :
  JAt am sk A (compareOp .In x y) (R.opt ((isIn Hc a b).map V.bool) Hc) (VR am) π s∧JAt am sk A (compareOp .NotIn x y) (R.opt (((isIn Hc a b).map (!·)).map V.bool) Hc) (VR am) π s:=by
 unfold isIn
 cases h1:frz 0 Hc a with
 |none=>exact⟨.inl rfl,.inl rfl⟩
 |some a' =>
  cases h2:frz 0 Hc b with
  |none=>exact⟨.inl rfl,.inl rfl⟩
  |some b' =>
   simp only
   split
   ·rename_i h
    simp only[Bool.and_eq_true] at h;obtain⟨_,r1⟩:=zaZ hr ha h1 h.1;obtain⟨_,r2⟩:=zaZ hr hb h2 h.2;have hu:A.units+100 < cLine:=as.uk (by decide)
    have ca:=zcm 8 a' h.1;have key:∀ vs:List V,vs.all (V.ok 7)=true→PyData.canLayAll0 (toDs vs)=true∧A.units+1+min (PyData.depthAll (toDs vs)) (toD a').depth < cLine∧((toDs vs).any fun y=>PyData.eqv y (toD a'))=vs.any fun y=>peq y a':=fun vs hv=>by
     have:=zbM (zcm 7) vs hv;refine⟨this.1,Nat.lt_of_le_of_lt (Nat.add_le_add_left (zX (Nat.min_le_left ..) this.2) _) (as.uk (k:=8) (by decide)),zoB (n:=8) (by simp only[all_eq_true] at hv ⊢;exact fun x hx=>zfZ 7 x (hv x hx)) h.1⟩
    cases b' with
    |l vs =>
     have hv:vs.all (V.ok 7)=true:=h.2;obtain⟨k1,k2,k3⟩:=key vs hv;refine⟨.inr (in_list_reads (c:=y) (xs:=toDs vs) r2 r1 k1 ca.1 k2 ?_),.inr (notIn_list_reads (c:=y) (xs:=toDs vs) r2 r1 k1 ca.1 k2 ?_)⟩
     ·rw[k3];exact OkP.here hr rfl
     ·rw[k3];exact OkP.here hr rfl
    |tup vs =>
     have hv:vs.all (V.ok 7)=true:=h.2;obtain⟨k1,k2,k3⟩:=key vs hv;refine⟨.inr (in_tuple_reads (c:=y) (xs:=toDs vs) r2 r1 k1 ca.1 k2 ?_),.inr (notIn_tuple_reads (c:=y) (xs:=toDs vs) r2 r1 k1 ca.1 k2 ?_)⟩
     ·rw[k3];exact OkP.here hr rfl
     ·rw[k3];exact OkP.here hr rfl
    |_=>exact⟨.inl rfl,.inl rfl⟩
   ·exact⟨.inl rfl,.inl rfl⟩
theorem znJ (h:VR am π s.heap v x) (hv:v≠.none):(x == Value.none)=false:=by
 cases v<;>first|exact False.elim h|exact absurd rfl hv|skip
 ·cases h;rfl
 ·obtain⟨t,rfl⟩:=h;rfl
 ·obtain⟨t,rfl⟩:=h;rfl
 ·obtain⟨a,xs,rfl,_⟩:=h;rfl
 ·obtain⟨a,xs,rfl,_⟩:=h;rfl
 ·obtain⟨a,rfl,_⟩:=h;rfl
theorem zpv (hr:HR am sk π Hc s.heap) (ha:VR am π s.heap a x) (hb:VR am π s.heap b y) :
  JAt am sk A (compareOp .Is x y) (R.opt ((pyIs a b).map V.bool) Hc) (VR am) π s∧JAt am sk A (compareOp .IsNot x y) (R.opt (((pyIs a b).map (!·)).map V.bool) Hc) (VR am) π s:=by
 unfold pyIs
 cases b with
 |none =>
  cases hb
  by_cases hv:a=.none
  ·subst hv
   cases ha
   exact⟨.inr (is_none (OkP.here hr rfl)),.inr (isNot_none (OkP.here hr rfl))⟩
  ·have e:=znJ ha hv
   have key:JAt am sk A (compareOp .Is x Value.none) (R.ok (V.bool false) Hc) (VR am) π s∧JAt am sk A (compareOp .IsNot x Value.none) (R.ok (V.bool true) Hc) (VR am) π s:=by
    refine⟨.inr (is_none ?_),.inr (isNot_none ?_)⟩
    ·rw[e];exact OkP.here hr rfl
    ·rw[e];exact OkP.here hr rfl
   cases a<;>first|exact key|exact absurd rfl hv|exact⟨.inl rfl,.inl rfl⟩
 |_=>exact⟨.inl rfl,.inl rfl⟩
theorem ze4 (a b:Int):decide (a≤b)=!decide (b < a):=by
 rw[←decide_not];exact decide_eq_decide.mpr Int.not_lt.symm
inductive LtC:V→V→Prop
 |none {a b:V}(e:pyLt a b=Option.none):LtC a b
 |both (x y:Int):LtC (.int x) (.int y)
theorem zbv (a b:V):LtC a b:=by
 cases a with
 |int x=>cases b with
  |int y=>exact .both x y
  |_=>exact .none rfl
 |_=>exact .none rfl
theorem zq7 (hr:HR am sk π Hc s.heap) (ha:VR am π s.heap a x) (hb:VR am π s.heap b y) :
  JAt am sk A (compareOp .Lt x y) (R.opt ((pyLt a b).map V.bool) Hc) (VR am) π s:=by
 cases zbv a b with
 |none e=>rw[e];exact .inl rfl
 |both =>
  obtain⟨_,rfl⟩:=ha;obtain⟨_,rfl⟩:=hb;exact .inr (lt_int (OkP.here hr rfl))
theorem zq9 (hr:HR am sk π Hc s.heap) (ha:VR am π s.heap a x) (hb:VR am π s.heap b y) :
  JAt am sk A (compareOp .Gt x y) (R.opt ((pyLt b a).map V.bool) Hc) (VR am) π s:=by
 cases zbv b a with
 |none e=>rw[e];exact .inl rfl
 |both =>
  obtain⟨_,rfl⟩:=ha;obtain⟨_,rfl⟩:=hb;exact .inr (gt_int (OkP.here hr rfl))
theorem zq8 (hr:HR am sk π Hc s.heap) (ha:VR am π s.heap a x) (hb:VR am π s.heap b y) :
  JAt am sk A (compareOp .LtE x y) (R.opt (((pyLt b a).map (!·)).map V.bool) Hc) (VR am) π s:=by
 cases zbv b a with
 |none e=>rw[e];exact .inl rfl
 |both =>
  obtain⟨_,rfl⟩:=ha;obtain⟨_,rfl⟩:=hb;exact .inr (PyProof.Rows.le_int (OkP.here hr (congrArg Value.bool (ze4 _ _))))
theorem zra (hr:HR am sk π Hc s.heap) (ha:VR am π s.heap a x) (hb:VR am π s.heap b y) :
  JAt am sk A (compareOp .GtE x y) (R.opt (((pyLt a b).map (!·)).map V.bool) Hc) (VR am) π s:=by
 cases zbv a b with
 |none e=>rw[e];exact .inl rfl
 |both =>
  obtain⟨_,rfl⟩:=ha;obtain⟨_,rfl⟩:=hb;exact .inr (PyProof.Rows.ge_int (OkP.here hr (congrArg Value.bool (ze4 _ _))))
end
end Mine
namespace Mine
open PySem PySem.W PyProof.Rows PySem.MeetsSeq PySem.MeetsSeq3
open AutoSeq1 (wpAny_loadPart')
theorem ints_at {xs:List Value}{is:List Int}(h:IntsAre xs is):∀ {i:Nat},i < xs.length→∃ n t,xs[i]?=some (.int n t)∧is.drop i=n::is.drop (i+1):=by
 induction h with
 |nil=>intro i hi;simp at hi
 |@cons n t vs ns _ ih =>
  intro i hi
  cases i with
  |zero=>exact⟨n,t,rfl,rfl⟩
  |succ i =>
   obtain⟨m,u,h1,h2⟩:=ih (i:=i) (by simpa using hi)
   exact⟨m,u,by simpa using h1,by simpa using h2⟩
theorem zlk (h:IntsAre xs is):is.length=xs.length:=by
 induction h with
 |nil=>rfl
 |cons _ _ _ ih=>simp[ih]
theorem zeF (h:IntsAre xs is) (hi:xs.length≤i):is.drop i=[]:=by
 exact List.drop_of_length_le (by rw[zlk h];exact hi)
theorem znP (l b:Addr) (d1 d2:Option Addr) (s1 s2:Array (Option Value)) (xs ys:List Value) (is js:List Int) (n n2:Nat) (h1:IntsAre xs is) (h2:IntsAre ys js) (k:Nat) :
  ∀ i:Nat,i≤ys.length→i+k=xs.length→Meets (Builtin.«list.__eq__.loop» ⟨[.ref l,.ref b,rawInt i,rawInt 0],[]⟩)
   (fun z R s=>s.heap.get? l=some { cls:=.type "list",dict:=d1,data:=.seq xs.toArray n,slots:=s1 }∧s.heap.get? b=some { cls:=.type "list",dict:=d2,data:=.seq ys.toArray n2,slots:=s2 } ∧
    R (.ok (.ret (.bool (lexLt (is.drop i) (js.drop i))))) s):=by
 have fin:∀ {R:Result→Shared→Prop}{s:Shared}{v:Bool},R (.ok (.ret (.bool v))) s→v=decide (xs.length < ys.length)→R (.ok (.ret (.bool (decide (xs.toArray.size < ys.toArray.size))))) s:=fun h e=>by
  rw[size_toArray,size_toArray,← e];exact h
 induction k with
 |zero =>
  intro i hj hk prog w A R s h;obtain⟨hp,g,d,tk,os⟩:=s;obtain⟨hl,hb,h⟩:=h
  wp_walk using wpAny_loadPart' hl,wpAny_loadPart' hb
  have hi1:xs.toArray[((i:Nat):Int).toNat]?=none:=by simp;exact Nat.le_of_eq hk.symm
  rw[hi1];rw[zeF h1 (i:=i) (Nat.le_of_eq hk.symm)] at h
  cases hy:ys.toArray[((i:Nat):Int).toNat]? with
  |none =>
   have hy':ys.length≤i:=by simpa using hy
   wp_walk using wpAny_loadPart' hl,wpAny_loadPart' hb
   rw[zeF h2 hy'] at h;exact fin h (zU (Nat.not_lt.2 (zX hy' (Nat.le_of_eq hk)))).symm
  |some y =>
   have hy':i < ys.length:=by
    have:=(Array.getElem?_eq_some_iff.1 hy).1
    simpa using this
   obtain⟨m,u,_,e2⟩:=ints_at h2 hy';rw[e2] at h
   wp_walk using wpAny_loadPart' hl,wpAny_loadPart' hb
   exact fin h (zW (Nat.lt_of_le_of_lt (Nat.le_of_eq hk.symm) hy')).symm
 |succ k ih =>
  intro i hj hk prog w A R s h;obtain⟨hp,g,d,tk,os⟩:=s;obtain⟨hl,hb,h⟩:=h
  wp_walk using wpAny_loadPart' hl,wpAny_loadPart' hb
  obtain⟨x,t,hx,ex⟩:=ints_at h1 (i:=i) (hk ▸ Nat.lt_add_of_pos_right (Nat.succ_pos k));have hi1:xs.toArray[((i:Nat):Int).toNat]?=some (.int x t):=by simpa using hx
  rw[hi1];rw[ex] at h
  rcases Nat.lt_or_ge i ys.length with hlt|hge
  ·obtain⟨y,u,hy,ey⟩:=ints_at h2 hlt
   have hi2:ys.toArray[((i:Nat):Int).toNat]?=some (.int y u):=by simpa using hy
   rw[hi2];rw[ey] at h;refine yX (wpAny_eqBool_int ?_);have hc:((i:Int)+1)=((i+1:Nat):Int):=by push_cast;rfl
   by_cases hxy:x=y
   ·rw[zT (by simpa using hxy),hc]
    rw[zcd,zT hxy] at h
    wp_walk
    exact⟨plainId_quiet plain_eq_loop _,codeAny_builtin entry_eq_loop (by
     rw[Around.under_plainId plain_eq_loop _];exact ih (i+1) hlt (by rw[Nat.add_assoc,Nat.add_comm 1 k];exact hk) prog w A R _ ⟨hl,hb,h⟩)⟩
   ·rw[zR (by simpa using hxy)]
    rw[zcd,zR hxy] at h
    wp_walk using wpAny_loadPart' hl,wpAny_loadPart' hb
    rw[hi1,hi2];refine yX (PyProof.Rows.lt_int ?_);exact yW h
  ·have hi2:ys.toArray[((i:Nat):Int).toNat]?=none:=by simpa using hge
   rw[hi2]
   wp_walk using wpAny_loadPart' hl,wpAny_loadPart' hb
   rw[zeF h2 hge] at h;exact fin h (zU (Nat.not_lt.2 (zX hge (hk ▸ Nat.le_add_right ..)))).symm
theorem zgN (l b:Addr) (d1 d2:Option Addr) (s1 s2:Array (Option Value)) (xs ys:List Value) (is js:List Int) (n1 n2:Nat) (I1:IntsAre xs is) (I2:IntsAre ys js):Meets (Builtin.«list.__lt__» ⟨[.ref l,.ref b],[]⟩)
  (fun z R s=>s.heap.get? l=some ⟨.type "list",d1,.seq xs.toArray n1,s1⟩∧s.heap.get? b=some ⟨.type "list",d2,.seq ys.toArray n2,s2⟩∧R (.ok (.ret (.bool (lexLt is js)))) s):=by
 intro prog w A R s h;obtain⟨hp,g,d,tk,os⟩:=s;obtain⟨hl,hb,h⟩:=h;have f3:=AutoSeq1.sub_list_list
 wp_walk using AutoSeq1.wpAny_loadPart' hl,AutoSeq1.wpAny_loadPart' hb
 exact⟨plainId_quiet MeetsSeq3.plain_eq_loop _,codeAny_builtin MeetsSeq3.entry_eq_loop (by
  rw[Around.under_plainId MeetsSeq3.plain_eq_loop _];exact znP l b d1 d2 s1 s2 xs ys is js n1 n2 I1 I2 xs.length 0 (Nat.zero_le _) (Nat.zero_add _) prog w A R _ ⟨hl,hb,by simpa using h⟩)⟩
end Mine
namespace Mine
open PySem PySem.W PyProof.Rows
theorem zcn (e:asInts vs=some is) (hv:VRs am π h vs xs):IntsAre xs is:=by
 induction vs generalizing is xs with
 |nil=>cases e;cases hv;exact .nil
 |cons v vs ih=>cases v with
  |int i =>
   obtain⟨js,e1,rfl⟩:=Option.map_eq_some_iff.1 e;obtain⟨x,xs',rfl,⟨t,rfl⟩,r⟩:=hv;exact .cons _ _ (ih e1 r)
  |_=>exact no e
section
variable {am:Amb}{sk:List Env}{A:Around}{π:List Addr}{s:Shared}{Hc:H}
theorem zdk (hr:HR am sk π Hc s.heap) (hvx:VR am π s.heap v x) (hk:keyL Hc v=some is):∃ b ys,x=.ref b∧s.heap.IsList b ys.toArray∧IntsAre ys is:=by
 unfold keyL at hk;obtain⟨us,e1,e2⟩:=Option.bind_eq_some_iff.1 hk;obtain⟨b,ys,rfl,hb,_,hvs⟩:=zaq hr hvx e1;exact⟨b,ys,rfl,hb,zcn e2 hvs⟩
end
section
variable {am:Amb}{sk:List Env}{π:List Addr}{Hc:H}{A:Around}
theorem zrd {s:Shared}{h':Heap}{tk:Nat}(hu:A.units < cLine) (hr:HR am sk π Hc s.heap) (kk:∀ b o,s.heap.get? b=some o→h'.get? b=some o){v u:V}{x y:Value}{is js:List Int}(hv:VR am π s.heap v x) (hw:VR am π s.heap u y) (hk:keyL Hc v=some is) (hk':keyL Hc u=some js)
  {Q:Value→Shared→Prop}{E:Value→Shared→Prop}(h:Q (.bool (lexLt is js)) { s with heap:=h',toks:=tk }):wpAny am.M A (richCompare .Lt x y) Q E { s with heap:=h',toks:=tk }:=by
 obtain⟨l,xs,rfl,⟨⟨k1,d1,u1,s1⟩,ho1,c1,n1,e1⟩,I1⟩:=zdk hr hv hk;obtain⟨b,ys,rfl,⟨⟨k2,d2,u2,s2⟩,ho2,c2,n2,e2⟩,I2⟩:=zdk hr hw hk';simp only at c1 c2 e1 e2;subst c1 c2 e1 e2;exact richCompare_meets_room ⟨_,kk _ _ ho1,rfl⟩ ⟨_,kk _ _ ho2,rfl⟩ F.slot_list_lt F.entry_list_lt (F.args_list_lt_2 _ _) (zgN l b d1 d2 s1 s2 xs ys is js n1 n2 I1 I2) ⟨kk _ _ ho1,kk _ _ ho2,by simp,h⟩ hu
end
noncomputable abbrev kI (am:Amb):KeyKind am.prog am.w Int:=intKind am.prog am.w
theorem zbh (es:List (V × V)):(es.flatMap fun e=>[e.1,e.2]).length=2 * es.length:=by
 induction es with
 |nil=>rfl
 |cons e es ih=>exact congrArg (fun n=>n+1+1) ih
theorem zjP (h:dfind k es=some v):∃ j:Nat,es[j]?=some (k,v):=by
 induction es with
 |nil=>cases h
 |cons e es ih =>
  rw[zbj] at h
  by_cases q:k=e.1
  ·rw[zT q] at h;cases h;exact⟨0,by rw[q];rfl⟩
  ·rw[zR q] at h
   obtain⟨j,hj⟩:=ih h;exact⟨j+1,hj⟩
theorem zg1 {k v:V}{es:List (V × V)}{j:Nat}(hn:(es.map (·.1)).Nodup) (h:es[j]?=some (k,v)):dfind k es=some v:=by
 induction es generalizing j with
 |nil=>cases h
 |cons e es ih =>
  cases j with
  |zero=>cases h;exact(zbj ..).trans (zT rfl)
  |succ j =>
   rw[yY,yZ] at hn;exact(zbj ..).trans ((zR fun q:k=e.1=>hn.1 (q ▸ yQ.2 ⟨_,mem_of_getElem? h,rfl⟩)).trans (ih hn.2 h))
section
variable {am:Amb}{π:List Addr}{h:Heap}
theorem zlx {es:List (V × V)}{xs:List Value}(r:VRs am π h (es.flatMap fun e=>[e.1,e.2]) xs){j:Nat}{k v:V}(e:es[j]?=some (k,v)):∃ x y,(ents es xs)[j]?=some ⟨hashV k,x,y⟩∧VR am π h k x∧VR am π h v y:=by
 induction es generalizing xs j with
 |nil=>cases e
 |cons p es ih =>
  obtain⟨x,_,rfl,hx,y,xs',rfl,hy,r⟩:=r
  cases j with
  |zero=>cases e;exact⟨x,y,rfl,hx,hy⟩
  |succ j=>exact ih r e
theorem zlw (r:VRs am π h (es.flatMap fun e=>[e.1,e.2]) xs):(ents es xs).length=es.length:=by
 induction es generalizing xs with
 |nil=>cases xs<;>rfl
 |cons p es ih =>
  obtain⟨x,_,rfl,hx,y,xs',rfl,hy,r⟩:=r;exact congrArg Nat.succ (ih r)
structure DC (am:Amb) (π:List Addr) (h:Heap) (es:List (V × V)) (d:Addr) (o:Obj) (arr:Array DictEntry) (ep:Nat) (xs:List Value):Prop where
 ne:(d == sysModules)=false
 ho:h.get? d=some o
 cls:o.cls=.type "dict"
 dict:o.dict=none
 data:o.data=.dict arr ep
 arr:arr.toList=ents es xs
 vr:VRs am π h (es.flatMap fun e=>[e.1,e.2]) xs
 good:dgood es
 age:ep=es.length
 len:(es.flatMap fun e=>[e.1,e.2]).length≤1000000
theorem CellAt.dict (x:CellAt am π h (.dict es) d):∃ o arr ep xs,DC am π h es d o arr ep xs:=by
 obtain⟨o,xs,ho,⟨hs,arr,ep,hc,hdi,hd,he,hg,ha⟩,hl,hv⟩:=x;exact⟨o,arr,ep,xs,beq_false_of_ne hs,ho,hc,hdi,hd,he,hv,hg,ha,hl⟩
end
section
variable {am:Amb}{sk:List Env}{A:Around}{π:List Addr}{s:Shared}{Hc:H}{E:Value→Shared→Prop}{es:List (V × V)}{d:Addr}{o:Obj}{arr:Array DictEntry}{ep:Nat}{xs:List Value}{k:V}{x:Value}
theorem DC.typeIs (D:DC am π s.heap es d o arr ep xs):s.TypeIs (.ref d) "dict":=⟨o,D.ho,D.cls⟩
theorem DC.at (D:DC am π s.heap es d o arr ep xs){j:Nat}{k v:V}(e:es[j]?=some (k,v)):∃ x y,arr[j]?=some ⟨hashV k,x,y⟩∧VR am π s.heap k x∧VR am π s.heap v y:=by
 obtain⟨x,y,e1,r⟩:=zlx D.vr e;rw[←D.arr,Array.getElem?_toList] at e1;exact⟨x,y,e1,r⟩
theorem DC.size (D:DC am π s.heap es d o arr ep xs):arr.size=es.length:=by rw[←Array.length_toList,D.arr,zlw D.vr]
noncomputable abbrev kT (am:Amb):HeapKind am.prog am.w (List Int):=tupleKind (kI am)
theorem zhW (h1:asInts vs=some is) (h2:asInts ws=some is):vs=ws:=by
 have key:∀ {vs:List V}{is:List Int},asInts vs=some is→vs=is.map V.int:=fun {vs}=>by
  induction vs with
  |nil=>intro is h;cases h;rfl
  |cons v vs ih =>
   intro is h
   cases v with
   |int i =>
    obtain⟨a,ha,rfl⟩:=Option.map_eq_some_iff.1 h;exact congrArg (V.int i::·) (ih ha)
   |_=>exact no h
 rw[key h1,key h2]
theorem zez (h:keyT k=some is):∃ vs,k=.tup vs∧asInts vs=some is:=by
 cases k with
 |tup vs=>exact⟨vs,rfl,h⟩
 |_=>exact no h
theorem zgP (h:keyT k=some is) (h':keyT k'=some is):k=k':=by
 obtain⟨vs,rfl,e⟩:=zez h;obtain⟨ws,rfl,e'⟩:=zez h';rw[zhW e e']
theorem zjf (e:asInts vs=some is) (r:VRs am π h vs xs):ItemsAre (kI am) is xs:=by
 induction vs generalizing xs is with
 |nil=>cases e;cases r;exact .nil
 |cons v vs ih =>
  cases v with
  |int i =>
   obtain⟨a,ha,rfl⟩:=Option.map_eq_some_iff.1 e;obtain⟨x,xs',rfl,⟨t,rfl⟩,r⟩:=r;exact .cons (by simp[kI,intKind,Value.isInt]) (ih ha r)
  |_=>exact no e
theorem zjc (hk:keyOk k=true) (r:VR am π h k x):∃ is a,x=.ref a∧keyT k=some is∧IsTupleKey (kI am) h is a∧hashV k=(kT am).hash is:=by
 obtain⟨is,e⟩:=Option.isSome_iff_exists.1 (show(keyT k).isSome=true from hk);have hh:hashV k=(kT am).hash is:=by unfold hashV;rw[e];rfl
 refine⟨is,?_⟩;obtain⟨vs,rfl,e'⟩:=zez e;obtain⟨a,xs,rfl,_,⟨o,ho,hc,n,hd⟩,_,rs⟩:=r;exact⟨a,rfl,e,⟨o,_,n,ho,hc,hd,zjf e' rs⟩,hh⟩
theorem zf5 (hk:keyOk k=true) (r:VR am π s.heap k x) (hu:A.units < cLine):∃ n,∀ {Q:Int→Shared→Prop}{E:Value→Shared→Prop},Q (hashV k) { s with toks:=s.toks+n }→wpAny am.M A (pyHash x) Q E s:=by
 obtain⟨is,a,rfl,_,hb,hh⟩:=zjc hk r;refine⟨(kT am).draws is,fun h=>?_⟩;rw[hh] at h;exact(kT am).pyHash hu hb h
theorem zrx (r:VRs am π h (es.flatMap fun e=>[e.1,e.2]) xs) (g:∀ e∈es,keyOk e.1=true) :
  ∃ ks:List (List Int × Addr × Value),ents es xs=ks.map (entryOfKey (kT am))∧(∀ x∈ks,IsTupleKey (kI am) h x.1 x.2.1)∧es.map (fun e=>keyT e.1)=ks.map fun x=>some x.1:=by
 induction es generalizing xs with
 |nil=>exact⟨[],by cases xs<;>rfl,fun u h=>(not_mem_nil h).elim,rfl⟩
 |cons p es ih =>
  obtain⟨x,_,rfl,hx,y,xs',rfl,hy,r⟩:=r;obtain⟨is,a,rfl,hk,ht,hh⟩:=zjc (g _ (zZ ..)) hx;obtain⟨ks,he,hi,hm⟩:=ih r fun e he=>g e (zY _ he);refine⟨(is,a,y)::ks,?_,fun z hz=>?_,by rw[yY,yY,hm,hk]⟩
  ·rw[yY,← he]
   show(⟨hashV p.1,.ref a,y⟩:DictEntry)::_=⟨(kT am).hash is,.ref a,y⟩::_;rw[hh]
  ·rcases zN.1 hz with rfl|hz
   ·exact ht
   ·exact hi z hz
theorem zf6 (D:DC am π s.heap es d o arr ep xs) (hk:keyOk k=true) (r:VR am π s.heap k x) (hu:A.units < cLine){Q:Option Nat→Shared→Prop}(h0:dfind k es=none→Q none s) (h1:∀ j v,es[j]?=some (k,v)→Q (some j) s):wpAny am.M A (dictFind d x (hashV k)) Q E s:=by
 obtain⟨is,a,rfl,e,hb,hh⟩:=zjc hk r;obtain⟨ks,he,hi,hm⟩:=zrx D.vr D.good.2;have at':∀ j:Nat,(es[j]?).map (fun e=>keyT e.1)=(ks[j]?).map fun x=>some x.1:=fun j=>by rw[←List.getElem?_map,hm,List.getElem?_map]
 have hn:(ks.map (·.1)).Nodup:=by
  have inj:(es.map fun e=>keyT e.1).Nodup:=by
   refine List.pairwise_map.2 (List.Pairwise.imp_of_mem (fun {x y} hx hy ne q=>?_) (List.pairwise_map.1 D.good.1));obtain⟨i,ex⟩:=Option.isSome_iff_exists.1 (D.good.2 x hx);exact ne (zgP ex (q ▸ ex))
  rw[hm] at inj;exact List.pairwise_map.2 (List.Pairwise.imp (fun {x y} ne q=>ne (congrArg some q)) (List.pairwise_map.1 inj))
 rw[hh];refine wpAny_dictFind_heap (knd:=kT am) hu hb D.ho D.data (D.arr.trans he) hi hn (fun hno=>h0 ?_) fun j p hj=>?_
 ·cases hd:dfind k es with
  |none=>rfl
  |some v =>
   obtain⟨j,ej⟩:=zjP hd;have:=at' j;rw[ej,Option.map_some,e] at this
   cases hq:ks[j]? with
   |none=>rw[hq] at this;cases this
   |some z =>
    rw[hq] at this
    cases this
    exact absurd hq (hno j z.2)
 ·have:=at' j
  rw[hj] at this
  cases hq:es[j]? with
  |none=>rw[hq] at this;cases this
  |some z =>
   rw[hq,Option.map_some,Option.map_some] at this;obtain⟨k',v⟩:=z;exact h1 j v (by rw[hq,zgP (k:=k') (Option.some.inj this) e])
theorem DC.get (D:DC am π s.heap es d o arr ep xs) (hk:keyOk k=true) (r:VR am π s.heap k x) (hu:A.units < cLine){Q:Option Value→Shared→Prop}
  (h0:∀ n,dfind k es=none→Q none { s with toks:=s.toks+n }) (h1:∀ n v y,dfind k es=some v→VR am π s.heap v y→Q (some y) { s with toks:=s.toks+n }):wpAny am.M A (dictGet d x) Q E s:=by
 obtain⟨n,hh⟩:=zf5 hk r hu;unfold dictGet
 try with_reducible refine yU ?_
 refine yX (hh (yX (zf6 (s:={ s with toks:=s.toks+n }) D hk r hu (fun e=>yW (h0 n e)) fun j v e=>?_)))
 obtain⟨x',y,e1,_,hy⟩:=D.at e;refine yX (wpAny_dictEntries (s:={ s with toks:=s.toks+n }) D.ho D.data ?_)
 rw[e1];exact yW (h1 n v y (zg1 D.good.1 e) hy)
theorem DC.contains (D:DC am π s.heap es d o arr ep xs) (hk:keyOk k=true) (r:VR am π s.heap k x) (hu:A.in1.units < cLine){Q:Bool→Shared→Prop}(h:∀ n,Q (dfind k es).isSome { s with toks:=s.toks+n }):wpAny am.M A (PySem.contains (.ref d) x) Q E s:=by
 unfold PySem.contains
 try with_reducible refine yU ?_
 refine yX (wpAny_specialOf D.typeIs slot_dict_contains.lookup ?_);show wpAny _ _ (if(some (Value.builtin "dict.__contains__") == some Value.none)=true then _ else _) _ E s;rw[zR (by rw[beq_builtin_none];exact Bool.false_ne_true)]
 refine yX (wpAny_callSpecialUnlessNone?_slot (name:=Str.ofString "__contains__") D.typeIs slot_dict_contains
  (wpAny_call_entry slot_dict_contains D.typeIs entry_dict_contains ?_ (args_dict_contains _ _)))
 show wpAny _ _ (dictGet d x >>= _) _ _ s;refine yX (D.get hk r hu (fun n e=>?_) fun n v y e z=>?_)
 ·have h:=h n
  rw[e] at h;show wpAny _ _ (Builtin.Dict.pendingKey? d x >>= _) _ _ _;exact yX (wpAny_pendingKey_other D.ne (yW ⟨_,rfl,wpAny_truthy_bool h⟩))
 ·have h:=h n
  rw[e] at h;show wpAny _ _ (ret (.bool true)) _ _ _;exact yW ⟨_,rfl,wpAny_truthy_bool h⟩
theorem ziY {n:Nat}{i:Nat}{a:V}(as:AS n sk A) (hr:HR am sk π Hc s.heap) (hc:Hc[i]?=some (.dict es)) (hp:π[i]?=some d) (ha:VR am π s.heap a x) :
  JAt am sk A (compareOp .In x (.ref d)) (R.opt ((if keyOk a then some (dfind a es).isSome else Option.none).map V.bool) Hc) (VR am) π s∧JAt am sk A (compareOp .NotIn x (.ref d)) (R.opt (((if keyOk a then some (dfind a es).isSome else Option.none).map (!·)).map V.bool) Hc) (VR am) π s:=by
 cases hk:keyOk a with
 |false=>exact⟨.inl rfl,.inl rfl⟩
 |true =>
  obtain⟨o,arr,ep,xs,D⟩:=(hr.cell i _ d hc hp).dict;have hu:A.in1.units < cLine:=as.uk (k:=1) (by decide)
  refine⟨.inr ?_,.inr ?_⟩
  ·show wpAny _ _ (do return Value.bool (← PySem.contains (.ref d) x)) _ _ s
   exact yX (D.contains hk ha hu fun n=>yW (OkP.tok hr rfl))
  ·show wpAny _ _ (do return Value.bool (!(← PySem.contains (.ref d) x))) _ _ s
   exact yX (D.contains hk ha hu fun n=>yW (OkP.tok hr rfl))
theorem dput_new (h:dfind k es=none):dput k v es=es++[(k,v)]:=by
 induction es with
 |nil=>rfl
 |cons e es ih =>
  rw[zbj] at h
  by_cases q:k=e.1
  ·rw[zT q] at h;cases h
  ·rw[zR q] at h
   exact(zfj ..).trans ((zR q).trans (congrArg (e::·) (ih h)))
theorem zlF (hn:(es.map (·.1)).Nodup) (h:es[j]?=some (k,v0)):dput k v es=es.set j (k,v):=by
 induction es generalizing j with
 |nil=>cases h
 |cons e es ih =>
  cases j with
  |zero=>cases h;exact(zfj ..).trans (zT rfl)
  |succ j =>
   rw[yY,yZ] at hn;exact(zfj ..).trans ((zR fun q:k=e.1=>hn.1 (q ▸ yQ.2 ⟨_,mem_of_getElem? h,rfl⟩)).trans (congrArg (e::·) (ih hn.2 h)))
theorem zlv (hy:VR am π h v y) (r:VRs am π h (es.flatMap fun e=>[e.1,e.2]) xs) (e:es[j]?=some (k,v0)) :
  ∃ xs',VRs am π h ((es.set j (k,v)).flatMap fun e=>[e.1,e.2]) xs'∧ents (es.set j (k,v)) xs'=(ents es xs).modify j fun e=>{ e with val:=y }:=by
 induction es generalizing xs j with
 |nil=>cases e
 |cons p es ih =>
  obtain⟨x,_,rfl,hx,y',xs',rfl,hy',r⟩:=r
  cases j with
  |zero=>cases e;exact⟨x::y::xs',⟨_,_,rfl,hx,_,_,rfl,hy,r⟩,rfl⟩
  |succ j =>
   obtain⟨xs2,r2,e2⟩:=ih r e;exact⟨x::y'::xs2,⟨_,_,rfl,hx,_,_,rfl,hy',r2⟩,congrArg (_::·) e2⟩
theorem zjF (es:List (V × V)) (xs:List Value) (k v:V) (x y:Value) (h:xs.length=2 * es.length):ents (es++[(k,v)]) (xs++[x,y])=ents es xs++[⟨hashV k,x,y⟩]:=by
 induction es generalizing xs with
 |nil=>rw[eq_nil_of_length_eq_zero h];rfl
 |cons p es ih =>
  cases xs with
  |nil=>cases h
  |cons a xs=>cases xs with
   |nil=>cases Nat.succ.inj h
   |cons b xs=>exact congrArg (_::·) (ih xs (Nat.succ.inj (Nat.succ.inj h)))
theorem zhK (h:dfind k es=Option.none):k ∉ es.map (·.1):=by
 induction es with
 |nil=>exact not_mem_nil
 |cons e es ih =>
  rw[zbj] at h
  by_cases q:k=e.1
  ·rw[zT q] at h;cases h
  ·rw[zR q] at h
   rw[yY,zN];exact fun z=>z.elim q (ih h)
theorem zhJ (g:dgood es) (hk:keyOk k=true) (hn:dfind k es=none):dgood (es++[(k,v)]):=by
 refine⟨?_,fun e he=>?_⟩
 ·rw[map_append,nodup_append]
  refine⟨g.1,by simp,fun x hx y hy=>?_⟩
  rw[yY,map_nil,zK] at hy;subst hy;exact fun q=>zhK hn (q ▸ hx)
 ·rcases zP.1 he with he|he
  ·exact g.2 e he
  ·rw[zK.1 he];exact hk
end
section
variable {am:Amb}{sk:List Env}{A:Around}{π:List Addr}{s:Shared}{Hc:H}
theorem zj2 (x:Int):Builtin.Int.intBits x≤x.natAbs.log2+1:=by
 unfold Builtin.Int.intBits
 split
 ·exact Nat.zero_le _
 ·exact Nat.le_refl _
theorem znM (h:x.natAbs.log2+y.natAbs.log2+2≤134217728):IntMulOk x y:=fun q=>by
 have h1:Builtin.Int.intBits x+Builtin.Int.intBits y≤134217728:=zX (Nat.add_le_add (zj2 x) (zj2 y)) (by rw[Nat.add_add_add_comm];exact h)
 have h2:=zV (ar q);exact absurd h2 (Int.not_lt.mpr (Int.ofNat_le.mpr h1))
theorem zhx (hr:HR am sk π Hc s.heap) (h:x.natAbs < 9223372036854775808∨y.natAbs < 9223372036854775808∨x.natAbs.log2+y.natAbs.log2+2≤134217728) :
  JAt am sk A (binaryOp .Mult (.int x t) (.int y u)) (.ok (V.int (x * y)) Hc) (VR am) π s :=
 .inr (PyProof.Rows.mul_int (OkP.tok hr ⟨_,rfl⟩) (h.elim (fun h=>.of_left (zdZ h)) fun h=>h.elim (fun h=>.of_right (zdZ h)) znM))
set_option tactic.hygienic true in
theorem zpz (ok:AmbOK am) (st:zeL sk) (as:AS n sk A) (hr:HR am sk π Hc s.heap) (ha:VR am π s.heap a x) (hb:VR am π s.heap b y) :
  JAt am sk A (binaryOp (bopM op) x y) (R.opt (pyBin op Hc a b) Hc) (VR am) π s:=by
 cases op with
 |add =>
  show JAt _ _ _ _ (R.opt (pyAdd Hc a b) Hc) _ _ _
  rcases zc7 Hc a b with h|⟨i,j⟩|⟨us,ws⟩|⟨us,ws,h1,h2,h⟩
  ·rw[h];exact .inl rfl
  ·obtain⟨_,rfl⟩:=ha;obtain⟨_,rfl⟩:=hb;exact zhB hr
  ·exact zhA hr ha hb
  ·rw[h];exact zfX hr ha hb h1 h2
 |sub =>
  rcases zce (fun x y=>some (V.int (x - y))) a b with h|⟨i,j⟩
  ·show JAt _ _ _ _ (R.opt (int2 (fun x y=>some (V.int (x - y))) a b) Hc) _ _ _
   rw[h];exact .inl rfl
  ·obtain⟨_,rfl⟩:=ha;obtain⟨_,rfl⟩:=hb;exact zhw hr
 |mul =>
  show JAt _ _ _ _ (R.opt (pyMul Hc a b) Hc) _ _ _
  rcases zc6 Hc a b with h|⟨i,j⟩|⟨k,h⟩
  ·rw[h];exact .inl rfl
  ·obtain⟨_,rfl⟩:=ha;obtain⟨_,rfl⟩:=hb
   show JAt _ _ _ _ (R.opt (if i.natAbs < 9223372036854775808∨j.natAbs < 9223372036854775808∨i.natAbs.log2+j.natAbs.log2+2≤134217728 then some (V.int (i * j)) else Option.none) Hc) _ _ _
   split
   ·rename_i h;exact zhx hr h
   ·exact .inl rfl
  ·rw[h]
   split
   ·rename_i hk
    obtain⟨u,rfl⟩:=hb
    cases h1:litems Hc a with
    |none=>exact .inl rfl
    |some vs=>exact zfV hr ha h1 ⟨hk.2,hk.1⟩
   ·exact .inl rfl
 |fdiv =>
  show JAt _ _ _ _ (R.opt (int2 (fun x y=>if y=0 then Option.none else some (V.int (x.fdiv y))) a b) Hc) _ _ _
  rcases zce (fun x y=>if y=0 then Option.none else some (V.int (x.fdiv y))) a b with h|⟨i,j⟩
  ·rw[h];exact .inl rfl
  ·obtain⟨_,rfl⟩:=ha;obtain⟨_,rfl⟩:=hb
   show JAt _ _ _ _ (R.opt (if j=0 then Option.none else some (V.int (i.fdiv j))) Hc) _ _ _
   split
   ·exact .inl rfl
   ·rename_i h;exact zfW ok st as hr h
 |mod =>
  show JAt _ _ _ _ (R.opt (int2 (fun x y=>if y=0 then Option.none else some (V.int (x.fmod y))) a b) Hc) _ _ _
  rcases zce (fun x y=>if y=0 then Option.none else some (V.int (x.fmod y))) a b with h|⟨i,j⟩
  ·rw[h];exact .inl rfl
  ·obtain⟨_,rfl⟩:=ha;obtain⟨_,rfl⟩:=hb
   show JAt _ _ _ _ (R.opt (if j=0 then Option.none else some (V.int (i.fmod j))) Hc) _ _ _
   split
   ·exact .inl rfl
   ·rename_i h;exact zhy hr h
set_option tactic.hygienic true in
theorem ziW {n:Nat}{a b:V}{x y:Value}(as:AS n sk A) (hr:HR am sk π Hc s.heap) (ha:VR am π s.heap a x) (hb:VR am π s.heap b y) :
  JAt am sk A (compareOp .In x y) (R.opt ((pyIn Hc a b).map V.bool) Hc) (VR am) π s∧JAt am sk A (compareOp .NotIn x y) (R.opt (((pyIn Hc a b).map (!·)).map V.bool) Hc) (VR am) π s:=by
 unfold pyIn
 cases b with
 |ref i =>
  simp only
  split
  ·rename_i es hc
   obtain⟨ad,rfl,hp⟩:=hb;exact ziY as hr hc hp ha
  ·exact ziX as hr ha hb
 |_=>exact ziX as hr ha hb
theorem zdR (as:AS n sk A) (hr:HR am sk π Hc s.heap) (ha:VR am π s.heap a x) (hb:VR am π s.heap b y) :
  JAt am sk A (compareOp (copM op) x y) (R.opt ((pyCmp op Hc a b).map V.bool) Hc) (VR am) π s:=by
 cases op with
 |eq=>exact zrb as hr ha hb
 |ne=>exact zq6 as hr ha hb
 |lt=>exact zq7 hr ha hb
 |le=>exact zq8 hr ha hb
 |gt=>exact zq9 hr ha hb
 |ge=>exact zra hr ha hb
 |is=>exact(zpv hr ha hb).1
 |isNot=>exact(zpv hr ha hb).2
 |isin=>exact(ziW as hr ha hb).1
 |notIn=>exact(ziW as hr ha hb).2
theorem zpr (hr:HR am sk π Hc s.heap) (ha:VR am π s.heap a x) :
  JAt am sk A (unaryOp .Not x) ((match truthy a with|some b=>R.ok (V.bool (!b)) Hc|Option.none=>R.bad)) (VR am) π s:=by
 cases a with
 |bool b=>cases ha;exact .inr (not_value (wpAny_truthy_bool (OkP.here hr rfl)))
 |_=>exact .inl rfl
theorem zm4 (slice:Expr) (o i:Value):subscripted slice false o i=operate [i,o] (getItem o i)∨subscripted slice false o i=operate [o,i] (getItem o i):=by
 cases slice with
 |Slice a b c p =>
  cases c with
  |none=>exact .inl rfl
  |some _=>exact .inr rfl
 |_=>exact .inr rfl
theorem zbO {E:Value→Shared→Prop}{value slice:Expr}{o i:Value}{T id:String}{Q:Value→Shared→Prop}(hT:s.TypeIs o T)
  (hl:typeLookup (.type T) "__getitem__"=pure (some (.builtin id))) (h:wpAny am.M A (getItem o i) Q E s):wpAny am.M A (subscriptTail value slice o i) Q E s:=by
 unfold subscriptTail;refine yX ?_;rw[getitemInPython_of_ne hT.not_modules];refine yX (wpAny_specialOf hT hl ?_);have hs:wpAny am.M A (subscripted slice false o i) Q E s:=by
  rcases zm4 slice o i with e|e
  ·rw[e];exact zcb h
  ·rw[e];exact zcb h
 have fin:wpAny am.M A (subscripted slice false o i) (fun r s₃=>wpAny am.M A (letTemporaryGo value o r >>= fun z=>pure r) Q E s₃) E s :=
  yV hs (fun r s₃ h₃=>yX (wpAny_letTemporaryGo (yW h₃))) fun z z x=>x
 first
  |exact yW (yX fin)
  |exact yX (yW (yX fin))
  |exact yX fin
theorem zcE (h:place n i=some j):j < n∧(i=j∨(i < 0∧(i+n).toNat=j∧-(n:Int)≤i)):=by
 unfold place at h
 by_cases h0:0≤i
 ·rw[zT h0] at h
  by_cases h1:i < n
  ·rw[zT h1] at h
   cases h
   exact⟨(Int.toNat_lt h0).2 h1,.inl (Int.toNat_of_nonneg h0).symm⟩
  ·rw[zR h1] at h;cases h
 ·rw[zR h0] at h
  have h0:=Int.not_le.1 h0
  by_cases h1:0≤i+n
  ·rw[zT h1] at h
   cases h
   refine⟨(Int.toNat_lt h1).2 ?_,.inr ⟨h0,rfl,?_⟩⟩
   ·have:=Int.add_lt_add_right h0 (n:Int)
    rwa [Int.zero_add] at this
   ·have:=Int.sub_right_le_of_le_add (a:=0) (b:=i) (c:=n) h1
    rwa [Int.zero_sub] at this
  ·rw[zR h1] at h;cases h
theorem zbG {n j:Nat}{i:Int}(h:place n i=some j) (hz:n≤1000000):-2 ^ 63≤i∧i < 2 ^ 63:=by
 obtain⟨h1,rfl|⟨h2,_,h3⟩⟩:=zcE h
 ·exact⟨Int.le_trans (by decide) (Int.natCast_nonneg j),zgy h1 hz⟩
 ·exact⟨zeT h3 hz,Int.lt_trans h2 (by decide)⟩
theorem zjg {l:Addr}{xs:List Value}{x:Value}{k:Int}{t:Tok}{j:Nat}{Q:Value→Shared→Prop}{E:Value→Shared→Prop}(hl:s.heap.IsList l (List.toArray xs)) (hz:xs.length≤1000000) (hj:place xs.length k=some j) (hx:xs[j]?=some x) (h:Q x s) :
  wpAny am.M A (getItem (.ref l) (.int k t)) Q E s:=by
 obtain⟨h1,h2⟩:=zcE hj
 rcases h2 with rfl|⟨h2,rfl,h3⟩
 ·exact wpAny_getItem_list hl (Int.natCast_nonneg _) (zgy h1 hz) (by simpa using hx) h
 ·exact wpAny_getItem_list_neg hl h2 (by simpa using h3) (zeT h3 hz) (by simpa using hx) h
theorem zhz {value slice:Expr}{n r:Nat}{es:List (V × V)}{d:Addr}{i:V}{y:Value}(as:AS n sk A) (hr:HR am sk π Hc s.heap) (hc:Hc[r]?=some (.dict es)) (hp:π[r]?=some d) (hi:VR am π s.heap i y) :
  JAt am sk A (subscriptTail value slice (.ref d) y) (R.opt (if keyOk i then dfind i es else Option.none) Hc) (VR am) π s:=by
 cases hk:keyOk i with
 |false=>exact .inl rfl
 |true =>
  rw[zT rfl];obtain⟨o,arr,ep,xs,D⟩:=(hr.cell r _ d hc hp).dict;have hu:A.in1.units < cLine:=as.uk (k:=1) (by decide)
  cases hf:dfind i es with
  |none=>exact .inl rfl
  |some v =>
   refine .inr (zbO D.typeIs slot_dict_getitem.lookup ?_);unfold getItem
   try with_reducible refine yU ?_
   refine yX (wpAny_sequenceKey D.typeIs (by decide) ?_)
   refine yX (wpAny_callSpecial?_slot (name:=Str.ofString "__getitem__") D.typeIs slot_dict_getitem
    (wpAny_call_entry slot_dict_getitem D.typeIs entry_dict_getitem ?_ (args_dict_getitem _ _)))
   show wpAny _ _ (dictGet d y >>= _) _ _ s;refine yX (D.get hk hi hu (fun m e=>by rw[hf] at e;cases e) fun m v' u e hv=>?_)
   rw[hf] at e;cases e
   exact yW ⟨u,rfl,yW (OkP.tok hr hv)⟩
theorem zpx {value slice:Expr}{n:Nat}{a i:V}{x y:Value}(as:AS n sk A) (hr:HR am sk π Hc s.heap) (ha:VR am π s.heap a x) (hi:VR am π s.heap i y) :
  JAt am sk A (subscriptTail value slice x y) (R.opt (pyIdx Hc a i) Hc) (VR am) π s:=by
 have lists:∀ (l:Addr) (xs:List Value) (vs:List V),x=.ref l→s.heap.IsList l (List.toArray xs)→vs.length≤1000000→VRs am π s.heap vs xs →
   JAt am sk A (subscriptTail value slice x y) (R.opt (match i with|.int k=>(place vs.length k).bind fun j=>vs[j]?|_=>Option.none) Hc) (VR am) π s:=by
  rintro l xs vs rfl hl hz hv
  cases i with
  |int k =>
   simp only;obtain⟨t,rfl⟩:=hi
   cases hj:place vs.length k with
   |none=>exact .inl rfl
   |some j =>
    cases hw:vs[j]? with
    |none=>exact .inl (by simp only[Option.bind_some,hw];rfl)
    |some v =>
     obtain⟨x',hx',hvx⟩:=hv.get j v hw;simp only[Option.bind_some,hw,R.opt_some];exact .inr (zbO hl.typeIs list_getitem_lookup (zjg hl (by rw[hv.len];exact hz) (by rw[hv.len];exact hj) hx' (OkP.here hr hvx)))
  |_=>exact .inl rfl
 unfold pyIdx
 cases a with
 |ref r =>
  simp only;obtain⟨ad,rfl,hp⟩:=ha
  cases hc:Hc[r]? with
  |none=>exact .inl rfl
  |some c =>
   cases c with
   |list vs =>
    obtain⟨xs,h1,h2,h3⟩:=(hr.cell r _ ad hc hp).list;exact lists ad xs vs rfl h1.is h2 h3
   |dict es=>exact zhz as hr hc hp hi
 |l vs =>
  obtain⟨ad,xs,rfl,_,h1,h2,h3⟩:=ha;exact lists ad xs vs rfl h1 h2 h3
 |tup vs =>
  obtain⟨ad,xs,rfl,_,h1,hz,hv⟩:=ha
  cases i with
  |int k =>
   simp only;obtain⟨t,rfl⟩:=hi
   cases hj:place vs.length k with
   |none=>exact .inl rfl
   |some j =>
    cases hw:vs[j]? with
    |none=>exact .inl (by simp only[Option.bind_some,hw];rfl)
    |some v =>
     obtain⟨x',hx',hvx⟩:=hv.get j v hw;simp only[Option.bind_some,hw,R.opt_some];obtain⟨h5,h6⟩:=zcE hj;have e:=hv.len;refine .inr (zbO h1.typeIs slot_tuple_getitem.lookup (getItem_tuple (j:=j) h1 (zbG hj hz).1 (zbG hj hz).2 ?_ (by simpa using hx') (OkP.here hr hvx)))
     rcases h6 with rfl|⟨h6,rfl,h7⟩
     ·have hn:¬ ((j:Int) < 0):=Int.not_lt.2 (Int.natCast_nonneg j)
      unfold seqIndex?
      simp only[hn,if_false,size_toArray,e];rw[zT (by simp only[Bool.and_eq_true,decide_eq_true_eq];exact⟨Int.natCast_nonneg j,Int.ofNat_lt.2 h5⟩)]
      simp
     ·have:=seqIndex_neg (n:=vs.length) h6 h7
      simpa [e] using this
  |_=>exact .inl rfl
 |_=>exact .inl rfl
end
theorem zd6 (k:h.UpToSlots h'):Via am am π π h h':=⟨fun a o ho hn h1 h2=>⟨k a o ho hn,h1,h2⟩,fun z z e=>e⟩
theorem VR.upto (k:h.UpToSlots h') (e:VR am π h v y):VR am π h' v y:=e.via (zd6 k)
theorem VRs.upto (k:h.UpToSlots h') (e:VRs am π h vs ys):VRs am π h' vs ys:=e.via (zd6 k)
theorem CellAt.upto (k:h.UpToSlots h') (e:CellAt am π h c a):CellAt am π h' c a:=by
 exact e.via (zd6 k) fun o ho hn=>k a o ho hn
theorem HR.upto {am:Amb}{sk:List Env}{π:List Addr}{Hc:H}{h h':Heap}(x:HR am sk π Hc h) (k:h.UpToSlots h') (kb:am.B.StaysIn h'):HR am sk π Hc h' :=
 ⟨kb,zdo k x.frames,x.len,x.nodup,fun a ha=>let ⟨o,ho,hn⟩:=x.res a ha;let ⟨_,hs⟩:=k a o ho hn;⟨_,hs,hn⟩,x.off,fun i c a h1 h2=>(x.cell i c a h1 h2).upto k⟩
def NoExc (ρ:List V):Prop:=∀ v∈ρ,∀ c,v≠.exc c
theorem NoExc.set (x:NoExc ρ) (hv:∀ c,v≠.exc c):NoExc (ρ.set i v):=fun u hu c=>by
 rcases List.mem_or_eq_of_mem_set hu with h|h
 ·exact x u h c
 ·subst h;exact hv c
theorem VR.noexc (e:VR am π h v x):∀ c,v≠.exc c:=fun c q=>by subst q;exact e
theorem SR.vr (e:SR am π h v x) (n:∀ c,v≠.exc c):VR am π h v x:=by
 rcases e with e|⟨c,a,h1,_⟩
 ·exact e
 ·exact absurd h1 (n c)
theorem ER.upto (e:ER am cx ρ π h) (k:h.UpToSlots h') (ne:NoExc ρ):ER am cx ρ π h':=by
 have cell:∀ {c v},h.IsCell c v→h'.IsCell c v:=fun {c v} ⟨o,ho,hd⟩=>by
  obtain⟨sl,hs⟩:=k c o ho (fun us q=>by rw[hd] at q;cases q)
  exact⟨_,hs,hd⟩
 obtain⟨m,hm⟩:=e.ns;refine⟨⟨m,k.ns hm⟩,e.locOff,fun y c hc=>?_,e.apart,fun y i v h1 h2 h3 h4=>?_⟩
 ·refine hold fun z k_=>?_
  obtain⟨h1,h2,v,h3⟩:=e.cellOff y c hc;refine k_ ?_;exact⟨h1,h2,v,cell h3⟩
 ·obtain⟨v',h5,h6⟩:=e.var y i v h1 h2 h3 h4
  refine⟨v',?_,.inl ((h6.vr (ne v (mem_of_getElem? h2))).upto k)⟩
  rcases h5 with⟨q,m',h7,h8⟩|⟨q,c,h7,h8⟩
  ·exact .inl ⟨q,m',k.ns h7,h8⟩
  ·exact .inr ⟨q,c,h7,cell h8⟩
def Poke (I:Addr) (h h':Heap):Prop:=∀ b o,b≠I→h.get? b=some o→h'.get? b=some o
theorem Poke.slots (p:Poke I h h') (ho:h.get? I=some o) (hd:o.data=.fields us):h.UpToSlots h':=fun b o' hb hn =>
 ⟨o'.slots,p b o' (fun q=>by subst q;rw[ho] at hb;cases hb;exact hn us hd) hb⟩
theorem Step.poke {Fs π π':List Addr}{s s':Shared}{I:Addr}{h'':Heap}{tk:Nat}(x:Step Fs π s π' s') (hI:s.heap.get? I=none) (p:Poke I s'.heap h''):Step Fs π s π' { s' with heap:=h'',toks:=tk }:=by
 have ne:∀ {b o},s.heap.get? b=some o→b≠I:=fun {b o} e q=>by subst q;rw[hI] at e;cases e
 obtain⟨h',tk',rfl⟩:=x.same;refine⟨⟨h'',tk,rfl⟩,⟨fun a o e h1 h2=>p a o (ne e) (x.ext.keep a o e h1 h2),fun a o e h1=>?_,fun a o e=>?_⟩,x.grow⟩
 ·obtain⟨sl,h3⟩:=x.ext.slots a o e h1
  exact⟨sl,p a _ (ne e) h3⟩
 ·obtain⟨o',h3⟩:=x.ext.alive a o e
  exact⟨o',p a o' (ne e) h3⟩
theorem HR.poke {am:Amb}{sk:List Env}{π:List Addr}{Hc:H}{h h':Heap}{I:Addr}(x:HR am sk π Hc h) (p:Poke I h h'){o:Obj}{us:Array Value}(ho:h.get? I=some o) (hd:o.data=.fields us) (hB:am.B.get? I=none):HR am sk π Hc h' :=
 x.upto (p.slots ho hd) fun b o' e=>p b o' (fun q=>by subst q;rw[hB] at e;cases e) (x.base b o' e)
theorem zgq (k:∀ b o,b ∉ am.res→h.get? b=some o→h'.get? b=some o):Via am am π π h h':=⟨fun a o ho z h1 h2=>⟨⟨o.slots,k a o h2 ho⟩,h1,h2⟩,fun z z e=>e⟩
theorem VR.free (k:∀ b o,b ∉ am.res→h.get? b=some o→h'.get? b=some o) (e:VR am π h v y):VR am π h' v y:=e.via (zgq k)
theorem VRs.free (k:∀ b o,b ∉ am.res→h.get? b=some o→h'.get? b=some o) (e:VRs am π h vs ys):VRs am π h' vs ys:=e.via (zgq k)
structure Mv (R Fs π:List Addr) (s:Shared) (π':List Addr) (s':Shared):Prop where
 same:∃ h' tk,s'={ s with heap:=h',toks:=tk }
 keep:∀ a o,s.heap.get? a=some o→a ∉ π→a ∉ Fs→a ∉ R→s'.heap.get? a=some o
 slots:∀ a o,s.heap.get? a=some o→a ∉ π→a ∉ R→∃ sl,s'.heap.get? a=some { o with slots:=sl }
 alive:∀ a o,s.heap.get? a=some o→∃ o',s'.heap.get? a=some o'
 grow:∃ δ,π'=π++δ∧∀ a∈δ,s.heap.get? a=none
theorem Mv.of {R Fs π π':List Addr}{s s':Shared}(x:Step Fs π s π' s'):Mv R Fs π s π' s' :=
 ⟨x.same,fun a o h1 h2 h3 z=>x.ext.keep a o h1 h2 h3,fun a o h1 h2 z=>x.ext.slots a o h1 h2,x.ext.alive,x.grow⟩
theorem Mv.notin {R Fs π π':List Addr}{s s':Shared}(x:Mv R Fs π s π' s'){a:Addr}{o:Obj}(ho:s.heap.get? a=some o) (ha:a ∉ π):a ∉ π':=by
 obtain⟨δ,rfl,hδ⟩:=x.grow;intro hm
 rcases zP.mp hm with h1|h1
 ·exact ha h1
 ·have:=hδ a h1;rw[ho] at this;cases this
theorem Mv.trans {R Fs π₀ π₁ π₂:List Addr}{s₀ s₁ s₂:Shared}(x:Mv R Fs π₀ s₀ π₁ s₁) (y:Mv R Fs π₁ s₁ π₂ s₂):Mv R Fs π₀ s₀ π₂ s₂:=by
 refine⟨?_,fun a o e h1 h2 h3=>?_,fun a o e h1 h3=>?_,fun a o e=>?_,?_⟩
 ·obtain⟨h',tk,rfl⟩:=x.same
  obtain⟨h'',tk',rfl⟩:=y.same;exact⟨_,_,rfl⟩
 ·exact y.keep a o (x.keep a o e h1 h2 h3) (x.notin e h1) h2 h3
 ·obtain⟨sl,h4⟩:=x.slots a o e h1 h3
  obtain⟨sl',h5⟩:=y.slots a _ h4 (x.notin e h1) h3;exact⟨sl',h5⟩
 ·obtain⟨o',h4⟩:=x.alive a o e
  exact y.alive a o' h4
 ·obtain⟨δ,rfl,hδ⟩:=x.grow
  obtain⟨δ',rfl,hδ'⟩:=y.grow;refine⟨δ++δ',by simp,fun a ha=>?_⟩
  rcases zP.mp ha with h1|h1
  ·exact hδ a h1
  ·cases hq:s₀.heap.get? a with
   |none=>rfl
   |some o =>
    obtain⟨o',h3⟩:=x.alive a o hq;have:=hδ' a h1;rw[h3] at this;cases this
theorem Mv.poke {R Fs π π':List Addr}{s s':Shared}{C:Addr}{h'':Heap}{tk:Nat}(x:Mv R Fs π s π' s') (hC:(C∈R∧∃ o,h''.get? C=some o)∨s.heap.get? C=none) (p:Poke C s'.heap h''):Mv R Fs π s π' { s' with heap:=h'',toks:=tk }:=by
 have ne:∀ {b o},s.heap.get? b=some o→b ∉ R→b≠C:=fun {b o} e hb q=>by
  subst q
  rcases hC with h|h
  ·exact hb h.1
  ·rw[h] at e;cases e
 obtain⟨h',tk',rfl⟩:=x.same;refine⟨⟨h'',tk,rfl⟩,fun a o e h1 h2 h3=>p a o (ne e h3) (x.keep a o e h1 h2 h3),fun a o e h1 h3=>?_,fun a o e=>?_,x.grow⟩
 ·obtain⟨sl,h4⟩:=x.slots a o e h1 h3
  exact⟨sl,p a _ (ne e h3) h4⟩
 ·obtain⟨o',h4⟩:=x.alive a o e
  by_cases hq:a=C
  ·subst hq
   rcases hC with h|h
   ·exact h.2
   ·rw[h] at e;cases e
  ·exact⟨o',p a o' hq h4⟩
theorem zkq {am:Amb}{Fs π π':List Addr}{s s':Shared}(x:Mv am.res Fs π s π' s'):Via am am π π' s.heap s'.heap :=
 ⟨fun a o ho z h1 h2=>⟨x.slots a o ho h1 h2,x.notin ho h1,h2⟩,fun i a ha=>by
  obtain⟨δ,rfl,_⟩:=x.grow;rw[List.getElem?_append_left (List.getElem?_eq_some_iff.mp ha).1];exact ha⟩
theorem VRs.move {am:Amb}{Fs π π':List Addr}{s s':Shared}(x:Mv am.res Fs π s π' s'){vs:List V}{ys:List Value}(e:VRs am π s.heap vs ys):VRs am π' s'.heap vs ys:=e.via (zkq x)
structure Iter (am:Amb) (sk:List Env) (A:Around) (I:Addr) (wt:Watch) (vs:List V) (Sx:Nat→List Addr→Heap→Prop):Prop where
 stable:∀ k π (s:Shared) π' (s':Shared),Sx k π s.heap→Step (Fs sk) π s π' s'→Sx k π' s'.heap
 move:∀ k π (s:Shared) π' (s':Shared),Sx k π s.heap→Mv am.res (Fs sk) π s π' s'→Sx k π' s'.heap
 free:∀ k π (h h':Heap),Sx k π h→(∀ b o,b ∉ am.res→h.get? b=some o→h'.get? b=some o)→Sx k π h'
 own:∀ k π h,Sx k π h→I ∉ π∧I ∉ Fs sk∧∃ o us,h.get? I=some o∧o.data=.fields us
 item:∀ k π (Hc:H) (s:Shared) v (Q:Option Value→Shared→Prop) (E:Value→Shared→Prop),Sx k π s.heap→HR am sk π Hc s.heap→wt.ok Hc=true→vs[k]?=some v →
  (∀ x h' tk,Poke I s.heap h'→VR am π h' v x→Sx (k+1) π h'→Q (some x) { s with heap:=h',toks:=tk })→wpAny am.M A (pyNext (.ref I)) Q E s
 done:∀ π (Hc:H) (s:Shared) (Q:Option Value→Shared→Prop) (E:Value→Shared→Prop),Sx vs.length π s.heap→HR am sk π Hc s.heap→wt.ok Hc=true →
  (∀ h' tk,Poke I s.heap h'→Q none { s with heap:=h',toks:=tk })→wpAny am.M A (pyNext (.ref I)) Q E s
 self:∀ k π (s:Shared) (Q:Value→Shared→Prop) (E:Value→Shared→Prop),Sx k π s.heap→Q (.ref I) s→wpAny am.M A (pyIter (.ref I)) Q E s
section
variable {am:Amb}{sk:List Env}{A:Around}
def IsSq (T:String) (h:Heap) (l:Addr) (xs:List Value):Prop:=∃ o,h.get? l=some o∧o.cls=.type T∧∃ n,o.data=.seq xs.toArray n
def IsSqI (T:String) (h:Heap) (I l:Addr) (k:Nat):Prop:=∃ o,h.get? I=some o∧o.cls=.type T∧o.data=.fields #[.ref l,.int k 0]
structure SqS (am:Amb) (sk:List Env) (I l:Addr) (vs:List V) (T T':String) (k:Nat) (π:List Addr) (h:Heap):Prop where
 op:I ∉ π
 os:I ∉ Fs sk
 it:IsSqI T' h I l k
 off:l ∉ π∧I ∉ am.res∧l ∉ am.res
 xs:∃ xs,IsSq T h l xs∧VRs am π h vs xs
theorem Iter.sq
  (hi:∀ {s:Shared}{k:Nat}{xs:List Value}{x:Value}{Q:Option Value→Shared→Prop}{E:Value→Shared→Prop},IsSqI T' s.heap I l k→IsSq T s.heap l xs→xs.toArray[k]?=some x→(∀ h',IsSqI T' h' I l (k+1)→Heap.SameBut I s.heap h'→Q (some x) { s with heap:=h' })→wpAny am.M A (pyNext (.ref I)) Q E s)
  (he:∀ {s:Shared}{k:Nat}{xs:List Value}{Q:Option Value→Shared→Prop}{E:Value→Shared→Prop},IsSqI T' s.heap I l k→IsSq T s.heap l xs→xs.toArray[k]?=none→(∀ h',Heap.ExtBut I s.heap h'→Q none { s with heap:=h' })→wpAny am.M A (pyNext (.ref I)) Q E s)
  (hs:∀ {s:Shared}{k:Nat}{Q:Value→Shared→Prop}{E:Value→Shared→Prop},IsSqI T' s.heap I l k→Q (.ref I) s→wpAny am.M A (pyIter (.ref I)) Q E s):Iter am sk A I none vs (SqS am sk I l vs T T') where
 stable:=fun k π s π' s' z x=>by
  refine hold fun y k_=>?_;obtain⟨h1,h2,⟨o,ho,hr⟩,h4,xs,⟨o',ho',r⟩,h6⟩:=z;obtain⟨sl,hs⟩:=x.ext.slots _ _ ho' h4.1;refine k_ ?_;exact⟨x.notin ho h1,h2,⟨o,x.ext.keep _ _ ho h1 h2,hr⟩,⟨x.notin ho' h4.1,h4.2⟩,xs,⟨_,hs,r⟩,h6.step x⟩
 move:=fun k π s π' s' z x=>by
  refine hold fun y k_=>?_;obtain⟨h1,h2,⟨o,ho,hr⟩,h4,xs,⟨o',ho',r⟩,h6⟩:=z;obtain⟨sl,hs⟩:=x.slots _ _ ho' h4.1 h4.2.2;refine k_ ?_;exact⟨x.notin ho h1,h2,⟨o,x.keep _ _ ho h1 h2 h4.2.1,hr⟩,⟨x.notin ho' h4.1,h4.2⟩,xs,⟨_,hs,r⟩,h6.move x⟩
 free:=fun k π h h' z kk=>by
  refine hold fun y k_=>?_;obtain⟨h1,h2,⟨o,ho,hr⟩,h4,xs,⟨o',ho',r⟩,h6⟩:=z;refine k_ ?_;exact⟨h1,h2,⟨o,kk _ _ h4.2.1 ho,hr⟩,h4,xs,⟨o',kk _ _ h4.2.2 ho',r⟩,h6.free kk⟩
 own:=fun k π h z=>⟨z.op,z.os,let ⟨o,ho,_,hd⟩:=z.it;⟨o,_,ho,hd⟩⟩
 item:=fun k π Hc s v Q E z y y hv hQ=>by
  refine hold fun y k_=>?_;obtain⟨xs,h5,h6⟩:=z.xs;obtain⟨x,hx,hvx⟩:=h6.get k v hv;refine k_ ?_;refine hi z.it h5 (by rw[List.getElem?_toArray];exact hx) fun h' hit' hs'=>?_
  have p:Poke I s.heap h':=fun b o hb e=>hs'.extBut b o hb e;refine hold fun y k_=>?_;obtain⟨o,ho,hc,hd⟩:=z.it;obtain⟨ol,hol,hcl,n,hdl⟩:=h5;have hne:l≠I:=fun q=>by subst q;rw[ho] at hol;cases hol;rw[hd] at hdl;cases hdl
  refine k_ ?_;exact hQ x h' s.toks p (hvx.upto (p.slots ho hd)) ⟨z.op,z.os,hit',z.off,xs,⟨ol,p _ _ hne hol,hcl,n,hdl⟩,h6.upto (p.slots ho hd)⟩
 done:=fun π Hc s Q E z y y hQ=>by
  obtain⟨xs,h5,h6⟩:=z.xs;exact he z.it h5 (by rw[List.getElem?_toArray,List.getElem?_eq_none_iff,h6.len];exact Nat.le_refl _) fun h' he'=>hQ h' s.toks fun b o hb e=>he' b o hb e
 self:=fun y y y y y z hQ=>hs z.it hQ
theorem Iter.lst (hh:A.handled=none){I l:Addr}{vs:List V}:Iter am sk A I none vs (SqS am sk I l vs "list" "list_iterator") :=
 Iter.sq (fun h1 h2 h3 h4=>wpAny_pyNext_list_item h1 h2 h3 h4) (fun h1 h2 h3 h4=>wpAny_pyNext_list_end hh h1 h2 h3 h4) (fun h1 h2=>wpAny_pyIter_listiter h1 h2)
theorem Iter.tup (hh:A.handled=none){I l:Addr}{vs:List V}:Iter am sk A I none vs (SqS am sk I l vs "tuple" "tuple_iterator") :=
 Iter.sq (fun h1 h2 h3 h4=>wpAny_pyNext_tuple_item h1 h2 h3 h4) (fun h1 h2 h3 h4=>wpAny_pyNext_tuple_end hh h1 h2 h3 h4) (fun h1 h2=>wpAny_pyIter_tupleiter h1 h2)
theorem Iter.cell (hh:A.handled=none){I:Addr}{i:Nat}{vs:List V}:Iter am sk A I (some (i,.list vs)) vs (fun k π h=>I ∉ π∧(I ∉ Fs sk∧I ∉ am.res)∧∃ l,π[i]?=some l∧h.IsListIter I l k) where
 stable:=by
  rintro k π s π' s' ⟨h1,h2,l,h4,h3⟩ x
  obtain⟨o,ho,hr⟩:=id h3;obtain⟨δ,e,_⟩:=x.grow;refine⟨x.notin ho h1,h2,l,?_,⟨o,x.ext.keep _ _ ho h1 h2.1,hr⟩⟩;rw[e,List.getElem?_append_left (List.getElem?_eq_some_iff.mp h4).1];exact h4
 move:=by
  rintro k π s π' s' ⟨h1,h2,l,h4,h3⟩ x
  obtain⟨o,ho,hr⟩:=id h3;obtain⟨δ,e,_⟩:=x.grow;refine⟨x.notin ho h1,h2,l,?_,⟨o,x.keep _ _ ho h1 h2.1 h2.2,hr⟩⟩;rw[e,List.getElem?_append_left (List.getElem?_eq_some_iff.mp h4).1];exact h4
 free:=by
  rintro k π h h' ⟨h1,h2,l,h4,⟨o,ho,hr⟩⟩ kk
  exact⟨h1,h2,l,h4,⟨o,kk _ _ h2.2 ho,hr⟩⟩
 own:=by
  rintro k π h ⟨h1,h2,l,_,⟨o,ho,hc,hd⟩⟩
  exact⟨h1,h2.1,o,_,ho,hd⟩
 item:=by
  rintro k π Hc s v Q E ⟨h1,h2,l,h4,h3⟩ hr hw hv hQ
  have hc:Hc[i]?=some (.list vs):=by simpa [Watch.ok] using hw
  refine hold fun z k_=>?_;obtain⟨xs,h5,_,h6⟩:=(hr.cell i _ l hc h4).list;refine k_ ?_;obtain⟨x,hx,hvx⟩:=h6.get k v hv;refine hold fun z k_=>?_;obtain⟨o,ho,_,hd⟩:=id h3;refine k_ ?_;refine wpAny_pyNext_list_item h3 h5.is (x:=x) (by simpa using hx) fun h' hit' hs'=>?_
  have p:Poke I s.heap h':=fun b o hb e=>hs'.extBut b o hb e;exact hQ x h' s.toks p (hvx.upto (p.slots ho hd)) ⟨h1,h2,l,h4,hit'⟩
 done:=by
  rintro π Hc s Q E ⟨h1,h2,l,h4,h3⟩ hr hw hQ
  have hc:Hc[i]?=some (.list vs):=by simpa [Watch.ok] using hw
  refine hold fun z k_=>?_;obtain⟨xs,h5,_,h6⟩:=(hr.cell i _ l hc h4).list;refine k_ ?_;exact wpAny_pyNext_list_end hh h3 h5.is (by simp[h6.len]) fun h' he'=>hQ h' s.toks fun b o hb e=>he' b o hb e
 self:=fun _ _ _ _ _ ⟨_,_,_,_,st⟩ hQ=>wpAny_pyIter_listiter st hQ
theorem Iter.range (hh:A.handled=none){I:Addr}(a c:Int) (n:Nat):Iter am sk A I none ((List.range n).map fun(i:Nat)=>V.int (a+(i:Int) * c)) (fun k π h=>I ∉ π∧(I ∉ Fs sk∧I ∉ am.res)∧IsRangeIter h I (a+(k:Nat) * c) ((n:Int) - (k:Nat)) c) where
 stable:=by
  rintro k π s π' s' ⟨h1,h2,h3⟩ x
  exact⟨x.notin h3 h1,h2,x.ext.keep _ _ h3 h1 h2.1⟩
 move:=by
  rintro k π s π' s' ⟨h1,h2,h3⟩ x
  exact⟨x.notin h3 h1,h2,x.keep _ _ h3 h1 h2.1 h2.2⟩
 free:=by
  rintro k π h h' ⟨h1,h2,h3⟩ kk
  exact⟨h1,h2,kk _ _ h2.2 h3⟩
 own:=by
  rintro k π h ⟨h1,h2,h3⟩
  exact⟨h1,h2.1,_,_,h3,rfl⟩
 item:=by
  rintro k π Hc s v Q E ⟨h1,h2,h3⟩ hr _ hv hQ
  have hk:k < n:=by have:=(List.getElem?_eq_some_iff.mp hv).1;simpa using this
  have hv':v=V.int (a+(k:Int) * c):=by
   rw[List.getElem?_map,List.getElem?_range hk] at hv
   simpa using hv.symm
  subst hv';refine wpAny_pyNext_range_item h3 (by omega) fun h' hit' hs'=>?_
  have p:Poke I s.heap h':=fun b o hb e=>hs'.extBut b o hb e;refine hQ _ h' _ p ⟨_,rfl⟩ ⟨h1,h2,?_⟩;have e1:a+((k+1:Nat):Int) * c=a+(k:Int) * c+c:=by push_cast;rw[Int.add_mul,Int.one_mul,Int.add_assoc]
  have e2:(n:Int) - ((k+1:Nat):Int)=(n:Int) - (k:Int) - 1:=by rw[Int.natCast_add,← Int.sub_sub];rfl
  rw[e1,e2];exact hit'
 done:=by
  rintro π Hc s Q E ⟨h1,h2,h3⟩ hr _ hQ
  exact wpAny_pyNext_range_end hh h3 (by simp) fun h' he'=>hQ h' s.toks fun b o hb e=>he' b o hb e
 self:=fun z z z z z st hQ=>wpAny_pyIter_rangeiter st.2.2 hQ
end
structure DO (o:Obj) (d:Addr) (arr:Array DictEntry):Prop where
 ne:(d == sysModules)=false
 cls:o.cls=.type "dict"
 data:o.data=.dict arr arr.size
section
variable {am:Amb}{A:Around}{s:Shared}{E:Value→Shared→Prop}{d I:Addr}{o:Obj}{arr:Array DictEntry}
theorem DO.iter (D:DO o d arr) (ho:s.heap.get? d=some o){Q:Value→Shared→Prop}(h:Q (.ref s.heap.objs.size) { s with heap:=s.heap.push { cls:=.type "dict_keyiterator",data:=.fields #[.ref d,.int 0 0,.int arr.size 0,.int arr.size 0] } }):wpAny am.M A (pyIter (.ref d)) Q E s:=by
 refine wpAny_pyIter_slot (show s.TypeIs (.ref d) "dict" from⟨o,ho,D.cls⟩) PySem.F.slot_dict_iter (wpAny_call_entry PySem.F.slot_dict_iter (show s.TypeIs (.ref d) "dict" from⟨o,ho,D.cls⟩) PySem.F.entry_dict_iter ?_ (PySem.F.args_dict_iter_1 _));unfold Builtin.«dict.__iter__» Builtin.Dict.dictSlotNone;refine yX (yX (wpAny_notOrdered_dict (show s.TypeIs (.ref d) "dict" from⟨o,ho,D.cls⟩) ?_))
 show wpAny _ _ (pure (Value.ref d)) _ _ s;refine yW ?_;show wpAny _ _ (Builtin.Dict.showsAll d >>= _) _ _ s;unfold Builtin.Dict.showsAll;rw[zR (by rw[D.ne];exact Bool.false_ne_true)]
 refine yX (yW ?_);refine yX (wpAny_dictEntries ho D.data ?_);refine yX (wpAny_dictEpoch ho D.data ?_);refine yX (wpAny_newObj_type (yW ⟨_,rfl,"dict_keyiterator",_,⟨_,Heap.get?_push_size _ rfl,rfl⟩,PySem.F.slot_dict_keyiterator_next.lookup,?_⟩));exact h
theorem DO.next (D:DO o d arr) (ho:s.heap.get? d=some o){Q:Option Value→Shared→Prop}(hit:s.heap.IsKeyIter I d i arr.size arr.size) (hxa:arr[i]?=some x)
  (hQ:∀ h',h'.IsKeyIter I d (i+1) arr.size arr.size→Heap.SameBut I s.heap h'→Q (some x.key) { s with heap:=h' }):wpAny am.M A (pyNext (.ref I)) Q E s:=by
 refine hold fun z k_=>?_;obtain⟨oI,hoI,hcI,hdI⟩:=id hit;refine k_ ?_;unfold pyNext;refine yX (wpAny_attempt (wpAny_callSpecial?_slot (name:=Str.ofString "__next__") hit.typeIs PySem.F.slot_dict_keyiterator_next
  (wpAny_call_entry PySem.F.slot_dict_keyiterator_next hit.typeIs PySem.F.entry_dict_keyiterator_next ?_ (PySem.F.args_dict_keyiterator_next_1 _))))
 refine yX (yW ?_);refine yX (yX (yX (wpAny_typeNameOfWhole_keyiter hit.typeIs (yW ?_))));refine yX (wpAny_fieldsOf hoI hdI ?_);rw[zR (by decide)]
 show wpAny _ _ (if(Value.ref d == Value.none)=true then _ else _) _ _ s;rw[zR (show ¬ ((Value.ref d == Value.none)=true) from Bool.false_ne_true)];refine yX (yW ?_);refine yX (wpAny_dictEntries ho D.data ?_);rw[zR (by simp)]
 refine yX (yW ?_);refine yX (wpAny_dictEpoch ho D.data ?_);rw[zR (by simp)]
 refine yW ?_;dsimp only;rw[zR (Int.not_lt.mpr (Int.natCast_nonneg i)),Int.toNat_natCast,hxa];refine yX (yX (wpAny_typeNameOfWhole_keyiter hit.typeIs (yW ?_)));refine yX (wpAny_isOneOf_keyiter hit.typeIs ?_);show wpAny _ _ (setField (.ref I) 1 (rawInt ((i:Int)+1)) >>= _) _ _ s;refine yX (wpAny_setField hoI hdI (by simp) ?_)
 have hit':(s.heap.update I (Obj.mapFields (·.setIfInBounds 1 (rawInt ((i:Int)+1))))).IsKeyIter I d (i+1) arr.size arr.size :=
  ⟨_,Heap.get?_update_self _ hoI (Obj.isFreed_of_fields (Obj.data_mapFields hdI _)),(Obj.cls_mapFields ..).trans hcI,by rw[Obj.data_mapFields hdI];rfl⟩
 refine yX (yU ?_);refine yX (wpAny_isOneOf_keyiter (s:={ s with heap:=s.heap.update I (Obj.mapFields (·.setIfInBounds 1 (rawInt ((i:Int)+1)))) }) hit'.typeIs ?_)
 show wpAny _ _ (pure x.key) _ _ _;exact yW (yW ⟨_,rfl,yW (hQ _ hit' (Heap.SameBut.update ..))⟩)
theorem DO.last (hh:A.handled=none) (D:DO o d arr) (ho:s.heap.get? d=some o){Q:Option Value→Shared→Prop}(hit:s.heap.IsKeyIter I d arr.size arr.size arr.size) (hQ:∀ h',Heap.ExtBut I s.heap h'→Q none { s with heap:=h' }):wpAny am.M A (pyNext (.ref I)) Q E s:=by
 refine hold fun z k_=>?_;obtain⟨oI,hoI,hcI,hdI⟩:=id hit;refine k_ ?_;unfold pyNext;refine yX (wpAny_attempt (wpAny_callSpecial?_slot (name:=Str.ofString "__next__") hit.typeIs PySem.F.slot_dict_keyiterator_next
  (wpAny_call_entry PySem.F.slot_dict_keyiterator_next hit.typeIs PySem.F.entry_dict_keyiterator_next ?_ (PySem.F.args_dict_keyiterator_next_1 _))))
 refine yX (yW ?_);refine yX (yX (yX (wpAny_typeNameOfWhole_keyiter hit.typeIs (yW ?_))));refine yX (wpAny_fieldsOf hoI hdI ?_);rw[zR (by decide)]
 show wpAny _ _ (if(Value.ref d == Value.none)=true then _ else _) _ _ s;rw[zR (show ¬ ((Value.ref d == Value.none)=true) from Bool.false_ne_true)];refine yX (yW ?_);refine yX (wpAny_dictEntries ho D.data ?_);rw[zR (by simp)]
 refine yX (yW ?_);refine yX (wpAny_dictEpoch ho D.data ?_);rw[zR (by simp)]
 refine yW ?_;dsimp only;rw[zR (Int.not_lt.mpr (Int.natCast_nonneg arr.size)),Int.toNat_natCast,Array.getElem?_eq_none (Nat.le_refl _)];refine yX (yX (wpAny_typeNameOfWhole_keyiter hit.typeIs (yW ?_)));show wpAny _ _ (setField (.ref I) 0 .none >>= _) _ _ s;refine yX (wpAny_setField hoI hdI (by simp) ?_)
 show wpAny _ _ (newExc (.type "StopIteration") [] >>= _) _ _ _;refine yX ?_;simp only[newExc,newTuple];refine yX (wpAny_newObj_type ?_ (by size_fits))
 refine yX (m:=firstArgMember _ _) (wpAny_of_eq (a:=Value.none) (by first|rfl|(simp only[firstArgMember];rfl)) ?_)
 refine wpAny_newObj_type ?_ (by size_fits)
 simp -iota only[raiseNew];refine yX (wpAny_handled ?_);rw[show A.in1.handled=none from hh];refine yX (yW (wpAny_throw ?_));refine yX (wpAny_isInstance (T:="StopIteration") (b:=true) ⟨_,Heap.get?_push_size _ rfl,rfl⟩ isSubtype_stop ?_);exact yW (hQ _ (((Heap.SameBut.update ..).extBut.push _).push _))
theorem DO.walks (hh:A.handled=none) (D:DO o d arr) (hne:d≠I):Walks am.prog am.w A I [I,d] [I] arr.size (fun i v=>∃ e,arr[i]?=some e∧e.key=v) (fun i h=>h.IsKeyIter I d i arr.size arr.size∧h.get? d=some o) where
 sub:=fun b hb=>by rw[zK.1 hb];exact zZ ..
 frame:=fun i h h' ⟨⟨oI,hI,r⟩,hd⟩ k=>⟨⟨oI,k I (zZ ..) oI hI,r⟩,k d (zY _ (zZ ..)) o hd⟩
 item:=fun i s Q E hi ⟨hit,hd⟩ hQ=>D.next hd hit (Array.getElem?_eq_getElem hi) fun h' hit' hs' =>
  hQ _ h' s.toks ⟨_,Array.getElem?_eq_getElem hi,rfl⟩ ⟨hit',hs'.extBut d o hne hd⟩ fun b o' hb q=>hs'.extBut b o' (fun z=>hb (z ▸ zK.2 rfl)) q
 done:=fun s Q E ⟨hit,hd⟩ hQ=>D.last hh hd hit fun h' he=>hQ h' s.toks fun b o' hb q=>he b o' (fun z=>hb (z ▸ zK.2 rfl)) q
 self:=fun i s Q E st hQ=>wpAny_pyIter_keyiter st.1 hQ
theorem DO.src (D:DO o d arr):KdlSrc am.prog am.w "dict" d d arr.size (fun i v=>∃ e,arr[i]?=some e∧e.key=v) (fun h=>h.get? d=some o) where
 type:=fun z hm=>⟨o,hm,D.cls⟩
 there:=fun z hm=>⟨Heap.lt_size hm,Heap.lt_size hm⟩
 keep:=fun z z hm hk=>hk d (.inl rfl) o hm
 notList:=by decide
 notTuple:=by decide
 hint:=fun z z z z hm hq=>kdl_hint_dict ⟨o,hm,D.cls⟩ hq
 iter:=fun z s hh hm=>⟨_,_,(fun z z hq=>D.iter hm hq),D.walks hh (Nat.ne_of_lt (Heap.lt_size hm)),⟨_,Heap.get?_push_size _ rfl,rfl,rfl⟩,Heap.get?_push_of_some _ hm⟩
theorem DO.collect (hh:A.handled=none) (D:DO o d arr) (ho:s.heap.get? d=some o) (hle:arr.size≤sizeLine){Q:List Value→Shared→Prop}
  (h:∀ h₁ tk,(∀ b o,s.heap.get? b=some o→h₁.get? b=some o)→Q (arr.toList.map (·.key)) { s with heap:=h₁,toks:=tk }):wpAny am.M A (PySem.collect (.ref d)) Q E s:=by
 have hlt:=Heap.lt_size ho;have hd1:=Heap.get?_push_of_some { cls:=.type "list",data:=.seq ([]:List Value).toArray } ho;have hS:(s.heap.push { cls:=.type "list",data:=.seq ([]:List Value).toArray }).get? s.heap.objs.size=some { cls:=.type "list",data:=.seq #[] 0 }:=Heap.get?_push_size _ rfl;have key:∀ R:Result→Shared→Prop,(∀ h' tk acc c',(∀ b o,b≠s.heap.objs.size→(s.heap.push { cls:=.type "list",data:=.seq ([]:List Value).toArray }).get? b=some o→h'.get? b=some o)→h'.get? s.heap.objs.size=some { cls:=.type "list",dict:=none,data:=.seq acc c',slots:=#[] } →
   ItemsOf (fun i v=>∃ e,arr[i]?=some e∧e.key=v) acc arr.size→R (.ok (.ret (.ref s.heap.objs.size))) { s with heap:=h',toks:=tk })→codeAny am.M A (.builtin "proto.collect" ⟨[.ref d],[]⟩) R s:=by
  intro R hR;refine codeAny_builtin PySem.F.entry_proto_collect ?_;rw[Around.under_plainId PySem.F.plain_proto_collect _];show wpAny _ A.in1 (newList [] >>= fun l=>again (.builtin "list.__iadd__" ⟨[l,.ref d],[]⟩)) _ _ s;refine yX (wpAny_newObj_type ?_);refine yW ⟨plainId_quiet PySem.F.plain_list_iadd _,codeAny_builtin PySem.F.entry_list_iadd ?_⟩;rw[Around.under_plainId PySem.F.plain_list_iadd _]
  exact kdl_extend (s:={ s with heap:=s.heap.push { cls:=.type "list",data:=.seq ([]:List Value).toArray } }) (D.src (am:=am)) hh hd1 _ (Nat.ne_of_gt hlt) (Nat.ne_of_gt hlt) (.ref s.heap.objs.size) 0 hS hR hle
 unfold PySem.collect;refine yX (wpAny_runValue (key _ fun h' tk acc c' k hS' hacc=>?_));show wpAny _ A (load s.heap.objs.size >>= _) _ _ _;refine yX (wpAny_load hS' ?_);have e:acc.toList=arr.toList.map (·.key):=List.ext_getElem? fun i=>by
  rw[List.getElem?_map,Array.getElem?_toList,Array.getElem?_toList]
  cases q:acc[i]? with
  |some v =>
   obtain⟨e,e1,e2⟩:=hacc.2 i v q;rw[e1,← e2];rfl
  |none =>
   have:arr.size≤i:=hacc.1 ▸ Array.getElem?_eq_none_iff.1 q;rw[Array.getElem?_eq_none this];rfl
 have h:=h h' tk fun b o q=>k b o (Nat.ne_of_lt (Heap.lt_size q)) (Heap.get?_push_of_some _ q);rw[←e] at h;exact yW h
theorem DO.count (D:DO o d arr) (ho:s.heap.get? d=some o) (hfit:(arr.size:Int) < 2 ^ 63){Q:Value→Shared→Prop}(h:Q (.int arr.size (s.toks+1)) { s with toks:=s.toks+1+1 }):wpAny am.M A (call (.builtin "len") [.ref d]) Q E s:=by
 have hT:s.TypeIs (.ref d) "dict":=⟨o,ho,D.cls⟩;refine Calls.call_function_entry kind_len plain_len entry_len (args_len1 _) ?_;unfold Builtin.«len»
 refine yX (m:=oneArg "len" _) (yW ?_);refine yX (m:=callSpecial? (.ref d) (Str.ofString "__len__")) (wpAny_callSpecial?_slot (name:=Str.ofString "__len__") hT PySem.F.slot_dict_len (wpAny_call_entry PySem.F.slot_dict_len hT PySem.F.entry_dict_len ?_ (PySem.F.args_dict_len_1 _)));show wpAny _ _ (dictSize d >>= _) _ _ s;unfold dictSize;refine yX (yX (wpAny_dictEntries ho D.data (yW ?_)))
 show wpAny _ _ (Builtin.Dict.pendingCount d >>= _) _ _ s;refine yX (wpAny_pendingCount_other D.ne ?_);refine wpAny_ret_mkInt ?_;rw[show((arr.size:Nat):Int)+((0:Nat):Int)=(arr.size:Int) from Int.add_zero _];refine yX (yU (yW ?_));refine yX (wpAny_letGo ?_);show wpAny _ _ (if((arr.size:Nat):Int) < 0 then _ else _) _ _ _;rw[zR (Int.not_lt.mpr (Int.natCast_nonneg _))]
 show wpAny _ _ (if((arr.size:Nat):Int) ≥ 2 ^ 63 then _ else _) _ _ _;rw[zR (Int.not_le.mpr hfit)];exact yX (wpAny_mkInt (yW ⟨_,rfl,h⟩))
end
section
variable {am:Amb}{sk:List Env}{A:Around}{π:List Addr}{s:Shared}{Hc:H}{E:Value→Shared→Prop}{es:List (V × V)}{d I:Addr}{o:Obj}{arr:Array DictEntry}{ep:Nat}{xs:List Value}
theorem DC.raw (D:DC am π s.heap es d o arr ep xs):DO o d arr:=⟨D.ne,D.cls,by rw[D.data,D.age,D.size]⟩
theorem Iter.dict (hh:A.handled=none):Iter am sk A I (some (i,.dict es)) (es.map (·.1)) (fun k π h=>I ∉ π∧(I ∉ Fs sk∧I ∉ am.res)∧∃ l,π[i]?=some l∧h.IsKeyIter I l k es.length es.length) where
 stable:=by
  rintro k π s π' s' ⟨h1,h2,l,h4,h3⟩ x
  obtain⟨o,ho,hr⟩:=id h3;obtain⟨δ,e,_⟩:=x.grow;refine⟨x.notin ho h1,h2,l,?_,⟨o,x.ext.keep _ _ ho h1 h2.1,hr⟩⟩;rw[e,List.getElem?_append_left (List.getElem?_eq_some_iff.mp h4).1];exact h4
 move:=by
  rintro k π s π' s' ⟨h1,h2,l,h4,h3⟩ x
  obtain⟨o,ho,hr⟩:=id h3;obtain⟨δ,e,_⟩:=x.grow;refine⟨x.notin ho h1,h2,l,?_,⟨o,x.keep _ _ ho h1 h2.1 h2.2,hr⟩⟩;rw[e,List.getElem?_append_left (List.getElem?_eq_some_iff.mp h4).1];exact h4
 free:=by
  rintro k π h h' ⟨h1,h2,l,h4,⟨o,ho,hr⟩⟩ kk
  exact⟨h1,h2,l,h4,⟨o,kk _ _ h2.2 ho,hr⟩⟩
 own:=by
  rintro k π h ⟨h1,h2,l,_,⟨o,ho,hc,hd⟩⟩
  exact⟨h1,h2.1,o,_,ho,hd⟩
 item:=by
  rintro k π Hc s v Q E ⟨h1,h2,l,h4,h3⟩ hr hw hv hQ
  have hc:Hc[i]?=some (.dict es):=by simpa [Watch.ok] using hw
  obtain⟨o,arr,ep,xs,D⟩:=(hr.cell i _ l hc h4).dict;rw[List.getElem?_map] at hv;obtain⟨⟨k',v'⟩,hx,rfl⟩:=Option.map_eq_some_iff.1 hv;obtain⟨oI,ho,_,hd⟩:=id h3;obtain⟨x,y,hxa,hvx,_⟩:=D.at hx;rw[←D.size] at h3;refine D.raw.next D.ho h3 hxa fun h' hit' hs'=>?_;have p:Poke I s.heap h':=fun b o hb e=>hs'.extBut b o hb e;exact hQ x h' s.toks p (hvx.upto (p.slots ho hd)) ⟨h1,h2,l,h4,by rw[←D.size];exact hit'⟩
 done:=by
  rintro π Hc s Q E ⟨h1,h2,l,h4,h3⟩ hr hw hQ
  have hc:Hc[i]?=some (.dict es):=by simpa [Watch.ok] using hw
  obtain⟨o,arr,ep,xs,D⟩:=(hr.cell i _ l hc h4).dict;rw[zJ,← D.size] at h3;exact D.raw.last hh D.ho h3 fun h' he'=>hQ h' s.toks fun b o hb e=>he' b o hb e
 self:=fun _ _ _ _ _ ⟨_,_,_,_,st⟩ hQ=>wpAny_pyIter_keyiter st hQ
end
section
variable {am:Amb}{sk:List Env}{A:Around}{π:List Addr}{s:Shared}{Hc:H}
theorem zbX (hr:HR am sk π Hc s.heap) (e:VR am π s.heap v x) (hi:items Hc v=some vs) :
  ∃ l xs,x=.ref l∧(s.heap.IsList l (List.toArray xs)∨s.heap.IsTuple l (List.toArray xs))∧vs.length≤1000000∧VRs am π s.heap vs xs:=by
 cases v with
 |tup ws =>
  cases Option.some.inj hi
  obtain⟨a,xs,h1,_,h3,h4,h5⟩:=e;exact⟨a,xs,h1,.inr h3,h4,h5⟩
 |l ws =>
  obtain⟨l,xs,h1,h2,h3⟩:=zaq hr e (vs:=vs) hi;exact⟨l,xs,h1,.inl h2,h3⟩
 |ref i =>
  obtain⟨l,xs,h1,h2,h3⟩:=zaq hr e (vs:=vs) hi;exact⟨l,xs,h1,.inl h2,h3⟩
 |_=>exact no hi
theorem zpt {a:V}{x:Value}(hr:HR am sk π Hc s.heap) (ha:VR am π s.heap a x) :
  JAt am sk A (call (.builtin "len") [x]) (R.opt (bf .len Hc a) Hc) (VR am) π s:=by
 have key:∀ vs,items Hc a=some vs→JAt am sk A (call (.builtin "len") [x]) (R.ok (V.int vs.length) Hc) (VR am) π s:=by
  intro vs h;obtain⟨l,xs,rfl,hl,hz,hv⟩:=zbX hr ha h;have e:=hv.len
  rcases hl with hl|hl
  ·exact .inr (PySem.Calls.call_len_list hl (by rw[size_toArray,e];exact zcZ hz) (by simp only[size_toArray,e];exact OkP.tok hr ⟨_,rfl⟩))
  ·exact .inr (len_tuple hl (by rw[size_toArray,e];exact zcZ hz) (by simp only[size_toArray,e];exact OkP.tok hr ⟨_,rfl⟩))
 unfold bf
 cases a with
 |ref i =>
  simp only
  cases hc:Hc[i]? with
  |none=>exact .inl rfl
  |some c =>
   cases c with
   |list vs=>exact key vs (by show(match Hc[i]? with|some (.list vs)=>some vs|_=>Option.none)=_;rw[hc])
   |dict es =>
    obtain⟨d,rfl,hi⟩:=ha;obtain⟨o,arr,ep,xs,D⟩:=(hr.cell i _ d hc hi).dict;have hl:=D.len;rw[zbh] at hl;refine .inr (D.raw.count D.ho (by rw[D.size];omega) ?_)
    rw[D.size];exact OkP.tok hr ⟨_,rfl⟩
 |tup vs=>exact key vs rfl
 |l vs=>exact key vs rfl
 |_=>exact .inl rfl
theorem zh3 {Q:Value→Shared→Prop}{E:Value→Shared→Prop}(hr:HR am sk π Hc s.heap) (ha:VR am π s.heap a x) (hi:items Hc a=some vs) (h:∀ y s',NewL am π s vs y s'→Q y s') :
  wpAny am.M A (call (.type "list") [x]) Q E s:=by
 obtain⟨l,xs,rfl,hl,hz,hv⟩:=zbX hr ha hi;have e:=hv.len;have fin:∀ (T:String) (o:Obj) (n:Nat),(T="list"∨T="tuple")→s.heap.get? l=some o→o.cls=.type T→o.data=.seq (List.toArray xs) n→wpAny am.M A (call (.type "list") [.ref l]) Q E s:=by
  intro T o n hT ho hc hd;refine call_list_seq l hT ho hc hd (fun h' c' k hn=>h _ _ ⟨_,xs,h',s.toks,rfl,rfl,k,zaj _,⟨_,c',hn,rfl,rfl,rfl⟩,(hv.held (zaj _)).keeps k⟩) ?_;rw[size_toArray,e];exact zaw hz
 rcases hl with⟨o,ho,hc,n,hd⟩|⟨o,ho,hc,n,hd⟩
 ·exact fin _ o n (.inl rfl) ho hc hd
 ·exact fin _ o n (.inr rfl) ho hc hd
theorem znF (hr:HR am sk π Hc s.heap) (ha:VR am π s.heap a x) :
  JAt am sk A (call (.type "list") [x]) (R.opt (bf .list Hc a) Hc) (VR am) π s:=by
 unfold bf
 cases hi:items Hc a with
 |none=>exact .inl rfl
 |some vs =>
  obtain⟨_,_,_,_,hz,_⟩:=zbX hr ha hi;exact .inr (zh3 hr ha hi fun y s' n=>n.lst hr hz)
theorem zkY (hr:HR am sk π Hc s.heap) (ha:VR am π s.heap a x) :
  JAt am sk A (call (.type "tuple") [x]) (R.opt (bf .tuple Hc a) Hc) (VR am) π s:=by
 unfold bf
 cases hi:items Hc a with
 |none=>exact .inl rfl
 |some vs =>
  obtain⟨l,xs,rfl,hl,hz,hv⟩:=zbX hr ha hi;have e:=hv.len
  rcases hl with hl|hl
  ·refine .inr (call_tuple_list hl (fun h' k=>?_) (by rw[size_toArray,e];exact zaw hz))
   have k':∀ b o,s.heap.get? b=some o→(h'.push { cls:=.type "tuple",data:=.seq (List.toArray xs) }).get? b=some o:=fun b o q=>Heap.get?_push_of_some _ (k b o q);have hn:s.heap.get? h'.objs.size=none:=by
    cases q:s.heap.get? h'.objs.size with
    |none=>rfl
    |some o=>have:=k _ o q;rw[zaj] at this;cases this
   refine OkP.keeps (tk:=s.toks) hr k' ?_;exact⟨_,xs,rfl,⟨zaU hr hn,zaQ hr hn⟩,⟨_,Heap.get?_push_size _ rfl,rfl,0,rfl⟩,hz,hv.keeps k'⟩
  ·refine .inr (call_tuple_same hl (OkP.here hr ?_))
   cases a with
   |tup ws=>cases Option.some.inj hi;exact ha
   |l ws =>
    obtain⟨_,_,q,_,⟨o,ho,hc,_⟩,_⟩:=ha
    cases q
    obtain⟨o',ho',hc',_⟩:=hl;rw[ho] at ho';cases ho';rw[hc] at hc';exact absurd hc' (by decide)
   |ref i =>
    obtain⟨l',xs',q,⟨o,ho,hc,_⟩,_⟩:=zaq hr ha (vs:=vs) hi
    cases q
    obtain⟨o',ho',hc',_⟩:=hl;rw[ho] at ho';cases ho';rw[hc] at hc';exact absurd hc' (by decide)
   |_=>exact no hi
theorem zpw (hr:HR am sk π Hc s.heap) (ha:VR am π s.heap a x) :
  JAt am sk A (call (.type "int") [x]) (R.opt (bf .int Hc a) Hc) (VR am) π s:=by
 unfold bf
 cases a with
 |bool b=>cases ha;exact .inr (call_int_bool (OkP.tok hr ⟨_,rfl⟩))
 |_=>exact .inl rfl
theorem zgm (h:zbs vs=some bs):vs=bs.map V.bool:=by
 induction vs generalizing bs with
 |nil=>cases h;rfl
 |cons v vs ih=>cases v with
  |bool b =>
   obtain⟨r,h1,rfl⟩:=Option.map_eq_some_iff.1 h;exact congrArg (V.bool b::·) (ih h1)
  |_=>exact no h
theorem zj9 {bs:List Bool}{xs:List Value}(h:VRs am π s.heap (bs.map V.bool) xs):xs=bs.map Value.bool:=by
 induction bs generalizing xs with
 |nil=>exact h
 |cons b bs ih =>
  obtain⟨x,xs',rfl,h1,h2⟩:=h;rw[show x=Value.bool b from h1,ih h2];rfl
theorem ziH (bs:List Bool):(List.range bs.length).all (fun i=>bs.getD i false)=bs.all id:=by
 induction bs with
 |nil=>rfl
 |cons b bs ih=>simp only[length_cons,List.range_succ_eq_map,List.all_cons,all_map];rw[←ih];rfl
theorem zhf {l:Addr}{bs:List Bool}{P:Value→Shared→Prop}{E:Value→Shared→Prop}(hh:A.handled=none) (hl:s.heap.IsList l (List.toArray (bs.map Value.bool)))
  (hP:∀ I fp wr n Pr St tr,n=bs.length→tr=(fun i=>bs.getD i false)→Walks am.prog am.w A I fp wr n Pr St→(∀ s₂,s₂={ s with heap:=s.heap.push { cls:=.type "list_iterator",data:=.fields #[.ref l,.int 0 0] } }→St 0 s₂.heap)→TruthOf am.prog am.w A Pr tr→wr=[s.heap.objs.size]→I=s.heap.objs.size →
   P (.ref I) { s with heap:=s.heap.push { cls:=.type "list_iterator",data:=.fields #[.ref l,.int 0 0] } }) :
  wpAny am.M A (pyIter (.ref l)) P E s:=by
 refine wpAny_pyIter_list hl ?_;obtain⟨o,ho,_⟩:=id hl;have hne:l≠s.heap.objs.size:=Nat.ne_of_lt (Heap.lt_size ho);have W:=Walks.list (prog:=am.prog) (w:=am.w) hh s.heap.objs.size l hne (List.toArray (bs.map Value.bool));refine hP _ _ _ _ _ _ _ (by simp) rfl W ?_ ?_ rfl rfl
 ·rintro s₂ rfl
  exact⟨⟨_,Heap.get?_push_size _ rfl,rfl,rfl⟩,hl.push _⟩
 ·intro i v s' Q' E' hv hq
  simp only[List.getElem?_toArray,List.getElem?_map,Option.map_eq_some_iff] at hv;obtain⟨b,hb,rfl⟩:=hv;refine wpAny_truthy_bool ?_;have:bs.getD i false=b:=by rw[List.getD_eq_getElem?_getD,hb];rfl
  rw[←this];exact hq
theorem zpA (hh:A.handled=none) (hr:HR am sk π Hc s.heap) (ha:VR am π s.heap a x) :
  JAt am sk A (call (.builtin "all") [x]) (R.opt (bf .all Hc a) Hc) (VR am) π s:=by
 unfold bf
 cases hi:litems Hc a with
 |none=>exact .inl rfl
 |some vs =>
  cases hb:zbs vs with
  |none=>exact .inl (by simp only[Option.bind_some,hb];rfl)
  |some bs =>
   simp only[Option.bind_some,hb,Option.map_some,R.opt_some];obtain⟨l,xs,rfl,hl,hz,hv⟩:=zaq hr ha hi;rw[zgm hb] at hv;rw[zj9 hv] at hl;refine .inr (call_all_walk (zhf (A:=A.in1) hh hl fun I fp wr n Pr St tr e1 e2 W hst htr hwr hI=>⟨I,fp,wr,n,Pr,St,tr,rfl,W,hst _ rfl,htr,fun h' tk k=>?_⟩));subst e1 e2 hwr;rw[ziH];exact OkP.keeps (h':=h') (tk:=tk) hr (fun b o e=>k b o (by simp only[zK];exact Nat.ne_of_lt (Heap.lt_size e)) (Heap.get?_push_of_some _ e)) rfl
end
set_option maxRecDepth 100000
section
variable {prog:Program}{w:World}{A:Around}{E:Value→Shared→Prop}{s:Shared}
end
section
variable {am:Amb}{sk:List Env}{A:Around}{π:List Addr}{s:Shared}{Hc:H}
end
set_option maxRecDepth 100000
theorem ze7 (K:Frag):kitOne K (.type "NoneType") (.type "int")=some false:=by kernel_rfl
theorem zer (K:Frag):kitOne K (.type "NoneType") (.type "bool")=some false:=by kernel_rfl
theorem zeq (K:Frag):kitOne K (.type "NoneType") (.type "list")=some false:=by kernel_rfl
theorem zdC (K:Frag):kitOne K (.type "NoneType") (.type "tuple")=some false:=by kernel_rfl
theorem zfd (K:Frag):kitOne K (.type "bool") (.type "int")=some true:=by kernel_rfl
theorem zey (K:Frag):kitOne K (.type "bool") (.type "bool")=some true:=by kernel_rfl
theorem zex (K:Frag):kitOne K (.type "bool") (.type "list")=some false:=by kernel_rfl
theorem zdF (K:Frag):kitOne K (.type "bool") (.type "tuple")=some false:=by kernel_rfl
theorem zf4 (K:Frag):kitOne K (.type "int") (.type "int")=some true:=by kernel_rfl
theorem zfb (K:Frag):kitOne K (.type "int") (.type "bool")=some false:=by kernel_rfl
theorem zfa (K:Frag):kitOne K (.type "int") (.type "list")=some false:=by kernel_rfl
theorem zeu (K:Frag):kitOne K (.type "int") (.type "tuple")=some false:=by kernel_rfl
theorem zf3 (K:Frag):kitOne K (.type "str") (.type "int")=some false:=by kernel_rfl
theorem ze6 (K:Frag):kitOne K (.type "str") (.type "bool")=some false:=by kernel_rfl
theorem ze5 (K:Frag):kitOne K (.type "str") (.type "list")=some false:=by kernel_rfl
theorem zep (K:Frag):kitOne K (.type "str") (.type "tuple")=some false:=by kernel_rfl
theorem zeo (K:Frag):kitOne K (.type "tuple") (.type "int")=some false:=by kernel_rfl
theorem zdB (K:Frag):kitOne K (.type "tuple") (.type "bool")=some false:=by kernel_rfl
theorem zdA (K:Frag):kitOne K (.type "tuple") (.type "list")=some false:=by kernel_rfl
theorem zdi (K:Frag):kitOne K (.type "tuple") (.type "tuple")=some true:=by kernel_rfl
theorem ze8 (K:Frag):kitOne K (.type "list") (.type "int")=some false:=by kernel_rfl
theorem zet (K:Frag):kitOne K (.type "list") (.type "bool")=some false:=by kernel_rfl
theorem zes (K:Frag):kitOne K (.type "list") (.type "list")=some true:=by kernel_rfl
theorem zdD (K:Frag):kitOne K (.type "list") (.type "tuple")=some false:=by kernel_rfl
theorem zfc (K:Frag):kitOne K (.type "dict") (.type "int")=some false:=by kernel_rfl
theorem zew (K:Frag):kitOne K (.type "dict") (.type "bool")=some false:=by kernel_rfl
theorem zev (K:Frag):kitOne K (.type "dict") (.type "list")=some false:=by kernel_rfl
theorem zdE (K:Frag):kitOne K (.type "dict") (.type "tuple")=some false:=by kernel_rfl
noncomputable def tyVal:Ty→Value
 |.int=>.type "int"|.bool=>.type "bool"|.list=>.type "list"|.tuple=>.type "tuple"|.valueError=>.type "ValueError"
 |.own _=>.none
noncomputable def Ty.plain (t:Ty):Bool:=t.casesOn true true true true false fun z=>false
noncomputable def kindC:Option Cell→Option String
 |some (.list _)=>some "list"
 |some (.dict _)=>some "dict"
 |none=>Option.none
noncomputable def kindOf (Hc:H):V→Option String
 |.none=>some "NoneType"
 |.bool _=>some "bool"
 |.int _=>some "int"
 |.str _=>some "str"
 |.tup _=>some "tuple"
 |.l _=>some "list"
 |.ref i=>kindC Hc[i]?
 |_=>Option.none
theorem zeE (hc:Hc[i]?=o) (t:Ty):isTy Hc (.ref i) t=refTy o t:=congrArg (fun o=>refTy o t) hc
theorem zbe (hc:Hc[i]?=o):kindOf Hc (.ref i)=kindC o:=congrArg kindC hc
theorem ze9 (K:Frag) (ht:t.plain=true):∃ b,some (t == .list)=some b∧kitOne K (.type "list") (tyVal t)=some b:=by
 cases t<;>first|exact⟨_,rfl,ze8 K⟩|exact⟨_,rfl,zet K⟩|exact⟨_,rfl,zes K⟩|exact⟨_,rfl,zdD K⟩|cases ht
theorem zja (K:Frag) (ht:t.plain=true):∃ b,some false=some b∧kitOne K (.type "dict") (tyVal t)=some b:=by
 cases t<;>first|exact⟨_,rfl,zfc K⟩|exact⟨_,rfl,zew K⟩|exact⟨_,rfl,zev K⟩|exact⟨_,rfl,zdE K⟩|cases ht
theorem znU (K:Frag) (hk:kindOf Hc a=some k) (ht:t.plain=true):∃ b,isTy Hc a t=some b∧kitOne K (.type k) (tyVal t)=some b:=by
 cases a with
 |uu=>cases hk
 |exc c=>cases hk
 |none=>cases hk;cases t<;>first|exact⟨_,rfl,ze7 K⟩|exact⟨_,rfl,zer K⟩|exact⟨_,rfl,zeq K⟩|exact⟨_,rfl,zdC K⟩|cases ht
 |bool b=>cases hk;cases t<;>first|exact⟨_,rfl,zfd K⟩|exact⟨_,rfl,zey K⟩|exact⟨_,rfl,zex K⟩|exact⟨_,rfl,zdF K⟩|cases ht
 |int i=>cases hk;cases t<;>first|exact⟨_,rfl,zf4 K⟩|exact⟨_,rfl,zfb K⟩|exact⟨_,rfl,zfa K⟩|exact⟨_,rfl,zeu K⟩|cases ht
 |str x=>cases hk;cases t<;>first|exact⟨_,rfl,zf3 K⟩|exact⟨_,rfl,ze6 K⟩|exact⟨_,rfl,ze5 K⟩|exact⟨_,rfl,zep K⟩|cases ht
 |tup vs=>cases hk;cases t<;>first|exact⟨_,rfl,zeo K⟩|exact⟨_,rfl,zdB K⟩|exact⟨_,rfl,zdA K⟩|exact⟨_,rfl,zdi K⟩|cases ht
 |l vs=>cases hk;exact ze9 K ht
 |ref i =>
  cases hc:Hc[i]? with
  |none=>rw[zbe hc] at hk;cases hk
  |some c =>
   cases c with
   |list vs=>rw[zbe hc] at hk;cases hk;rw[zeE hc];exact ze9 K ht
   |dict es=>rw[zbe hc] at hk;cases hk;rw[zeE hc];exact zja K ht
section
variable {am:Amb}{sk:List Env}{A:Around}{π:List Addr}{s:Shared}{Hc:H}
set_option tactic.hygienic true in
theorem znT (hr:HR am sk π Hc s.heap) (ha:VR am π s.heap a x) (hne:kindOf Hc a≠Option.none):∃ k P,kindOf Hc a=some k∧KitX am.K x (.type k) P∧P s.heap∧x≠.builtin "__main__.__loader__#opaque":=by
 cases a<;>first|exact False.elim ha|skip
 ·cases ha;exact⟨_,_,rfl,kitx_none,trivial,by simp⟩
 ·cases ha;exact⟨_,_,rfl,kitx_bool,trivial,by simp⟩
 ·obtain⟨t,rfl⟩:=ha;exact⟨_,_,rfl,kitx_int,trivial,by simp⟩
 ·obtain⟨t,rfl⟩:=ha;exact⟨_,_,rfl,kitx_str,trivial,by simp⟩
 ·obtain⟨l,xs,rfl,_,⟨o,ho,hc,_⟩,_⟩:=ha;exact⟨_,_,rfl,kitx_tuple,⟨o,ho,hc⟩,by simp⟩
 ·obtain⟨l,xs,rfl,_,⟨o,ho,hc,_⟩,_⟩:=ha;exact⟨_,_,rfl,kitx_list,⟨o,ho,hc⟩,by simp⟩
 ·rename_i i
  obtain⟨l,rfl,hl⟩:=ha
  cases hc:Hc[i]? with
  |none=>exact absurd (zbe hc) hne
  |some c =>
   cases c with
   |list vs =>
    refine hold fun z k_=>?_;obtain⟨xs,⟨o,n,ho,hcl,_⟩,_⟩:=(hr.cell i _ l hc hl).list;refine k_ ?_;exact⟨"list",_,zbe hc,kitx_list,⟨o,ho,hcl⟩,by simp⟩
   |dict es =>
    obtain⟨o,xs,ho,⟨_,arr,ep,hcl,_⟩,_⟩:=hr.cell i _ l hc hl;exact⟨"dict",_,zbe hc,kitx_dict,⟨o,ho,hcl⟩,by simp⟩
theorem zjk (h:isTy Hc a t=some b):kindOf Hc a≠Option.none:=by
 cases a with
 |uu=>cases h
 |exc c=>cases h
 |ref i =>
  cases hc:Hc[i]? with
  |none=>rw[zeE hc] at h;cases h
  |some c=>rw[zbe hc];cases c<;>exact Option.some_ne_none _
 |_=>exact Option.some_ne_none _
theorem zpu (hK:Frag.In am.K am.B) (hr:HR am sk π Hc s.heap) (ha:VR am π s.heap a x) (ht:t.plain=true) :
  JAt am sk A (call (.builtin "isinstance") [x,tyVal t]) (R.opt ((isTys Hc a [t]).map V.bool) Hc) (VR am) π s:=by
 cases hb:isTy Hc a t with
 |none=>exact .inl (by simp only[isTys,hb];rfl)
 |some b =>
  refine hold fun z k_=>?_;obtain⟨k,P,hk,Z,p,hx⟩:=znT hr ha (zjk hb);refine k_ ?_;obtain⟨b',h1,h2⟩:=znU am.K hk ht;rw[hb] at h1;cases h1
  have e:isTys Hc a [t]=some b:=by simp only[isTys,hb];cases b<;>rfl
  rw[e];exact .inr (kia_one Z (hK.keeps hr.base) p h2 hx fun tk=>OkP.tok hr rfl)
theorem zg2 (n:Nat) (i:Int):clipAt n i=cut n i:=by
 unfold clipAt cut
 by_cases hi:i < 0
 ·have le:i+n≤n:=by
   have:=Int.add_le_add_right (Int.le_of_lt hi) (n:Int)
   rwa [Int.zero_add] at this
  rw[zT hi,zT hi,Int.min_eq_left le]
  rcases Int.le_total 0 (i+n) with h|h
  ·rw[Int.max_eq_right h]
  ·rw[Int.max_eq_left h];exact(Int.toNat_of_nonpos h).symm
 ·rw[zR hi,zR hi]
  obtain⟨k,rfl⟩:=Int.eq_ofNat_of_zero_le (Int.not_lt.1 hi)
  rcases Nat.le_total k n with h|h
  ·rw[Int.min_eq_left (Int.ofNat_le.2 h),Int.max_eq_right (Int.natCast_nonneg k),Int.toNat_natCast,Nat.min_eq_left h]
  ·rw[Int.min_eq_right (Int.ofNat_le.2 h),Int.max_eq_right (Int.natCast_nonneg n),Int.toNat_natCast,Int.toNat_natCast,Nat.min_eq_right h]
theorem zhl (xs:List Value) (lo hi:Option Int):slicePick (List.toArray xs) lo hi none=List.toArray (slc xs lo hi):=by
 rw[slicePick_plain];unfold slc;simp only[size_toArray];have e1:(lo.elim 0 (clipAt xs.length))=(match lo with|some i=>cut xs.length i|none=>0):=by cases lo<;>simp[zg2]
 have e2:(hi.elim xs.length (clipAt xs.length))=(match hi with|some i=>cut xs.length i|none=>xs.length):=by cases hi<;>simp[zg2]
 rw[e1,e2]
 congr 1
 first|(rw[List.drop_take];done)|(rw[List.drop_take];rfl)
theorem VRs.slc (lo hi:Option Int) (e:VRs am π h vs xs):VRs am π h (Mine.slc vs lo hi) (Mine.slc xs lo hi):=by
 unfold Mine.slc;rw[e.len];exact(e.take _).drop _
theorem znb {α:Type}(xs:List α) (lo hi:Option Int):(slc xs lo hi).length≤xs.length:=by
 unfold slc;rw[length_drop,length_take];exact zX (Nat.sub_le ..) (Nat.min_le_right ..)
theorem zkn {value slice:Expr}{a:V}{x:Value}{vs:List V}{lo hi:Option Int}{vl vu:Value}{Q:Value→Shared→Prop}{E:Value→Shared→Prop}(hr:HR am sk π Hc s.heap) (ha:VR am π s.heap a x) (hi':litems Hc a=some vs) (pl:IsPart vl lo) (pu:IsPart vu hi)
  (h:∀ y s1 s',Step (Fs sk) π s π s1→HR am sk π Hc s1.heap→(slc vs lo hi).length≤1000000→NewL am π s1 (slc vs lo hi) y s'→Q y s') :
  wpAny am.M A (newFields "slice" [vl,vu,.none]) (fun i s₁=>wpAny am.M A (subscriptTail value slice x i) Q E s₁) E s:=by
 refine hold fun z k_=>?_;obtain⟨l,xs,rfl,hl,hz,hv⟩:=zaq hr ha hi';refine k_ ?_;have e:=hv.len;unfold newFields;refine wpAny_newObj_type ?_;have k:∀ b o,s.heap.get? b=some o→(s.heap.push { cls:=.type "slice",data:=.fields #[vl,vu,.none] }).get? b=some o:=fun b o q=>Heap.get?_push_of_some _ q;refine zbO (s:={ s with heap:=s.heap.push { cls:=.type "slice",data:=.fields #[vl,vu,.none] } }) (hl.push _).typeIs list_getitem_lookup
  (wpAny_getItem_list_slice (hl.push _) (Heap.IsSliceOf.new ..) pl pu .none (by simp) ?_ (by rw[size_toArray,e];exact zaw hz))
 rw[zhl];have n:=NewL.push (am:=am) (π:=π) (s:={ s with heap:=s.heap.push { cls:=.type "slice",data:=.fields #[vl,vu,.none] } }) (o:={ cls:=.type "list",data:=.seq (List.toArray (slc xs lo hi)) }) (n:=0) (tk:=s.toks) ((hv.slc lo hi).keeps k) rfl rfl rfl
 exact h _ _ _ (Step.keeps (tk:=s.toks) k) (hr.keeps k) (zX (znb _ _ _) hz) n
end
end Mine
namespace Mine
open PySem PySem.W
noncomputable def Amb.at (am:Amb) (res:List Addr):Amb:={ am with res:=res }
noncomputable def btOk:Value→Bool
 |.builtin _=>true
 |.type _=>true
 |_=>false
theorem zqr:bTab.all (fun p=>btOk p.2)=true:=by kernel_rfl
theorem zlO (h:btOk v=true):(∃ id,v=.builtin id)∨∃ T,v=.type T:=by
 cases v<;>first|exact .inl ⟨_,rfl⟩|exact .inr ⟨_,rfl⟩|exact noB h
theorem zoy (h:(x,v)∈bTab):(∃ id,v=.builtin id)∨∃ T,v=.type T:=zlO (List.all_eq_true.mp zqr _ h)
theorem zcx (h:bTab.contains (x,v)=true):(x,v)∈bTab:=List.contains_iff_mem.mp h
structure ExcCls (am:Amb) (c:String) (C:Addr):Prop where
 name:am.mg (Str.ofString c)=some (.ref C)
 get:findIn am.K (.ref C) "__getattribute__"=some (some (.builtin "BaseException.__getattribute__"))∧findIn am.K (.ref C) "__getattr__"=some none
 cls:(clsIn am.K C).isSome=true
 find:findIn am.K (.ref C) "__class__"=some (some (.builtin "object.__class__"))
 spec:specialIn am.K (.builtin "object.__class__") "__get__"=some (some (.builtin "getset_descriptor.__get__"))
 takes:takesIn am.K (.builtin "object.__class__")=some true
 mro:mroIn am.K C (.type "object")=some true
 val:kitOne am.K (.ref C) (.type "ValueError")=some true
def zcp (B:Heap) (C:Addr):Prop:=∃ nm q N bs bm hdct sn sub ab col dd k0 k1 k2 k3 k5 mN,
 B.get? C=some (excClassObj nm q C N bs bm hdct sn sub ab col dd k0 k1 k2 k3 k5 "ValueError.__new__")∧B.Ns N mN∧(∀ n∈quietNames,mN n=none) ∧
  OwnTailQ B [.type "ValueError",.type "Exception",.type "BaseException",.type "object"] bm
structure AmbX (am:Amb):Prop extends AmbOK am where
 K:Frag.In am.K am.B
 bt:∀ p∈bTab,am.mg p.1=none∧am.mb p.1=some p.2
 exc:∀ c∈zad,∃ C,ExcCls am c C
 sub:∀ c∈zad,∀ d∈zad,∀ C D,am.mg (Str.ofString c)=some (.ref C)→am.mg (Str.ofString d)=some (.ref D)→kitOne am.K (.ref C) (.ref D)=some (c == d||d == "RingError")
 exm:∀ c∈zad,∀ C D,am.mg (Str.ofString c)=some (.ref C)→am.mg (Str.ofString "RingError")=some (.ref D)→exmOne am.K (.ref C) (.ref D)=some true
 rs:∀ c∈zad,∀ C,am.mg (Str.ofString c)=some (.ref C)→zcp am.B C
theorem AmbX.at (x:AmbX am) (res:List Addr):AmbX (am.at res):=⟨⟨x.g,x.b,x.nolimit,x.noseer,x.tree⟩,x.K,x.bt,fun c hc=>let ⟨C,e⟩:=x.exc c hc;⟨C,e.name,e.get,e.cls,e.find,e.spec,e.takes,e.mro,e.val⟩,x.sub,x.exm,x.rs⟩
def FunAt (am:Amb) (f:String) (a:Addr):Prop:=am.mg (Str.ofString f)=some (.ref a)∧∃ o fd,am.B.get? a=some o∧o.data=.func fd
structure CkR (am:Amb) (c:Ck) (cx:Cx):Prop where
 ctx:cx.ctx=c.ctx
 names:cx.env.scope.names=c.names
 fns:∀ f∈c.fns,∃ a,FunAt am f a
 nums:∀ p∈c.nums,∃ t,am.mg (Str.ofString p.1)=some (.int p.2 t)
noncomputable def ArgR (am:Amb) (q:Bool) (π:List Addr) (h:Heap) (vs:List V) (xs:List Value):Prop :=
 VRs am π h vs xs∨(q=false∧∃ c a,vs=[.exc c]∧xs=[.ref a]∧a ∉ π∧ExcAt am h c a)
structure FnOK (am:Amb) (n:Nat) (F:Fn):Prop where
 call:∀ res q f a vs xs sk A π Hc s,FunAt am f a→AS n sk A→HR (am.at res) sk π Hc s.heap→Hd q A π (Fs sk) s.heap→ArgR (am.at res) q π s.heap vs xs →
  JAt (am.at res) sk A (PySem.call (.ref a) xs []) (F q f vs Hc) (VR (am.at res)) π s
structure Base (am:Amb) (n:Nat) (q:Bool) (F:Fn) (c:Ck) (cx:Cx) (ρ:List V) (A:Around):Prop where
 ok:AmbX am
 fn:FnOK am n F
 ck:CkR am c cx
 cxk:CxOK cx
 as:AS n cx.sk A
 ne:q=true→NoExc ρ
section
variable {am:Amb}{n:Nat}{q:Bool}{F:Fn}{c:Ck}{cx:Cx}{ρ:List V}{A:Around}{res π:List Addr}{Hc:H}{s:Shared}
theorem zbT {B h:Heap}(k:B.StaysIn h){a:Addr}{m:Str→Option Value}(hn:B.Ns a m):h.Ns a m:=let ⟨o,es,ep,ho,r⟩:=hn;⟨o,es,ep,k a o ho,r⟩
theorem HR.gns {am:Amb}{sk:List Env}(ok:AmbX am) (hr:HR (am.at res) sk π Hc s.heap):s.heap.Ns mainGlobals am.mg:=zbT hr.base ok.g
theorem HR.bns {am:Amb}{sk:List Env}(ok:AmbX am) (hr:HR (am.at res) sk π Hc s.heap):s.heap.Ns builtinsNs am.mb:=zbT hr.base ok.b
theorem zdj (b:CkR am c cx) (x:Str):cx.env.kindOf x=c.names.lookup x:=by unfold Env.kindOf;rw[b.names]
theorem zb9 (b:Base am n q F c cx ρ A) (hr:HR (am.at res) cx.sk π Hc s.heap){Q:Value→Shared→Prop}{E:Value→Shared→Prop}(hx:c.glob x=true) (hv:am.mg x=some v) (h:Q v s) :
  wpAny am.M A (eval (.Name x p) cx.env) Q E s:=by
 unfold Ck.glob at hx;simp only[Bool.and_eq_true,beq_iff_eq,Bool.not_eq_true'] at hx;refine Calls.Name_function_global b.cxk.kind (by rw[zdj b.ck];exact hx.1) (Calls.loadGlobal_global (mg:=am.mg) ?_ hv h) hx.2
 rw[b.cxk.globals];exact HR.gns b.ok hr
theorem zmO (b:Base am n q F c cx ρ A) (hr:HR (am.at res) cx.sk π Hc s.heap){Q:Value→Shared→Prop}{E:Value→Shared→Prop}(hx:c.glob x=true) (hv:(x,v)∈bTab) (h:Q v s) :
  wpAny am.M A (eval (.Name x p) cx.env) Q E s:=by
 unfold Ck.glob at hx;simp only[Bool.and_eq_true,beq_iff_eq,Bool.not_eq_true'] at hx;obtain⟨h1,h2⟩:=b.ok.bt _ hv;refine Calls.Name_function_global b.cxk.kind (by rw[zdj b.ck];exact hx.1) (Calls.loadGlobal_builtin (mg:=am.mg) (mb:=am.mb) ?_ h1 ?_ h2 h) hx.2
 ·rw[b.cxk.globals];exact HR.gns b.ok hr
 ·rw[b.cxk.builtins];exact HR.bns b.ok hr
theorem zhZ (b:Base am n q F c cx ρ A) (st:St (am.at res) q cx ρ π Hc A s){Q:Value→Shared→Prop}{E:Value→Shared→Prop}(hx:c.var x i=true) (hv:ρ[i]?=some v) (hu:v≠.uu)
  (h:∀ v',SR (am.at res) π s.heap v v'→Q v' s):wpAny am.M A (eval (.Name x p) cx.env) Q E s:=by
 unfold Ck.var at hx;simp only[Bool.and_eq_true,beq_iff_eq,Bool.not_eq_true'] at hx;refine hold fun z k_=>?_;obtain⟨⟨⟨h1,h2⟩,h3⟩,h4⟩:=hx;refine k_ ?_;have hvis:Vis cx.env x:=by
  unfold Vis;rw[zdj b.ck];unfold zfz at h2;simp only[Bool.or_eq_true,beq_iff_eq] at h2
  rcases h2 with(h2|h2)|h2<;>simp[h2]
 obtain⟨v',h5,h6⟩:=st.er.var x i v (by rw[b.ck.ctx];exact h1) hv hu hvis
 refine wpAny_Name ?_ h3
 rcases h5 with⟨k,m,h7,h8⟩|⟨k,cc,h7,h8⟩
 ·exact wpAny_loadName_local b.cxk.kind k h7 h8 (h v' h6)
 ·rcases k with k|k
  ·exact wpAny_loadName_cell b.cxk.kind k h7 h8 (h v' h6)
  ·exact wpAny_loadName_free b.cxk.kind k h7 h8 (h v' h6) h4
theorem zp5 (b:Base am n q F c cx ρ A) (st:St (am.at res) q cx ρ π Hc A s) (hx:c.var x i=true) :
  JAt (am.at res) cx.sk A (eval (.Name x p) cx.env) (evE q F ρ (.v i) Hc) (VR (am.at res)) π s:=by
 simp -iota only[zrI]
 cases hv:ρ[i]? with
 |none=>exact .inl rfl
 |some v =>
  have go:(∀ c,v≠.exc c)→v≠.uu→JAt (am.at res) cx.sk A (eval (.Name x p) cx.env) (.ok v Hc) (VR (am.at res)) π s :=
   fun h1 h2=>.inr (zhZ b st hx hv h2 fun v' h=>OkP.here st.hr (h.vr h1))
  cases v with
  |uu=>exact .inl rfl
  |exc c=>exact .inl rfl
  |_=>exact go (by simp) (by simp)
noncomputable def tr (r:R V):R Bool:=r.bind fun x h=>match truthy x with
 |some b=>.ok b h
 |none=>.bad
def BR (_:List Addr) (_:Heap) (b:Bool) (a:Bool):Prop:=b=a
theorem zcP {am:Amb}{sk:List Env}{x:Value}{v:V}(hr:HR am sk π Hc s.heap) (hv:VR am π s.heap v x) :
  JAt am sk A (PySem.truthy x) ((match truthy v with|some b=>R.ok b Hc|none=>R.bad)) BR π s:=by
 cases v with
 |bool b=>cases hv;exact .inr (wpAny_truthy_bool (OkP.here hr rfl))
 |_=>exact .inl rfl
theorem zds {α:Type}(r:R α) (f:α→H→R V):tr (r.bind f)=r.bind fun a h=>tr (f a h):=by cases r<;>rfl
theorem zid {α:Type}(r:R V) (f:Bool→H→R α):(tr r).bind f=r.bind fun x h=>match truthy x with
 |some b=>f b h
 |none=>.bad:=by
 cases r with
 |ok v h=>simp only[tr,R.bind];cases truthy v<;>rfl
 |_=>rfl
end
end Mine
namespace Mine
open PySem PySem.W PyProof.Rows
section
variable {am:Amb}{sk:List Env}{A:Around}{α β γ δ:Type}{Rel:List Addr→Heap→β→α→Prop}{Rel':List Addr→Heap→δ→γ→Prop}{π:List Addr}{s:Shared}
theorem JAt.seqP {m:Sem α}{t:Sem γ}{f:α→Sem γ}{r:R β}{g:β→H→R δ}{P:α→Shared→Prop}
  (K:∀ (Q:γ→Shared→Prop) (E:Value→Shared→Prop),wpAny am.M A m (fun a s₁=>P a s₁∧wpAny am.M A (f a) Q E s₁) E s→wpAny am.M A t Q E s) (h1:JAt am sk A m r Rel π s)
  (h2:∀ a b H' π' s',r=.ok b H'→Step (Fs sk) π s π' s'→HR am sk π' H' s'.heap→Rel π' s'.heap b a→P a s'∧JAt am sk A (f a) (g b H') Rel' π' s') :
  JAt am sk A t (r.bind g) Rel' π s:=by
 rcases h1 with rfl|h1
 ·exact .inl rfl
 ·cases r with
  |bad=>exact .inl rfl
  |err c H' =>
   refine .inr (K _ _ (yV h1 (fun a s' h=>?_) fun e s' h=>?_))
   ·obtain⟨_,_,_,h,_⟩:=h;cases h
   ·refine hold fun z k_=>?_
    obtain⟨c',H'',π',e',C,fl,h,r2,r3,r4,r5,r6⟩:=h;refine k_ ?_
    cases h
    exact⟨c,H',π',e',C,fl,rfl,r2,r3,r4,r5,r6⟩
  |ok b H' =>
   by_cases hb:g b H'=.bad
   ·exact .inl hb
   ·refine .inr (K _ _ (yV h1 (fun a s' h=>?_) fun e s' h=>?_))
    ·refine hold fun z k_=>?_
     obtain⟨b',H'',π',h,h3,h4,h5⟩:=h;refine k_ ?_
     cases h
     obtain⟨hp,h2⟩:=h2 a b H' π' s' rfl h3 h4 h5
     rcases h2 with h6|h6
     ·exact absurd h6 hb
     ·exact⟨hp,yV h6 (fun z z y=>OkP.step h3 y) fun z z y=>ErP.step h3 y⟩
    ·obtain⟨_,_,_,_,_,_,h,_⟩:=h;cases h
end
section
variable (am:Amb) (n:Nat) (q:Bool) (F:Fn) (c:Ck)
def EJ (e:PE) (ex:Expr):Prop:=∀ {cx:Cx}{ρ:List V}{A:Around}{res π:List Addr}{Hc:H}{s:Shared},Base am n q F c cx ρ A→St (am.at res) q cx ρ π Hc A s →
 JAt (am.at res) cx.sk A (eval ex cx.env) (evE q F ρ e Hc) (VR (am.at res)) π s
def TJ (e:PE) (ex:Expr):Prop:=∀ {cx:Cx}{ρ:List V}{A:Around}{res π:List Addr}{Hc:H}{s:Shared},Base am n q F c cx ρ A→St (am.at res) q cx ρ π Hc A s →
 JAt (am.at res) cx.sk A (isTrue ex cx.env (eval ex cx.env)) (tr (evE q F ρ e Hc)) BR π s
def AllJ:List PE→List Expr→Prop
 |[],[]=>True
 |e::es,x::xs=>(isStar x=false∧EJ am n q F c e x∧TJ am n q F c e x)∧AllJ es xs
 |_,_=>False
end
noncomputable def zbR (e:Expr):Bool:=@Expr.casesOn (fun z=>Bool) e (fun z z z=>false) (fun z z z=>true) (fun z z z z=>true) (fun o z z=>decide (o≠.Not)) (fun z z z z=>true) (fun z z z z=>false) (fun z z z=>true) (fun z z z=>true) (fun z z z z=>true) (fun z z z z=>true) (fun z z z z z=>true) (fun z z z z=>true) (fun z z=>true) (fun z z=>true) (fun z z=>true) (fun z z z z=>false) (fun z z z z=>true) (fun z z z z=>true) (fun z z=>true) (fun z z z=>true) (fun z z z=>true) (fun z z z=>true) (fun z z=>true) (fun z z=>true) (fun z z=>true) (fun z z z=>true) (fun z z z z=>true)
set_option tactic.hygienic true in
theorem zfg (h:zbR ex=true) (env:Env) (whole:Sem Value):isTrue ex env whole=(do let v ← whole;standAt ex.pos;holding [v] (PySem.truthy v)):=by
 cases ex<;>first|rfl|exact noB h|skip
 rename_i op x pos
 cases op<;>first|rfl|exact noB h
section
variable {am:Amb}{n:Nat}{q:Bool}{F:Fn}{c:Ck}
theorem EJ.test (h:EJ am n q F c e ex) (hp:zbR ex=true):TJ am n q F c e ex:=by
 intro cx ρ A res π Hc s b st;refine JAt.congr (zfg hp _ _) rfl ?_;unfold tr;refine JAt.bind (h b st) fun x v H1 π1 s1 z hs1 hr1 hv1=>JAt.standAt (JAt.holding (zcP hr1 hv1))
theorem zqt (h:bopIs op o=true):o=bopM op:=(zV h).symm
theorem zdX (h:copIs op o=true):o=copM op:=(zV h).symm
theorem zog:EJ am n q F c .none (.Constant .none k p):=fun z st=>by
 rw[zr1];exact .inr (wpAny_Constant_none (OkP.here st.hr rfl))
theorem zok:EJ am n q F c (.bool b) (.Constant (.bool b) k p):=fun z st=>by
 rw[zr0];exact .inr (wpAny_Constant_bool (OkP.here st.hr rfl))
theorem zmy:EJ am n q F c (.int i) (.Constant (.int i) k p):=fun z st=>by
 rw[zrK];exact .inr (wpAny_Constant_int (OkP.tok st.hr ⟨_,rfl⟩))
theorem zqa:EJ am n q F c (.str t) (.Constant (.str (Str.ofString t)) k p):=fun z st=>by
 rw[zrJ];exact .inr (wpAny_Constant_str (OkP.tok st.hr ⟨_,rfl⟩))
theorem zp8 (h:c.var x i=true):EJ am n q F c (.v i) (.Name x p):=fun b st=>zp5 b st h
theorem zoh (h:c.glob (Str.ofString g)=true) (hm:(g,i)∈c.nums):EJ am n q F c (.glob g i) (.Name (Str.ofString g) p):=fun b st=>by
 simp -iota only[zrZ];obtain⟨t,ht⟩:=b.ck.nums _ hm;exact .inr (zb9 b st.hr h ht (OkP.here st.hr ⟨t,rfl⟩))
theorem zqd {i:Int}{k:Nat}{p p':Pos}:EJ am n q F c (.neg i) (.UnaryOp .USub (.Constant (.int i) k p) p'):=fun {cx ρ A res π Hc s} b st=>by
 simp -iota only[zrY];refine .inr (wpAny_UnaryOp (wpAny_Constant_int ?_));exact neg_int (OkP.step (Step.tok _) (OkP.tok (st.hr.keeps fun z z e=>e) ⟨_,rfl⟩))
theorem zqh {op:Bop}{o:Operator}{a b:PE}{l r:Expr}{p:Pos}(ho:bopIs op o=true) (ha:EJ am n q F c a l) (hb:EJ am n q F c b r):EJ am n q F c (.bin op a b) (.BinOp l o r p):=fun {cx ρ A res π Hc s} B st=>by
 rw[zqt ho];simp -iota only[zhq];refine JAt.congr (arm_eval_BinOp ..) rfl (JAt.bind (ha B st) fun x v H1 π1 s1 z hs1 hr1 hv1=>?_);refine JAt.bind (JAt.holding (hb B (st.step hs1 hr1))) fun y w H2 π2 s2 z hs2 hr2 hv2=>?_;exact JAt.standAt (JAt.operate (zpz (B.ok.at res).toAmbOK B.cxk.stackOK B.as hr2 (hv1.step hs2) hv2))
theorem zqc (ha:EJ am n q F c a x):EJ am n q F c (.not a) (.UnaryOp .Not x p):=fun {cx ρ A res π Hc s} B st=>by
 simp -iota only[zq1];refine JAt.congr (arm_eval_UnaryOp ..) rfl (JAt.bind (ha B st) fun x v H1 π1 s1 z hs1 hr1 hv1=>?_);exact JAt.standAt (JAt.holding (zpr hr1 hv1))
theorem zoR (ha:TJ am n q F c a x):TJ am n q F c (.not a) (.UnaryOp .Not x p):=fun {cx ρ A res π Hc s} B st=>by
 have e:tr (evE q F ρ (.not a) Hc)=(tr (evE q F ρ a Hc)).bind fun b h=>.ok (!b) h:=by
  simp -iota only[zq1,tr]
  cases evE q F ρ a Hc with
  |ok v h=>simp only[R.bind_ok];cases truthy v<;>rfl
  |_=>rfl
 rw[e];refine JAt.congr (arm_isTrue_UnaryOp ..) rfl (JAt.bind (ha B st) fun x v H1 π1 s1 z hs1 hr1 hv1=>?_);exact JAt.pure hr1 (congrArg _ hv1)
theorem zcG (h:isSet r=false) (t:Sem Value):markedBehindIn op r t=t:=by
 have:behindInMarks op r=false:=by cases r<;>first|rfl|exact noB h.symm
 unfold markedBehindIn;rw[this]
theorem zqg {op:Cop}{o:CmpOp}{a b:PE}{l r:Expr}{p:Pos}(ho:copIs op o=true) (hs:isSet r=false) (ha:EJ am n q F c a l) (hb:EJ am n q F c b r):EJ am n q F c (.cmp op a b) (.Compare l [o] [r] p):=fun {cx ρ A res π Hc s} B st=>by
 rw[zdX ho];simp -iota only[zbQ];refine JAt.congr (eval_Compare1 ..) rfl (JAt.bind (ha B st) fun x v H1 π1 s1 z hs1 hr1 hv1=>?_);rw[zcG hs];refine JAt.bind (JAt.holding (hb B (st.step hs1 hr1))) fun y w H2 π2 s2 z hs2 hr2 hv2=>?_;exact JAt.standAt (JAt.operate (zdR B.as hr2 (hv1.step hs2) hv2))
theorem zoS {op:Cop}{o:CmpOp}{a b:PE}{l r:Expr}{p:Pos}(ho:copIs op o=true) (hs:isSet r=false) (ha:EJ am n q F c a l) (hb:EJ am n q F c b r):TJ am n q F c (.cmp op a b) (.Compare l [o] [r] p):=fun {cx ρ A res π Hc s} B st=>by
 rw[zdX ho];simp -iota only[zbQ,zds];refine JAt.congr (isTrue_Compare1 ..) rfl (JAt.bind (ha B st) fun x v H1 π1 s1 z hs1 hr1 hv1=>?_);rw[zcG hs];refine JAt.bind (JAt.holding (hb B (st.step hs1 hr1))) fun y w H2 π2 s2 z hs2 hr2 hv2=>?_;refine JAt.standAt ?_;unfold tr;exact JAt.bind (JAt.operate (zdR B.as hr2 (hv1.step hs2) hv2)) fun x v H3 π3 s3 z hs3 hr3 hv3=>JAt.holding (zcP hr3 hv3)
theorem JAt.release {am:Amb}{sk:List Env}{A:Around}{α β:Type}{Rel:List Addr→Heap→β→α→Prop}{π:List Addr}{s:Shared}{vs keep:List Value}{f:Unit→Sem α}{r:R β}(h:JAt am sk A (f ()) r Rel π s):JAt am sk A (PySem.release vs keep >>= f) r Rel π s :=
 h.rule fun z z x=>yX (zdO x)
theorem zoi {op1 op2:Cop}{o1 o2:CmpOp}{a b d:PE}{l r1 r2:Expr}{p:Pos}(ho1:copIs op1 o1=true) (ho2:copIs op2 o2=true) (hs:isSet r2=false) (ha:EJ am n q F c a l) (hb:EJ am n q F c b r1) (hd:EJ am n q F c d r2) :
  EJ am n q F c (.cmp2 op1 op2 a b d) (.Compare l [o1,o2] [r1,r2] p):=fun {cx ρ A res π Hc s} B st=>by
 rw[zdX ho1,zdX ho2];simp -iota only[znt];refine JAt.congr (arm_eval_Compare ..) rfl (JAt.bind (ha B st) fun x v H1 π1 s1 m hs1 hr1 hv1=>?_);have st1:=st.step hs1 hr1;show JAt _ _ _ (compareChain p x [copM op1,copM op2] [eval r1 cx.env,markedBehindIn (copM op2) r2 (eval r2 cx.env)]) _ _ _ _;rw[zcG hs];refine JAt.bind (JAt.holding (hb B st1)) fun y w H2 π2 s2 m hs2 hr2 hv2=>JAt.standAt ?_;have st2:=st1.step hs2 hr2
 have hv1':=hv1.step hs2;have e:∀ (k:H→R V),(match pyCmp op1 H2 v w with|some true=>k H2|some false=>.ok (.bool false) H2|none=>.bad)=(R.opt ((pyCmp op1 H2 v w).map V.bool) H2).bind fun x h=>match truthy x with|some true=>k h|some false=>.ok (.bool false) h|none=>.bad:=by
  intro k
  cases pyCmp op1 H2 v w with
  |none=>rfl
  |some b=>cases b<;>rfl
 refine JAt.congr rfl (e fun h=>(evE q F ρ d h).bind fun z h=>R.opt ((pyCmp op2 h w z).map V.bool) h) ?_;refine JAt.bind (JAt.holding (zdR B.as hr2 hv1' hv2)) fun z u H3 π3 s3 m hs3 hr3 hv3=>JAt.release ?_;have st3:=st2.step hs3 hr3
 cases u with
 |bool t =>
  cases hv3
  refine JAt.rule (fun Q E h=>yX (yU (wpAny_truthy_bool h))) ?_
  cases t with
  |false=>exact JAt.pure hr3 rfl
  |true =>
   refine JAt.bind (JAt.holding (hd B st3)) fun y' w' H4 π4 s4 m hs4 hr4 hv4=>?_;exact JAt.standAt (JAt.operate (zdR B.as hr4 ((hv2.step hs3).step hs4) hv4))
 |_=>exact .inl rfl
theorem zm1 {op1 op2:Cop}{o1 o2:CmpOp}{a b d:PE}{l r1 r2:Expr}{p:Pos}(ho1:copIs op1 o1=true) (ho2:copIs op2 o2=true) (hs:isSet r2=false) (ha:EJ am n q F c a l) (hb:EJ am n q F c b r1) (hd:EJ am n q F c d r2) :
  TJ am n q F c (.cmp2 op1 op2 a b d) (.Compare l [o1,o2] [r1,r2] p):=fun {cx ρ A res π Hc s} B st=>by
 rw[zdX ho1,zdX ho2];simp -iota only[znt,zds];refine JAt.congr (arm_isTrue_Compare ..) rfl (JAt.bind (ha B st) fun x v H1 π1 s1 m hs1 hr1 hv1=>?_);have st1:=st.step hs1 hr1;show JAt _ _ _ (testChain p x [copM op1,copM op2] [eval r1 cx.env,markedBehindIn (copM op2) r2 (eval r2 cx.env)]) _ _ _ _;rw[zcG hs];refine JAt.bind (JAt.holding (hb B st1)) fun y w H2 π2 s2 m hs2 hr2 hv2=>JAt.standAt ?_;have st2:=st1.step hs2 hr2
 have hv1':=hv1.step hs2;have e:∀ (k:H→R V),tr (match pyCmp op1 H2 v w with|some true=>k H2|some false=>.ok (.bool false) H2|none=>.bad)=(R.opt ((pyCmp op1 H2 v w).map V.bool) H2).bind fun x h=>match truthy x with|some true=>tr (k h)|some false=>.ok false h|none=>.bad:=by
  intro k
  cases pyCmp op1 H2 v w with
  |none=>rfl
  |some b=>cases b<;>rfl
 refine JAt.congr rfl (e fun h=>(evE q F ρ d h).bind fun z h=>R.opt ((pyCmp op2 h w z).map V.bool) h) ?_;refine JAt.bind (JAt.holding (zdR B.as hr2 hv1' hv2)) fun z u H3 π3 s3 m hs3 hr3 hv3=>JAt.release ?_;have st3:=st2.step hs3 hr3
 cases u with
 |bool t =>
  cases hv3
  refine JAt.rule (fun Q E h=>yX (yU (wpAny_truthy_bool h))) ?_
  cases t with
  |false=>exact JAt.pure hr3 rfl
  |true =>
   simp only[Mine.truthy,zds];refine JAt.bind (JAt.holding (hd B st3)) fun y' w' H4 π4 s4 m hs4 hr4 hv4=>?_;refine JAt.standAt ?_;unfold tr;exact JAt.bind (JAt.operate (zdR B.as hr4 ((hv2.step hs3).step hs4) hv4)) fun x v H5 π5 s5 m hs5 hr5 hv5=>JAt.holding (zcP hr5 hv5)
 |_=>exact .inl rfl
end
abbrev PT (γ:Type):=(γ→Shared→Prop)→(Value→Shared→Prop)→Shared→Prop
def PT.Mono {γ:Type}(T:PT γ):Prop:=∀ Q Q' E E' s,(∀ a s,Q a s→Q' a s)→(∀ e s,E e s→E' e s)→T Q E s→T Q' E' s
noncomputable def JT (am:Amb) (sk:List Env){α β:Type}(T:PT α) (r:R β) (Rel:List Addr→Heap→β→α→Prop) (π:List Addr) (s:Shared):Prop :=
 r=.bad∨T (OkP am sk Rel π s r) (ErP am sk π s r) s
section
variable {am:Amb}{sk:List Env}{A:Around}{α β γ δ:Type}{Rel:List Addr→Heap→β→α→Prop}{Rel':List Addr→Heap→δ→γ→Prop}{π:List Addr}{s:Shared}
theorem PT.wp (M:Model) (m:Sem α):PT.Mono (fun Q E s=>wpAny M A m Q E s):=fun z z z z z h1 h2 h=>yV h h1 h2
theorem PT.seq (M:Model) (m:Sem α){T:α→PT γ}(hT:∀ a,PT.Mono (T a)):PT.Mono (fun Q E s=>wpAny M A m (fun a s₁=>T a Q E s₁) E s) :=
 fun Q Q' E E' z h1 h2 h=>yV h (fun a s₁ x=>hT a Q Q' E E' s₁ h1 h2 x) h2
theorem JT.bind {m:Sem α}{T:α→PT γ}(hT:∀ a,PT.Mono (T a)){r:R β}{g:β→H→R δ}(h1:JAt am sk A m r Rel π s)
  (h2:∀ a b H' π' s',r=.ok b H'→Step (Fs sk) π s π' s'→HR am sk π' H' s'.heap→Rel π' s'.heap b a→JT am sk (T a) (g b H') Rel' π' s') :
  JT am sk (fun Q E s=>wpAny am.M A m (fun a s₁=>T a Q E s₁) E s) (r.bind g) Rel' π s:=by
 rcases h1 with rfl|h1
 ·exact .inl rfl
 ·cases r with
  |bad=>exact .inl rfl
  |err c H' =>
   refine .inr (yV h1 (fun a s' h=>?_) fun e s' h=>?_)
   ·obtain⟨_,_,_,h,_⟩:=h;cases h
   ·refine hold fun z k_=>?_
    obtain⟨c',H'',π',e',C,fl,h,r2,r3,r4,r5,r6⟩:=h;refine k_ ?_
    cases h
    exact⟨c,H',π',e',C,fl,rfl,r2,r3,r4,r5,r6⟩
  |ok b H' =>
   by_cases hb:g b H'=.bad
   ·exact .inl hb
   ·refine .inr (yV h1 (fun a s' h=>?_) fun e s' h=>?_)
    ·refine hold fun z k_=>?_
     obtain⟨b',H'',π',h,h3,h4,h5⟩:=h;refine k_ ?_
     cases h
     rcases h2 a b H' π' s' rfl h3 h4 h5 with h6|h6
     ·exact absurd h6 hb
     ·exact hT a _ _ _ _ _ (fun z z y=>OkP.step h3 y) (fun z z y=>ErP.step h3 y) h6
    ·obtain⟨_,_,_,_,_,_,h,_⟩:=h;cases h
theorem JT.rule (h:JT am sk T r Rel π s) (k:∀ Q E,T Q E s→T' Q E s):JT am sk T' r Rel π s:=by
 rcases h with h|h
 ·exact .inl h
 ·exact .inr (k _ _ h)
theorem JT.at (h:JT am sk T r Rel π s) (k:∀ Q E,T Q E s→wpAny am.M A m Q E s):JAt am sk A m r Rel π s:=by
 rcases h with h|h
 ·exact .inl h
 ·exact .inr (k _ _ h)
theorem JAt.pt (h:JAt am sk A m r Rel π s):JT am sk (fun Q E s=>wpAny am.M A m Q E s) r Rel π s:=h
end
theorem zos (c:Ck) (e:PE) (x:Expr) (p:Pos):ckE c e (.Starred x p)=false:=by
 cases e with
 |own a =>
  cases a with
  |bf f b=>cases f<;>rfl
  |bin op a b=>cases op<;>rfl
  |_=>rfl
 |none=>rfl
 |bool b=>rfl
 |int b=>rfl
 |str b=>rfl
 |_=>rfl
theorem zaz (h:ckE c e x=true):isStar x=false:=by
 cases x<;>first|rfl|(rw[zos] at h;cases h)
noncomputable def zak (xs:List Expr) (env:Env):List (Bool × Sem Value):=xs.map fun e=>(false,eval e env)
theorem zae (env:Env) (h:∀ x∈xs,isStar x=false) (pos:Pos):backTo pos (starEach xs env)=zak xs env:=by
 induction xs with
 |nil=>rfl
 |cons x xs ih =>
  have hx:=h x zZ;have e:starEach (x::xs) env=(false,eval x env)::starEach xs env:=by
   cases x<;>first|rfl|exact noB hx.symm
  rw[e];exact congrArg ((false,eval x env)::·) (ih fun y hy=>h y (zY _ hy))
section
variable {am:Amb}{n:Nat}{q:Bool}{F:Fn}{c:Ck}
theorem AllJ.stars (h:AllJ am n q F c es xs):∀ x∈xs,isStar x=false:=by
 induction es generalizing xs with
 |nil=>cases xs with
  |nil=>exact fun z h=>(not_mem_nil h).elim
  |cons _ _=>exact h.elim
 |cons e es ih=>cases xs with
  |nil=>exact h.elim
  |cons x xs=>exact fun y hy=>(zN.mp hy).elim (fun q=>q ▸ h.1.1) (ih h.2 y)
theorem AllJ.args (h:AllJ am n q F c es xs) (B:Base am n q F c cx ρ A) (st:St (am.at res) q cx ρ π Hc A s) :
  JAt (am.at res) cx.sk A (spliced (zak xs cx.env)) (evEs q F ρ es Hc) (VRs (am.at res)) π s:=by
 induction es generalizing xs π Hc s with
 |nil=>cases xs with
  |nil=>exact .inr (yW (OkP.here st.hr rfl))
  |cons _ _=>exact h.elim
 |cons e es ih=>cases xs with
  |nil=>exact h.elim
  |cons x xs =>
   rw[zbF];refine JAt.congr (m':=eval x cx.env >>= fun v=>(pure [v]:Sem (List Value)) >>= fun here=>holding here (spliced (zak xs cx.env)) >>= fun tl=>pure (here++tl)) (by
    show spliced ((false,eval x cx.env)::zak xs cx.env)=_;rw[spliced];rfl) rfl ?_
   refine JAt.bind (h.1.2.1 B st) fun x v H1 π1 s1 z hs1 hr1 hv1=>?_;refine JAt.rule (fun Q E h=>yX (yW h)) ?_;refine JAt.bind (JAt.holding (ih h.2 (st.step hs1 hr1))) fun ys ws H2 π2 s2 z hs2 hr2 hv2=>?_;exact JAt.pure hr2 (by exact⟨_,_,rfl,hv1.step hs2,hv2⟩)
theorem zqi (h:AllJ am n q F c es xs):EJ am n q F c (.and es) (.BoolOp .And xs p):=by
 induction es generalizing xs with
 |nil=>exact fun z z=>.inl rfl
 |cons e es ih=>cases xs with
  |nil=>exact h.elim
  |cons x xs =>
   intro cx ρ A res π Hc s B st
   cases es with
   |nil=>cases xs with
    |nil=>exact h.1.2.1 B st
    |cons _ _=>exact h.2.elim
   |cons e2 es=>cases xs with
    |nil=>exact h.2.elim
    |cons x2 xs =>
     rw[zpj,zrN];refine JAt.congr (m':=eval x cx.env >>= fun v=>standAt p >>= fun z=>holding [v] (PySem.truthy v) >>= fun t=>(match BoolOp.And,t with|.And,false|.Or,true=>pure v|_,_=>boolOp p .And (evalEach (x2::xs) cx.env))) rfl rfl ?_
     refine JAt.bind (h.1.2.1 B st) fun y v H1 π1 s1 z hs1 hr1 hv1=>JAt.standAt ?_
     cases v with
     |bool b =>
      cases hv1
      refine JAt.rule (fun Q E h=>yX (yU (wpAny_truthy_bool h))) ?_
      cases b with
      |false=>exact JAt.pure hr1 rfl
      |true=>exact ih h.2 B (st.step hs1 hr1)
     |_=>exact .inl rfl
theorem zrv (h:AllJ am n q F c es xs):EJ am n q F c (.or es) (.BoolOp .Or xs p):=by
 induction es generalizing xs with
 |nil=>exact fun z z=>.inl rfl
 |cons e es ih=>cases xs with
  |nil=>exact h.elim
  |cons x xs =>
   intro cx ρ A res π Hc s B st
   cases es with
   |nil=>cases xs with
    |nil=>exact h.1.2.1 B st
    |cons _ _=>exact h.2.elim
   |cons e2 es=>cases xs with
    |nil=>exact h.2.elim
    |cons x2 xs =>
     rw[zkP,zpc];refine JAt.congr (m':=eval x cx.env >>= fun v=>standAt p >>= fun z=>holding [v] (PySem.truthy v) >>= fun t=>(match BoolOp.Or,t with|.And,false|.Or,true=>pure v|_,_=>boolOp p .Or (evalEach (x2::xs) cx.env))) rfl rfl ?_
     refine JAt.bind (h.1.2.1 B st) fun y v H1 π1 s1 z hs1 hr1 hv1=>JAt.standAt ?_
     cases v with
     |bool b =>
      cases hv1
      refine JAt.rule (fun Q E h=>yX (yU (wpAny_truthy_bool h))) ?_
      cases b with
      |true=>exact JAt.pure hr1 rfl
      |false=>exact ih h.2 B (st.step hs1 hr1)
     |_=>exact .inl rfl
theorem zm0 (ρ:List V) (e e2:PE) (es:List PE) (Hc:H):tr (evAnd q F ρ (e::e2::es) Hc)=(tr (evE q F ρ e Hc)).bind fun b h=>if b then tr (evAnd q F ρ (e2::es) h) else .ok false h:=by
 simp only[zr3,zr2,zrN,zds];rw[zid];congr 1;funext x h
 cases hx:truthy x with
 |none=>rfl
 |some b =>
  cases b with
  |true=>rfl
  |false=>simp[tr,hx]
theorem zoQ (ρ:List V) (e e2:PE) (es:List PE) (Hc:H):tr (evOr q F ρ (e::e2::es) Hc)=(tr (evE q F ρ e Hc)).bind fun b h=>if b then .ok true h else tr (evOr q F ρ (e2::es) h):=by
 simp only[zrW,zrV,zpc,zds];rw[zid];congr 1;funext x h
 cases hx:truthy x with
 |none=>rfl
 |some b =>
  cases b with
  |false=>rfl
  |true=>simp[tr,hx]
theorem zoT (h:AllJ am n q F c es xs):TJ am n q F c (.and es) (.BoolOp .And xs p):=by
 induction es generalizing xs with
 |nil=>exact fun z z=>.inl rfl
 |cons e es ih=>cases xs with
  |nil=>exact h.elim
  |cons x xs =>
   intro cx ρ A res π Hc s B st
   cases es with
   |nil=>cases xs with
    |nil =>
     refine JAt.rule (m':=isTrue x cx.env (eval x cx.env)) (fun Q E h=>wpAny_isTrue_BoolOp (wpAny_allTrue_And_cons (yV h (fun b s1 h1=>?_) fun z z x=>x))) (h.1.2.2 B st)
     cases b with
     |true=>exact wpAny_allTrue_And_nil h1
     |false=>exact h1
    |cons _ _=>exact h.2.elim
   |cons e2 es=>cases xs with
    |nil=>exact h.2.elim
    |cons x2 xs =>
     rw[zpj,zm0];refine JAt.congr (m':=isTrue x cx.env (eval x cx.env) >>= fun b=>(match BoolOp.And,b with|.And,false=>pure false|.Or,true=>pure true|_,_=>allTrue .And (x2::xs) cx.env)) rfl rfl ?_
     refine JAt.bind (h.1.2.2 B st) fun y v H1 π1 s1 z hs1 hr1 hv1=>?_;unfold BR at hv1;subst hv1
     cases v with
     |false=>exact JAt.pure hr1 rfl
     |true=>exact ih h.2 B (st.step hs1 hr1)
theorem zqS (h:AllJ am n q F c es xs):TJ am n q F c (.or es) (.BoolOp .Or xs p):=by
 induction es generalizing xs with
 |nil=>exact fun z z=>.inl rfl
 |cons e es ih=>cases xs with
  |nil=>exact h.elim
  |cons x xs =>
   intro cx ρ A res π Hc s B st
   cases es with
   |nil=>cases xs with
    |nil =>
     refine JAt.rule (m':=isTrue x cx.env (eval x cx.env)) (fun Q E h=>wpAny_isTrue_BoolOp (wpAny_allTrue_Or_cons (yV h (fun b s1 h1=>?_) fun z z x=>x))) (h.1.2.2 B st)
     cases b with
     |true=>exact h1
     |false=>exact wpAny_allTrue_Or_nil h1
    |cons _ _=>exact h.2.elim
   |cons e2 es=>cases xs with
    |nil=>exact h.2.elim
    |cons x2 xs =>
     rw[zkP,zoQ];refine JAt.congr (m':=isTrue x cx.env (eval x cx.env) >>= fun b=>(match BoolOp.Or,b with|.And,false=>pure false|.Or,true=>pure true|_,_=>allTrue .Or (x2::xs) cx.env)) rfl rfl ?_
     refine JAt.bind (h.1.2.2 B st) fun y v H1 π1 s1 z hs1 hr1 hv1=>?_;unfold BR at hv1;subst hv1
     cases v with
     |true=>exact JAt.pure hr1 rfl
     |false=>exact ih h.2 B (st.step hs1 hr1)
theorem zqe (ha:EJ am n q F c a v) (hi:EJ am n q F c i t):EJ am n q F c (.idx a i) (.Subscript v t p):=fun {cx ρ A res π Hc s} B st=>by
 simp -iota only[zee];refine JAt.congr (m':=eval v cx.env >>= fun o=>holding [o] (eval t cx.env) >>= fun i=>standAt p >>= fun z=>subscriptTail v t o i) rfl rfl ?_;refine JAt.bind (ha B st) fun x v' H1 π1 s1 z hs1 hr1 hv1=>?_;refine JAt.bind (JAt.holding (hi B (st.step hs1 hr1))) fun y w H2 π2 s2 z hs2 hr2 hv2=>?_;exact JAt.standAt (zpx B.as hr2 (hv1.step hs2) hv2)
def OptJ (am:Amb) (n:Nat) (q:Bool) (F:Fn) (c:Ck):Option PE→Option Expr→Prop
 |none,none=>True
 |some e,some x=>EJ am n q F c e x
 |_,_=>False
def OVR (am:Amb) (π:List Addr) (h:Heap):Option V→Value→Prop
 |none,x=>x=.none
 |some v,x=>VR am π h v x
theorem OVR.step {am:Amb}{Fs π π':List Addr}{s s':Shared}(x:Step Fs π s π' s'){v:Option V}{y:Value}(e:OVR am π s.heap v y):OVR am π' s'.heap v y:=by
 cases v with
 |none=>exact e
 |some v=>exact VR.step x e
theorem OptJ.ev (h:OptJ am n q F c e x) (B:Base am n q F c cx ρ A) (st:St (am.at res) q cx ρ π Hc A s) :
  JAt (am.at res) cx.sk A (valueOrNone (evalOpt x cx.env)) (evO q F ρ e Hc) (OVR (am.at res)) π s:=by
 cases e with
 |none=>cases x with
  |none=>simp only[zoK,zoJ];exact .inr (yW (OkP.here st.hr rfl))
  |some x=>exact h.elim
 |some e=>cases x with
  |none=>exact h.elim
  |some x =>
   simp only[zoK,zoJ];have h1:JAt (am.at res) cx.sk A (eval x cx.env) (evE q F ρ e Hc) (VR (am.at res)) π s:=h B st
   rcases h1 with h1|h1
   ·exact .inl (by rw[h1];rfl)
   ·refine .inr (yV h1 (fun a s' h2=>?_) fun a s' h2=>?_)
    ·refine hold fun z k_=>?_
     obtain⟨b,H',π',h3,h4,h5,h6⟩:=h2;refine k_ ?_;exact⟨some b,H',π',by rw[h3];rfl,h4,h5,h6⟩
    ·refine hold fun z k_=>?_
     obtain⟨c',H'',π',e',C,fl,h,r2,r3,r4,r5,r6⟩:=h2;refine k_ ?_;exact⟨c',H'',π',e',C,fl,by rw[h];rfl,r2,r3,r4,r5,r6⟩
end
section
variable {am:Amb}{n:Nat}{q:Bool}{F:Fn}{c:Ck}
theorem HR.unhold {am:Amb}{sk:List Env}{π:List Addr}{Hc:H}{h:Heap}{l:Addr}(x:HR (am.hold l) sk π Hc h):HR am sk π Hc h :=
 ⟨x.base,x.frames,x.len,x.nodup,fun a ha=>x.res a (zY _ ha),x.off,fun i c a h1 h2=>by
  obtain⟨o,xs,e0,e1,e2,e3⟩:=x.cell i c a h1 h2;exact⟨o,xs,e0,e1,e2,e3.reserve.2⟩⟩
noncomputable def FrP (am:Amb) (sk:List Env) (π:List Addr) (s:Shared) (r:R V) (x:Value) (s':Shared):Prop :=
 ∃ vs H1 π1 l xs,r=.ok (.l vs) H1∧x=.ref l∧vs.length≤1000000∧s.heap.get? l=none∧(l ∉ π1∧l ∉ Fs sk∧l ∉ am.res∧am.B.get? l=none)∧Step (Fs sk) π s π1 s'∧HR (am.hold l) sk π1 H1 s'.heap∧PL s'.heap l xs∧VRs (am.hold l) π1 s'.heap vs xs
theorem HR.held {am:Amb}{sk:List Env}{π:List Addr}{Hc:H}{h h':Heap}{l:Addr}(hr:HR am sk π Hc h) (hl:h.get? l=none) (k:∀ b o,h.get? b=some o→h'.get? b=some o) (ho:∃ o,h'.get? l=some o∧∀ us,o.data≠.fields us) :
  HR (am.hold l) sk π Hc h':=by
 have hr':=hr.keeps k;refine⟨hr'.base,hr'.frames,hr'.len,hr'.nodup,fun a ha=>?_,hr'.off,fun i c a h1 h2=>?_⟩
 ·rcases zN.mp ha with rfl|ha
  ·exact ho
  ·exact hr'.res a ha
 ·obtain⟨o,xs,e0,e1,e2,e3⟩:=hr.cell i c a h1 h2
  exact⟨o,xs,k _ _ e0,e1,e2,(e3.held hl).keeps k⟩
theorem FrP.new {am:Amb}{sk:List Env}{π:List Addr}{s:Shared}{r:R V}{x:Value}{s1 s':Shared}{vs:List V}{H1:H}{π1:List Addr}(h1:r=.ok (.l vs) H1) (h2:Step (Fs sk) π s π1 s1) (h3:HR am sk π1 H1 s1.heap) (h4:vs.length≤1000000) (h5:NewL am π1 s1 vs x s') :
  FrP am sk π s r x s':=by
 refine hold fun z k_=>?_;obtain⟨l,xs,h',tk,rfl,rfl,k,e1,e2,e3⟩:=h5;refine k_ ?_;refine⟨vs,H1,π1,l,xs,h1,rfl,h4,?_,⟨zaU h3 e1,zbZ h3 e1,zaQ h3 e1,zal h3.base e1⟩,h2.trans (Step.keeps k),?_,e2,e3⟩
 ·cases hq:s.heap.get? l with
  |none=>rfl
  |some o=>obtain⟨o',h6⟩:=h2.ext.alive l o hq;rw[e1] at h6;cases h6
 ·refine h3.held e1 k ?_
  refine hold fun z k_=>?_;obtain⟨o,n,ho,_,_,hd⟩:=e2;refine k_ ?_;exact⟨o,ho,fun us q=>by rw[hd] at q;cases q⟩
theorem FrP.lst {am:Amb}{sk:List Env}{π:List Addr}{s:Shared}{r:R V}{x:Value}{s':Shared}(h:FrP am sk π s r x s'):OkP am sk (VR am) π s r x s':=by
 refine hold fun z k_=>?_;obtain⟨vs,H1,π1,l,xs,rfl,rfl,h3,h4,h5,h6,h7,h8,h9⟩:=h;refine k_ ?_;refine⟨_,H1,π1,rfl,h6,h7.unhold,?_⟩;exact⟨l,xs,rfl,⟨h5.1,h5.2.2.1⟩,h8.is,h3,h9.reserve.2⟩
theorem FrP.cell {am:Amb}{sk:List Env}{π:List Addr}{s:Shared}{r:R V}{x:Value}{s':Shared}(h:FrP am sk π s r x s') :
  OkP am sk (VR am) π s (r.bind fun x h=>match x with|.l vs=>.ok (.ref h.length) (h++[.list vs])|_=>.bad) x s':=by
 refine hold fun z k_=>?_;obtain⟨vs,H1,π1,l,xs,rfl,rfl,h3,h4,h5,h6,h7,h8,h9⟩:=h;refine k_ ?_;refine⟨_,_,π1++[l],rfl,⟨h6.same,h6.ext,?_⟩,⟨h7.base,h7.frames,by simp[h7.len],?_,h7.unhold.res,?_,?_⟩,?_⟩
 ·obtain⟨δ,rfl,hδ⟩:=h6.grow
  refine⟨δ++[l],by simp,fun a ha=>?_⟩
  rcases zP.mp ha with ha|ha
  ·exact hδ a ha
  ·rw[zK.mp ha];exact h4
 ·rw[nodup_append]
  exact⟨h7.nodup,by simp,fun a ha b hb=>by rw[zK.mp hb];exact fun q=>h5.1 (q ▸ ha)⟩
 ·intro a ha
  rcases zP.mp ha with ha|ha
  ·exact h7.off a ha
  ·rw[zK.mp ha];exact⟨h5.2.2.2,h5.2.1⟩
 ·intro i c a hi ha
  by_cases hlt:i < H1.length
  ·rw[List.getElem?_append_left hlt] at hi
   rw[List.getElem?_append_left (by rw[h7.len];exact hlt)] at ha
   obtain⟨o,ys,q0,q1,q2,q3⟩:=h7.cell i c a hi ha;exact⟨o,ys,q0,q1,q2,q3.reserve.1⟩
  ·have hi':i=H1.length:=zmx (by have:=(List.getElem?_eq_some_iff.mp hi).1;rw[zQ] at this;exact this) hlt
   subst hi';simp only[List.getElem?_concat_length,Option.some.injEq] at hi;rw[←h7.len] at ha;simp only[List.getElem?_concat_length,Option.some.injEq] at ha;subst hi ha;exact .ofList h8 h3 h9.reserve.1
 ·rw[zka]
  exact⟨l,rfl,by rw[←h7.len];simp⟩
def JF (am:Amb) (sk:List Env) (T:PT Value) (r:R V) (π:List Addr) (s:Shared):Prop:=r=.bad∨T (FrP am sk π s r) (ErP am sk π s r) s
theorem FrP.step {am:Amb}{sk:List Env}{π π₁:List Addr}{s s₁:Shared}{r:R V}{a:Value}{s':Shared}
  (x:Step (Fs sk) π s π₁ s₁) (y:FrP am sk π₁ s₁ r a s'):FrP am sk π s r a s':=by
 refine hold fun z k_=>?_;obtain⟨vs,H1,π1,l,xs,h1,h2,h3,h4,h5,h6,h7⟩:=y;refine k_ ?_;refine⟨vs,H1,π1,l,xs,h1,h2,h3,?_,h5,x.trans h6,h7⟩
 cases hq:s.heap.get? l with
 |none=>rfl
 |some o=>obtain⟨o',h6⟩:=x.ext.alive l o hq;rw[h4] at h6;cases h6
section
variable {am:Amb}{sk:List Env}{A:Around}{α β γ δ:Type}{Rel:List Addr→Heap→β→α→Prop}{π:List Addr}{s:Shared}
theorem JF.bind {T:α→PT Value}(hT:∀ a,PT.Mono (T a)){g:β→H→R V}(h1:JAt am sk A m r Rel π s)
  (h2:∀ a b H' π' s',r=.ok b H'→Step (Fs sk) π s π' s'→HR am sk π' H' s'.heap→Rel π' s'.heap b a→JF am sk (T a) (g b H') π' s') :
  JF am sk (fun Q E s=>wpAny am.M A m (fun a s₁=>T a Q E s₁) E s) (r.bind g) π s:=by
 rcases h1 with rfl|h1
 ·exact .inl rfl
 ·cases r with
  |bad=>exact .inl rfl
  |err c H' =>
   refine .inr (yV h1 (fun a s' h=>?_) fun e s' h=>?_)
   ·obtain⟨_,_,_,h,_⟩:=h;cases h
   ·refine hold fun z k_=>?_
    obtain⟨c',H'',π',e',C,fl,h,r2,r3,r4,r5,r6⟩:=h;refine k_ ?_
    cases h
    exact⟨c,H',π',e',C,fl,rfl,r2,r3,r4,r5,r6⟩
  |ok b H' =>
   by_cases hb:g b H'=.bad
   ·exact .inl hb
   ·refine .inr (yV h1 (fun a s' h=>?_) fun e s' h=>?_)
    ·refine hold fun z k_=>?_
     obtain⟨b',H'',π',h,h3,h4,h5⟩:=h;refine k_ ?_
     cases h
     rcases h2 a b H' π' s' rfl h3 h4 h5 with h6|h6
     ·exact absurd h6 hb
     ·exact hT a _ _ _ _ _ (fun z z y=>FrP.step h3 y) (fun z z y=>ErP.step h3 y) h6
    ·obtain⟨_,_,_,_,_,_,h,_⟩:=h;cases h
theorem JF.rule (h:JF am sk T r π s) (k:∀ Q E,T Q E s→T' Q E s):JF am sk T' r π s:=by
 rcases h with h|h
 ·exact .inl h
 ·exact .inr (k _ _ h)
theorem JF.lst (h:JF am sk T r π s) (k:∀ Q E,T Q E s→wpAny am.M A m Q E s):JAt am sk A m r (VR am) π s:=by
 rcases h with h|h
 ·exact .inl h
 ·refine .inr (yV (k _ _ h) (fun a s' h=>?_) fun z z h=>h)
  exact h.lst
theorem JF.cell (h:JF am sk T r π s) (k:∀ Q E,T Q E s→wpAny am.M A m Q E s) :
  JAt am sk A m (r.bind fun x h=>match x with|.l vs=>.ok (.ref h.length) (h++[.list vs])|_=>.bad) (VR am) π s:=by
 rcases h with rfl|h
 ·exact .inl rfl
 ·refine .inr (yV (k _ _ h) (fun a s' h=>?_) fun z z h=>?_)
  ·exact h.cell
  ·refine hold fun z k_=>?_
   obtain⟨c',H'',π',e',C,fl,rfl,r2,r3,r4,r5,r6⟩:=h;refine k_ ?_;exact⟨c',H'',π',e',C,fl,rfl,r2,r3,r4,r5,r6⟩
end
def FJ (am:Amb) (n:Nat) (q:Bool) (F:Fn) (c:Ck) (e:PE) (ex:Expr):Prop:=∀ {cx:Cx}{ρ:List V}{A:Around}{res π:List Addr}{Hc:H}{s:Shared},Base am n q F c cx ρ A→St (am.at res) q cx ρ π Hc A s →
 JF (am.at res) cx.sk (fun Q E s=>wpAny am.M A (eval ex cx.env) Q E s) (evE q F ρ e Hc) π s
theorem FJ.ej (h:FJ am n q F c e ex):EJ am n q F c e ex:=fun {cx ρ A res π Hc s} B st=>(h B st).lst fun z z x=>x
theorem FJ.own (h:FJ am n q F c e ex):EJ am n q F c (.own e) ex:=fun {cx ρ A res π Hc s} B st=>by
 simp -iota only[zkO];exact(h B st).cell fun z z x=>x
set_option tactic.hygienic true in
theorem zjB {es:List PE}{xs:List Expr}{p:Pos}(h:AllJ am n q F c es xs):FJ am n q F c (.list es) (.List xs p):=fun {cx ρ A res π Hc s} B st=>by
 simp -iota only[ziJ];refine JF.rule (T:=fun Q E s=>wpAny am.M A (spliced (zak xs cx.env)) (fun ys s₁=>wpAny am.M A (newList ys) Q E s₁) E s)
  (JF.bind (fun z=>PT.wp _ _) (h.args B st) fun ys vs H1 π1 s1 z hs1 hr1 hv1=>?_) fun Q E h'=>?_
 ·unfold mkL
  split
  ·rename_i hle
   exact .inr (wpAny_newList (FrP.new rfl (.refl ..) hr1 hle (NewL.push (n:=0) (tk:=s1.toks) hv1 rfl rfl rfl)) (by rw[hv1.len];exact zaw hle))
  ·exact .inl rfl
 ·rw[arm_eval_List,zae _ h.stars]
  exact yX (wpAny_standAt (yX h'))
theorem OVR.part {am:Amb}{π:List Addr}{h:Heap}{w:Option V}{lo:Option Int}{y:Value}(h1:OVR am π h w y) (h2:w.mapM asInt?=some lo):IsPart y lo:=by
 cases w with
 |none=>cases h1;cases h2;exact .none
 |some v =>
  cases v with
  |int i=>obtain⟨t,rfl⟩:=h1;cases h2;exact .int i t
  |_=>cases h2
theorem zgT {a:PE}{lo hi:Option PE}{v:Expr}{l u:Option Expr}{p p':Pos}(ha:EJ am n q F c a v) (hl:OptJ am n q F c lo l) (hu:OptJ am n q F c hi u):FJ am n q F c (.slice a lo hi) (.Subscript v (.Slice l u none p') p):=fun {cx ρ A res π Hc s} B st=>by
 simp -iota only[zfQ];refine JF.rule (T:=fun Q E s=>wpAny am.M A (eval v cx.env) (fun x s₀=>wpAny am.M A (valueOrNone (evalOpt l cx.env)) (fun a s₁=>wpAny am.M A (valueOrNone (evalOpt u cx.env)) (fun b s₂=>wpAny am.M A (newFields "slice" [a,b,.none]) (fun i s₃=>wpAny am.M A (subscriptTail v (.Slice l u none p') x i) Q E s₃) E s₂) E s₁) E s₀) E s)
  (JF.bind (fun x=>PT.seq _ _ fun a=>PT.seq _ _ fun b=>PT.seq _ _ fun i=>PT.wp _ _) (ha B st) fun x v' H1 π1 s1 t hs1 hr1 hv1=>?_) fun Q E h=>?_
 ·have st1:=st.step hs1 hr1
  refine JF.bind (fun a=>PT.seq _ _ fun b=>PT.seq _ _ fun i=>PT.wp _ _) (hl.ev B st1) fun y w H2 π2 s2 t hs2 hr2 hv2=>?_;have st2:=st1.step hs2 hr2;refine JF.bind (fun a=>PT.seq _ _ fun i=>PT.wp _ _) (hu.ev B st2) fun z w2 H3 π3 s3 t hs3 hr3 hv3=>?_;unfold zas
  cases hlo:w.mapM asInt? with
  |none=>exact .inl rfl
  |some lo=>cases hhi:w2.mapM asInt? with
   |none=>exact .inl rfl
   |some hi =>
    dsimp only
    cases hi':litems H3 v' with
    |none=>exact .inl rfl
    |some vs=>exact .inr (zkn (am:=am.at res) hr3 ((hv1.step hs2).step hs3) hi' ((hv2.step hs3).part hlo) (hv3.part hhi) fun y s1 s' h1 h2 h3 h4=>FrP.new rfl h1 h2 h3 h4)
 ·have e:eval (.Subscript v (.Slice l u none p') p) cx.env=(eval v cx.env >>= fun o=>holding [o] (valueOrNone (evalOpt l cx.env) >>= fun a=>holding [a] (valueOrNone (evalOpt u cx.env)) >>= fun b=>holding [a,b] (pure .none) >>= fun d=>newFields "slice" [a,b,d]) >>= fun i=>standAt p >>= fun t=>subscriptTail v (.Slice l u none p') o i):=rfl
  rw[e];exact yX (yV h (fun o s0 h0=>yX (yU (yX (yV h0 (fun a s1 h1=>yX (yU (yV h1 (fun b s2 h2=>yX (yU (yW (yV h2 (fun i s3 h3=>yX (wpAny_standAt h3)) fun t t x=>x)))) fun t t x=>x))) fun t t x=>x)))) fun t t x=>x)
set_option tactic.hygienic true in
theorem zp9 {es:List PE}{xs:List Expr}{k:Nat}{p:Pos}(h:AllJ am n q F c es xs):EJ am n q F c (.tup es) (.Tuple xs k p):=fun {cx ρ A res π Hc s} B st=>by
 simp -iota only[zns];refine JAt.congr (arm_eval_Tuple ..) rfl (JAt.standAt ?_);rw[zae _ h.stars];refine JAt.bind (h.args B st) fun ys vs H1 π1 s1 z hs1 hr1 hv1=>?_;unfold mkT
 split
 ·rename_i hle
  exact .inr (wpAny_newTuple (OkP.tup (n:=0) hr1 hv1 hle rfl rfl) (by rw[hv1.len];exact zaw hle))
 ·exact .inl rfl
theorem zaC (B:Base am n q F c cx ρ A) (hr:HR (am.at res) cx.sk π Hc s.heap){Q:Value→Shared→Prop}{E:Value→Shared→Prop}(hx:c.glob x=true)
  (hv:(x,v)∈bTab) (hs:∀ z∈y::ys,isStar z=false)
  (h:wpAny am.M A (spliced (zak (y::ys) cx.env)) (fun vs s₁=>wpAny am.M A (PySem.call v vs []) Q E s₁) E s):wpAny am.M A (eval (.Call (.Name x p) (y::ys) [] p') cx.env) Q E s:=by
 have hp:(zak (y::ys) cx.env).any (·.1)=false:=by
  simp[zak,List.any_eq_false]
 refine wpAny_Call_Name_kw (zmO B hr hx hv ?_);rw[zae _ hs];have h':wpAny am.M A (evalArgs v true (zak (y::ys) cx.env) []) (fun a s₁=>wpAny am.M A (PySem.call v ([]++a.pos) a.kw) Q E s₁) E s:=Calls.evalArgs_plain h
 rcases zoy hv with⟨id,rfl⟩|⟨T,rfl⟩
 ·exact Calls.callWith_builtin hp h'
 ·exact PySem.callWith_type hp h'
end
section
variable {N:Nat}{r:Nat→Nat}
def KJ (N:Nat) (r:Nat→Nat){α:Type}:KasT α→(α→Prop)→Prop
 |.ret a,P=>P a
 |.ask i j k,P=>i < N∧j < N∧KJ N r (k (decide (r i < r j))) P
theorem KJ.bind {α β:Type}{f:α→KasT β}{P:β→Prop}:∀ {t:KasT α},KJ N r t (fun a=>KJ N r (f a) P)→KJ N r (t.bind f) P
 |.ret _,h=>h
 |.ask _ _ k,h=>⟨h.1,h.2.1,KJ.bind (t:=k _) h.2.2⟩
theorem KJ.mono {α:Type}{P P':α→Prop}(hp:∀ a,P a→P' a):∀ {t:KasT α},KJ N r t P→KJ N r t P'
 |.ret _,h=>hp _ h
 |.ask _ _ k,h=>⟨h.1,h.2.1,KJ.mono hp (t:=k _) h.2.2⟩
theorem KJ.wp {α:Type}{P:α→Prop}{cmp:Nat→Nat→(Bool→Shared→Prop)→Shared→Prop}{Q:α→Shared→Prop}(hc:∀ i j C,i < N→j < N→C (decide (r i < r j)) s→cmp i j C s) (hq:∀ a,P a→Q a s):∀ {t:KasT α},KJ N r t P→t.kasWp cmp Q s
 |.ret _,h=>hq _ h
 |.ask i j k,h=>hc i j _ h.1 h.2.1 (KJ.wp hc hq (t:=k _) h.2.2)
structure Pm (N:Nat) (p:Array Nat):Prop where
 size:p.size=N
 lt:∀ k,p.getD k 0 < N
 perm:p.Perm (List.toArray (List.range N))
theorem Pm.of (h:Pm N p) (hp:q.Perm p):Pm N q:=by
 have hN:0 < N:=Nat.lt_of_le_of_lt (Nat.zero_le _) (h.lt 0);have pm:=hp.trans h.perm;refine⟨hp.size_eq.trans h.size,fun k=>?_,pm⟩
 by_cases hk:k < q.size
 ·have hm:q[k]∈q:=Array.getElem_mem hk
  have:q[k]∈List.toArray (List.range N):=pm.mem_iff.1 hm;simp at this
  simpa [Array.getD,hk] using this
 ·simp[Array.getD,hk];exact hN
theorem Pm.one (h:0 < N):Pm N (List.toArray (List.range N)):=by
 refine⟨by simp,fun k=>?_,Array.Perm.refl _⟩
 by_cases hk:k < N
 ·simp[Array.getD,hk]
 ·simp[Array.getD,hk];exact h
def Ky (r:Nat→Nat) (p:Array Nat) (k:Nat):Nat:=r (p.getD k 0)
theorem zfr (h:q[i]?=p[j]?):Ky r q i=Ky r p j:=by
 unfold Ky;rw[Array.getD_eq_getD_getElem?,Array.getD_eq_getD_getElem?,h]
theorem zkg (hj:j≤p.size) (k:Nat):Ky r (kas_rev p i j) k=if i≤k∧k < j then Ky r p (i+j - 1 - k) else Ky r p k:=by
 have:=getElem?_mirror_all (i:=i) hj k
 by_cases h:i≤k∧k < j
 ·rw[zT h] at this ⊢;exact zfr this
 ·rw[zR h] at this ⊢;exact zfr this
theorem zgD (h:Pm N p) (i j:Nat):Pm N (kas_rev p i j):=h.of (mirror_perm _ _ _ _)
def Up (r:Nat→Nat) (p:Array Nat) (k:Nat):Prop:=∀ i j,i≤j→j < k→Ky r p i≤Ky r p j
def Dn (r:Nat→Nat) (p:Array Nat) (k:Nat):Prop:=∀ i j,i≤j→j < k→Ky r p j≤Ky r p i
theorem snoc {R:Nat→Nat→Prop}(rf:∀ a,R a a) (tr:∀ {a b c},R a b→R b c→R a c){k:Nat→Nat}(h:∀ i j,i≤j→j < n→R (k i) (k j)) (hc:R (k (n - 1)) (k n)):∀ i j,i≤j→j < n+1→R (k i) (k j):=fun i j hij hj=>by
 rcases Nat.lt_or_eq_of_le (Nat.le_of_lt_succ hj) with hjn|rfl
 ·exact h i j hij hjn
 ·rcases Nat.lt_or_eq_of_le hij with hi|rfl
  ·exact tr (h i (j - 1) (Nat.le_sub_one_of_lt hi) (Nat.sub_lt (Nat.zero_lt_of_lt hi) Nat.one_pos)) hc
  ·exact rf _
theorem Up.snoc (h:Up r p n) (hc:Ky r p (n - 1)≤Ky r p n):Up r p (n+1):=Mine.snoc (R:=(·≤·)) Nat.le_refl zX h hc
theorem Dn.snoc (h:Dn r p n) (hc:Ky r p n≤Ky r p (n - 1)):Dn r p (n+1):=Mine.snoc (R:=fun a b=>b≤a) Nat.le_refl (fun a b=>zX b a) h hc
theorem zj6 (hp:Pm N p):∀ (f n:Nat),1≤n→Up r p n→KJ N r (kas_asc p f n) (fun m=>n≤m∧m≤n+f∧Up r p m∧(m < n+f→Ky r p m < Ky r p (m - 1)))
 |0,n,h1,hu=>⟨Nat.le_refl _,Nat.le_refl _,hu,fun h=>absurd h (Nat.lt_irrefl _)⟩
 |f+1,n,h1,hu=>by
  refine⟨hp.lt _,hp.lt _,?_⟩;show KJ N r (if decide (Ky r p n < Ky r p (n - 1))=true then _ else _) _
  by_cases hc:Ky r p n < Ky r p (n - 1)
  ·rw[zT (zW hc)]
   exact⟨Nat.le_refl _,Nat.le_add_right _ _,hu,fun z=>hc⟩
  ·rw[zR fun e=>hc (zV e)]
   have ih:=zj6 hp f (n+1) (Nat.le_add_left 1 n) (hu.snoc (Nat.le_of_not_lt hc));rw[Nat.add_right_comm n 1 f] at ih;exact KJ.mono (fun m hm=>⟨Nat.le_of_succ_le hm.1,hm.2⟩) ih
def Al (r:Nat→Nat) (p:Array Nat) (n q:Nat):Prop:=∀ k,n - (q+1)≤k→k < n→Ky r p k=Ky r p (n - 1)
theorem Al.zero (p:Array Nat) (n:Nat):Al r p (n+1) 0:=fun k h1 h2=>congrArg (Ky r p) (Nat.le_antisymm (Nat.le_of_lt_succ h2) h1)
theorem Al.succ (h:Al r p n q) (e:Ky r p n=Ky r p (n - 1)):Al r p (n+1) (q+1):=fun k h1 h2=>by
 rw[Nat.add_sub_add_right] at h1
 rcases Nat.lt_or_eq_of_le (Nat.le_of_lt_succ h2) with hk|rfl
 ·exact(h k h1 hk).trans e.symm
 ·rfl
theorem Al.rev (h:Al r p n q) (hn:n≤p.size) (k:Nat):Ky r (kas_rev p (n - (q+1)) n) k=Ky r p k:=by
 rw[zkg hn]
 by_cases hk:n - (q+1)≤k∧k < n
 ·rw[zT hk]
  exact(h _ (by clear h;omega) (by clear h;omega)).trans (h k hk.1 hk.2).symm
 ·rw[zR hk]
structure Fa (N:Nat) (r:Nat→Nat) (n m:Nat) (p:Array Nat) (k q:Nat):Prop where
 pm:Pm N p
 lo:n≤k
 hi:k≤m
 qk:q+1≤k
 dn:Dn r p k
 al:Al r p k q
theorem Fa.low (x:Fa N r (n+1) m p k q):Fa N r n m p k q:=⟨x.pm,Nat.le_of_succ_le x.lo,x.hi,x.qk,x.dn,x.al⟩
theorem zjQ:∀ (f:Nat) (p:Array Nat) (n q:Nat),Pm N p→q+1≤n→n+f≤N→Dn r p n→Al r p n q→KJ N r (kas_desc f p n q) (fun x=>Fa N r n (n+f) x.1 x.2.1 x.2.2)
 |0,p,n,q,hp,hq,_,hd,he=>⟨hp,Nat.le_refl _,Nat.le_refl _,hq,hd,he⟩
 |f+1,p,n,q,hp,hq,hN,hd,he=>by
  refine⟨hp.lt _,hp.lt _,?_⟩;show KJ N r (if decide (Ky r p n < Ky r p (n - 1))=true then _ else _) _;have step:∀ p' q',Pm N p'→q'+1≤n+1→Dn r p' (n+1)→Al r p' (n+1) q'→KJ N r (kas_desc f p' (n+1) q') (fun x=>Fa N r n (n+(f+1)) x.1 x.2.1 x.2.2):=fun p' q' a b c d=>by
   have ih:=zjQ f p' (n+1) q' a b (by rw[Nat.add_right_comm];exact hN) c d
   rw[Nat.add_right_comm] at ih;exact KJ.mono (fun x hx=>hx.low) ih
  by_cases hc:Ky r p n < Ky r p (n - 1)
  ·rw[zT (zW hc)]
   have hd':=hd.snoc (Nat.le_of_lt hc)
   by_cases hq0:q > 0
   ·rw[zT hq0]
    have key:=he.rev (by rw[hp.size];exact zX (Nat.le_add_right _ _) hN)
    exact step _ 0 (zgD hp _ _) (Nat.le_add_left 1 n) (fun i j hij hj=>by rw[key,key];exact hd' i j hij hj) (Al.zero _ n)
   ·rw[zR hq0]
    exact step p 0 hp (Nat.le_add_left 1 n) hd' (Al.zero _ n)
  ·rw[zR fun e=>hc (zV e)]
   refine⟨hp.lt _,hp.lt _,?_⟩;show KJ N r (if decide (Ky r p (n - 1) < Ky r p n)=true then _ else _) _
   by_cases hc2:Ky r p (n - 1) < Ky r p n
   ·rw[zT (zW hc2)]
    exact⟨hp,Nat.le_refl _,Nat.le_add_right _ _,hq,hd,he⟩
   ·rw[zR fun e=>hc2 (zV e)]
    have heq:=Nat.le_antisymm (Nat.le_of_not_lt hc2) (Nat.le_of_not_lt hc);exact step p (q+1) hp (Nat.succ_le_succ hq) (hd.snoc (Nat.le_of_eq heq)) (he.succ heq)
structure Cn (N:Nat) (r:Nat→Nat) (p:Array Nat) (k:Nat):Prop where
 pm:Pm N p
 lo:1≤k
 hi:k≤N
 up:Up r p k
theorem zgv (hp:Pm N p) (h1:1≤n) (hn:n≤N) (hd:Dn r p n):KJ N r (kas_tail3 n N p) (fun x=>Cn N r x.2 x.1):=by
 unfold kas_tail3;have hp':=zgD hp 0 n;have hu:Up r (kas_rev p 0 n) n:=fun i j hij hj=>by
  rw[zkg (by rw[hp.size];exact hn),zkg (by rw[hp.size];exact hn),zT ⟨Nat.zero_le _,Nat.lt_of_le_of_lt hij hj⟩,zT ⟨Nat.zero_le _,hj⟩]
  exact hd _ _ (Nat.sub_le_sub_left hij _) (Nat.lt_of_le_of_lt (Nat.sub_le _ _) (by rw[Nat.zero_add];exact Nat.sub_lt h1 Nat.one_pos))
 have ih:=zj6 hp' (N - n) n h1 hu;rw[Nat.add_sub_cancel' hn] at ih;exact KJ.bind (KJ.mono (fun m hm=>⟨hp',zX h1 hm.1,hm.2.1,hm.2.2.1⟩) ih)
theorem zdr (hp:Pm N p) (hn:n+1≤N) (hd:Dn r p n) (hc:Ky r p n < Ky r p (n - 1)):KJ N r (kas_descPart n N p) (fun x=>Cn N r x.2 x.1):=by
 unfold kas_descPart;have ih:=zjQ (N - (n+1)) p (n+1) 0 hp (Nat.le_add_left 1 n) (Nat.le_of_eq (Nat.add_sub_cancel' hn)) (hd.snoc (Nat.le_of_lt hc)) (Al.zero p n);rw[Nat.add_sub_cancel' hn] at ih;refine KJ.bind (KJ.mono (fun x hx=>?_) ih);have lo:=zX (Nat.le_add_left 1 n) hx.lo
 by_cases hq:x.2.2 > 0
 ·rw[zT hq]
  have key:=hx.al.rev (by rw[hx.pm.size];exact hx.hi)
  exact zgv (zgD hx.pm _ _) lo hx.hi fun i j hij hj=>by rw[key,key];exact hx.dn i j hij hj
 ·rw[zR hq]
  exact zgv hx.pm lo hx.hi hx.dn
theorem zlK (hp:Pm N p) (h1:1≤N):KJ N r (kas_count N p) (fun x=>Cn N r x.2 x.1):=by
 unfold kas_count;have ih:=zj6 (r:=r) hp (N - 1) 1 (Nat.le_refl _) (fun i j h1 h2=>by
  cases Nat.lt_one_iff.1 h2
  cases Nat.le_zero.1 h1
  exact Nat.le_refl _)
 rw[Nat.add_sub_cancel' h1] at ih;refine KJ.bind (KJ.mono (fun n hn=>?_) ih);obtain⟨a1,a2,a3,a4⟩:=hn
 by_cases hN:n=N
 ·rw[zT (by simpa using hN)]
  exact⟨hp,a1,a2,a3⟩
 ·rw[zR (by simpa using hN)]
  have lt:=Nat.lt_of_le_of_ne a2 hN;have hc:=a4 lt
  by_cases hn1:n > 1
  ·rw[zT hn1]
   refine⟨hp.lt _,hp.lt _,?_⟩;show KJ N r (if decide (Ky r p 0 < Ky r p (n - 1))=true then _ else _) _
   by_cases hr:Ky r p 0 < Ky r p (n - 1)
   ·rw[zT (zW hr)]
    exact⟨hp,a1,a2,a3⟩
   ·rw[zR fun e=>hr (zV e)]
    have all:Al r p n (n - 1):=fun k z hk=>Nat.le_antisymm (a3 k (n - 1) (Nat.le_sub_one_of_lt hk) (Nat.sub_lt a1 Nat.one_pos)) (zX (Nat.le_of_not_lt hr) (a3 0 k (Nat.zero_le _) hk));have rv:=all.rev (by rw[hp.size];exact a2)
    rw[Nat.sub_add_cancel a1,Nat.sub_self] at rv;refine zdr (zgD hp _ _) lt (fun i j hij hj=>?_) (by rw[rv,rv];exact hc)
    rw[rv,rv,all i (by rw[Nat.sub_add_cancel a1,Nat.sub_self];exact Nat.zero_le _) (Nat.lt_of_le_of_lt hij hj),all j (by rw[Nat.sub_add_cancel a1,Nat.sub_self];exact Nat.zero_le _) hj];exact Nat.le_refl _
  ·rw[zR hn1]
   refine zdr hp lt (fun i j hij hj=>?_) hc
   cases Nat.lt_one_iff.1 (Nat.lt_of_lt_of_le hj (Nat.le_of_not_lt hn1))
   cases Nat.le_zero.1 hij
   exact Nat.le_refl _
theorem zef (hp:Pm N p) (hu:Up r p k):∀ (f l e:Nat),l≤e→e≤k→e - l≤f→(∀ i,i < l→Ky r p i≤Ky r p k)→(∀ i,e≤i→i < k→Ky r p k < Ky r p i) →
  KJ N r (kas_place p k f l e) (fun m=>m≤k∧(∀ i,i < m→Ky r p i≤Ky r p k)∧∀ i,m≤i→i < k→Ky r p k < Ky r p i)
 |0,l,e,h1,h2,h3,ha,hb=>⟨zX h1 h2,ha,fun i hi=>hb i (zX (Nat.le_of_sub_eq_zero (Nat.le_zero.1 h3)) hi)⟩
 |f+1,l,e,h1,h2,h3,ha,hb=>by
  unfold kas_place
  by_cases hle:l ≥ e
  ·rw[zT hle]
   exact⟨zX h1 h2,ha,fun i hi=>hb i (zX hle hi)⟩
  ·rw[zR hle]
   refine⟨hp.lt _,hp.lt _,?_⟩;show KJ N r (if decide (Ky r p k < Ky r p ((l+e) / 2))=true then _ else _) _;have hlt:=Nat.not_le.1 hle;obtain⟨m1,m2⟩:l≤(l+e) / 2∧(l+e) / 2 < e:=⟨(Nat.le_div_iff_mul_le (by decide)).2 (by rw[Nat.mul_two];exact Nat.add_le_add_left (Nat.le_of_lt hlt) l),Nat.div_lt_of_lt_mul (by rw[Nat.two_mul];exact Nat.add_lt_add_right hlt e)⟩
   by_cases hc:Ky r p k < Ky r p ((l+e) / 2)
   ·rw[zT (zW hc)]
    exact zef hp hu f l _ m1 (zX (Nat.le_of_lt m2) h2) (Nat.le_of_lt_succ (Nat.lt_of_lt_of_le (Nat.sub_lt_sub_right m1 m2) h3)) ha fun i h4 h5=>Nat.lt_of_lt_of_le hc (hu _ _ h4 h5)
   ·rw[zR fun e=>hc (zV e)]
    exact zef hp hu f _ e m2 h2 (Nat.le_of_lt_succ (Nat.lt_of_lt_of_le (Nat.sub_lt_sub_left (Nat.lt_of_not_le hle) (Nat.lt_succ_of_le m1)) h3)) (fun i h4=>zX (hu i ((l+e) / 2) (Nat.le_of_lt_succ h4) (Nat.lt_of_lt_of_le m2 h2)) (Nat.le_of_not_lt hc)) hb
set_option tactic.hygienic true in
theorem zmC:∀ (f:Nat) (p:Array Nat) (k:Nat),Pm N p→k+f=N→Up r p k→KJ N r (kas_bin f p k) (fun p'=>Pm N p'∧Up r p' N)
 |0,p,k,hp,hk,hu=>by
  have:k=N:=hk;subst this;exact⟨hp,hu⟩
 |f+1,p,k,hp,hk,hu=>by
  unfold kas_bin;refine KJ.bind (KJ.mono (fun l hl=>?_) (zef hp hu k 0 k (Nat.zero_le _) (Nat.le_refl _) (Nat.sub_le k 0) (fun i h=>absurd h (Nat.not_lt_zero _)) (fun i h1 h2=>absurd h2 (Nat.not_lt_of_le h1))));obtain⟨h1,h2,h3⟩:=hl;have kb:∀ i,Ky r (bubble p k (k - l)) i=if i=l then Ky r p k else if l < i∧i≤k then Ky r p (i - 1) else Ky r p i:=fun i=>by
   have:=getElem?_bubble (xs:=p) (src:=k) (by rw[hp.size,← hk];exact Nat.lt_add_of_pos_right (Nat.succ_pos f)) (k - l) (Nat.sub_le _ _) i
   rw[Nat.sub_sub_self h1] at this
   split at this
   ·rename_i h;rw[zT h];exact zfr this
   ·rename_i h
    rw[zR h]
    split at this
    ·rename_i h';rw[zT h'];exact zfr this
    ·rename_i h';rw[zR h'];exact zfr this
  refine zmC f _ (k+1) (hp.of (bubble_perm _ _ _)) (by rw[Nat.add_right_comm];exact hk) ?_
  have vlt:∀ i,i < l→Ky r (bubble p k (k - l)) i=Ky r p i:=fun i h=>by rw[kb,zR (Nat.ne_of_lt h),zR fun x=>Nat.lt_asymm h x.1]
  have veq:Ky r (bubble p k (k - l)) l=Ky r p k:=by rw[kb,zT rfl]
  have vgt:∀ i,l < i→i≤k→Ky r (bubble p k (k - l)) i=Ky r p (i - 1):=fun i h h'=>by rw[kb,zR (Nat.ne_of_gt h),zT ⟨h,h'⟩]
  clear kb
  intro i j hij hj;have hjk:=Nat.le_of_lt_succ hj
  rcases Nat.lt_trichotomy j l with hjl|rfl|hjl
  ·rw[vlt j hjl,vlt i (Nat.lt_of_le_of_lt hij hjl)]
   exact hu i j hij (Nat.lt_of_lt_of_le hjl h1)
  ·rw[veq]
   rcases Nat.lt_or_eq_of_le hij with hi|rfl
   ·rw[vlt i hi];exact h2 i hi
   ·rw[veq];exact Nat.le_refl _
  ·have lt:j - 1 < k:=Nat.lt_of_lt_of_le (Nat.sub_lt (Nat.zero_lt_of_lt hjl) Nat.one_pos) hjk
   have le:l≤j - 1:=Nat.le_sub_one_of_lt hjl;rw[vgt j hjl hjk]
   rcases Nat.lt_trichotomy i l with hil|rfl|hil
   ·rw[vlt i hil];exact hu i _ (zX (Nat.le_of_lt hil) le) lt
   ·rw[veq];exact Nat.le_of_lt (h3 _ le lt)
   ·rw[vgt i hil (zX hij hjk)];exact hu _ _ (Nat.sub_le_sub_right hij 1) lt
theorem zm9 (h2:1≤N):KJ N r (kas_sort N) (fun p=>Pm N p∧Up r p N):=by
 unfold kas_sort;refine KJ.bind (KJ.mono (fun x hx=>?_) (zlK (Pm.one h2) h2))
 by_cases h:x.1 < N
 ·rw[zT h,Nat.max_eq_left hx.lo]
  exact zmC _ _ _ hx.pm (Nat.add_sub_cancel' hx.hi) hx.up
 ·rw[zR h]
  exact⟨hx.pm,Nat.le_antisymm hx.hi (Nat.le_of_not_lt h) ▸ hx.up⟩
end
section
variable {prog:Program}{w:World}{A:Around}{E:Value→Shared→Prop}{s:Shared}
theorem zhD {Q:Bool→Shared→Prop}(hu:A.units < cLine) (h1:s.heap.IsList l xs.toArray) (h2:s.heap.IsList b ys.toArray) (I1:IntsAre xs is) (I2:IntsAre ys js) (h:Q (lexLt is js) s) :
  wpAny (model prog w) A (keyLt' oneType' (.ref l) (.ref b)) Q E s:=by
 obtain⟨⟨k1,d1,u1,s1⟩,ho1,c1,n1,e1⟩:=h1;obtain⟨⟨k2,d2,u2,s2⟩,ho2,c2,n2,e2⟩:=h2;simp only at c1 c2 e1 e2;subst c1 c2 e1 e2;rw[keyLt'_oneType,oneLt'_eq];simp -iota only[if_true];refine yX (wpAny_cRoomFor hu ?_);exact yX (wpAny_callSpecialIfBound?_slot ⟨_,ho1,rfl⟩ F.slot_list_lt (call_meets F.slot_list_lt ⟨_,ho1,rfl⟩ F.entry_list_lt (F.args_list_lt_2 _ _) (zgN l b d1 d2 s1 s2 xs ys is js n1 n2 I1 I2) ⟨ho1,ho2,wpAny_truthy_bool h⟩))
theorem zem {κ:SortKind}{r:Nat→Nat}{P:PySem.Fin→Shared→Prop}(ho:s.heap.get? a=some (seqObj "list" vs.toArray n)) (h2:2≤vs.length) (h64:vs.length < 64)
  (hk:∀ {Q:SortKind→Shared→Prop},Q κ { s with heap:=((s.heap.update a (Obj.mapSeq fun z=>#[])).push (seqObj "tuple" vs.toArray 0)).push (seqObj "list" #[] 0) }→wpAny (model prog w) A (keyKind' vs.toArray) Q E { s with heap:=((s.heap.update a (Obj.mapSeq fun z=>#[])).push (seqObj "tuple" vs.toArray 0)).push (seqObj "list" #[] 0) })
  (hc:∀ i j C,i < vs.length→j < vs.length→C (decide (r i < r j)) { s with heap:=((s.heap.update a (Obj.mapSeq fun z=>#[])).push (seqObj "tuple" vs.toArray 0)).push (seqObj "list" #[] 0) }→kas_ask prog w A κ vs i j C { s with heap:=((s.heap.update a (Obj.mapSeq fun z=>#[])).push (seqObj "tuple" vs.toArray 0)).push (seqObj "list" #[] 0) })
  (h:∀ p,Pm vs.length p→Up r p vs.length→P (.done (.ret .none)) { s with heap:=sortedHeap s.heap a vs (p.toList.map fun i=>vs.getD i Value.none).toArray }) :
  wpAny (model prog w) A (Builtin.«list.sort» ⟨[.ref a],[]⟩) P E s:=by
 rw[list_sort_plain];have ha:a < s.heap.objs.size:=Heap.lt_size ho;have hle:vs.length≤sizeLine:=zX (Nat.le_of_lt h64) (by decide)
 refine yX (listItems_at ho rfl (yX (listUpdate_at ho rfl ?_ (by rw[size_toArray];exact hle) (Nat.zero_le _))))
 obtain⟨e1,ho1⟩:∃ e1,(s.heap.update a (Obj.mapSeq fun z=>#[])).get? a=some (seqObj "list" #[] e1):=⟨_,get?_update_seq ho (fun z=>#[])⟩;refine yX (seqEpoch_at ho1 rfl (yX (wpAny_newTuple (yX (wpAny_newList (yU ?_) (Nat.zero_le _))) hle)));have ho6:(((s.heap.update a (Obj.mapSeq fun z=>#[])).push (seqObj "tuple" vs.toArray 0)).push (seqObj "list" #[] 0)).get? a=some (seqObj "list" #[] e1) :=
  Heap.get?_push_of_some _ (Heap.get?_push_of_some _ ho1)
 show wpAny (model prog w) A _ P E { s with heap:=((s.heap.update a (Obj.mapSeq fun z=>#[])).push (seqObj "tuple" vs.toArray 0)).push (seqObj "list" #[] 0) }
 dsimp only;have hn2:¬ vs.toArray.size < 2:=by rw[size_toArray];exact Nat.not_lt.2 h2
 rw[zR hn2,zR hn2];refine yX (hk ?_);have est:SortSt.mk' κ (vs.toArray.zip vs.toArray) #[] 7 none=kas_st κ (pairsOf vs) (List.toArray (List.range vs.length)):=by
  have e:=kas_range (pairsOf vs);rw[pairsOf_size] at e;show SortSt.mk' κ (pairsOf vs) #[] 7 none=SortSt.mk' κ ((List.toArray (List.range vs.length)).map (kas_item (pairsOf vs))) #[] 7 none;rw[e]
 have run:=kas_runs (E:=E) (prog:=prog) (w:=w) (A:=A) (κ:=κ) (it:=pairsOf vs) (s:={ s with heap:=((s.heap.update a (Obj.mapSeq fun z=>#[])).push (seqObj "tuple" vs.toArray 0)).push (seqObj "list" #[] 0) })
  (Q:=fun z st' s'=>∃ p:Array Nat,arrOf st'=p.map (kas_item (pairsOf vs))∧failedOf st'=none∧s'={ s with heap:=((s.heap.update a (Obj.mapSeq fun z=>#[])).push (seqObj "tuple" vs.toArray 0)).push (seqObj "list" #[] 0) }∧Pm vs.length p∧Up r p vs.length)
  (G:=fun p s'=>s'={ s with heap:=((s.heap.update a (Obj.mapSeq fun z=>#[])).push (seqObj "tuple" vs.toArray 0)).push (seqObj "list" #[] 0) }∧Pm vs.length p∧Up r p vs.length)
  h2 h64 (fun p' st' s' z a2 a3 a4=>⟨p',a2,a3,a4⟩) (by
   rw[←kas_ask_eq];exact KJ.wp hc (fun p hp=>⟨rfl,hp⟩) (zm9 (by omega)))
 rw[←est] at run;refine yX (yV run ?_ fun z z e=>e)
 rintro⟨⟨⟩,st'⟩ s' ⟨p,har,hf,rfl,hp,hu⟩
 dsimp only;have hout:(arrOf st').map (·.2)=(p.toList.map fun i=>vs.getD i Value.none).toArray:=by
  apply Array.toList_inj.mp
  rw[har,Array.map_map,Array.toList_map];exact map_congr_left fun i z=>by show(kas_item (pairsOf vs) i).2=_;rw[kas_item_eq]
 rw[hout];refine yX (seqEpoch_at ho6 rfl (yX (listUpdate_at ho6 rfl ?_ (Nat.zero_le _) (by
  show((p.toList.map fun i=>vs.getD i Value.none).toArray).size≤_;rw[size_toArray,zJ,Array.length_toList,hp.size];exact Nat.le_succ_of_le hle))))
 rw[hf];simp only[bne_self_eq_false,Bool.false_eq_true,if_false];exact yW (h p hp hu)
end
end Mine
namespace Mine
structure Ord {α:Type}(lt:α→α→Bool):Prop where
 irr:∀ a,lt a a=false
 tr:∀ a b c,lt a b=true→lt b c=true→lt a c=true
 tot:∀ a b,lt a b=false→lt b a=false→a=b
theorem zfl {β:Type}{p q:β→Bool}{l:List β}(hpq:∀ x∈l,p x=true→q x=true){x:β}(hx:x∈l) (h1:p x=false) (h2:q x=true):l.countP p < l.countP q:=by
 induction l with
 |nil=>cases hx
 |cons a l ih =>
  have hl:∀ x∈l,p x=true→q x=true:=fun x hx=>hpq x (zY _ hx);rw[List.countP_cons,List.countP_cons]
  rcases zN.1 hx with rfl|hx
  ·rw[h1,h2];exact Nat.lt_succ_of_le (List.countP_mono_left hl)
  ·have:=ih hl hx
   have ha:=hpq a (zZ ..)
   cases hpa:p a with
   |true=>rw[ha hpa];exact Nat.add_lt_add_right this _
   |false=>exact Nat.lt_of_lt_of_le this (Nat.le_add_right ..)
section
variable {α:Type}{lt:α→α→Bool}
noncomputable def rank (lt:α→α→Bool) (key:Nat→α) (n i:Nat):Nat:=(List.range n).countP fun j=>lt (key j) (key i)
theorem ziG (o:Ord lt){key:Nat→α}{n i j:Nat}(hi:i < n) (hj:j < n):lt (key i) (key j)=decide (rank lt key n i < rank lt key n j):=by
 have up:∀ i j,i < n→lt (key i) (key j)=true→rank lt key n i < rank lt key n j:=fun i j hi h =>
  zfl (fun x z hx=>o.tr _ _ _ hx h) (List.mem_range.2 hi) (o.irr _) h
 cases h:lt (key i) (key j) with
 |true=>exact(zW (up i j hi h)).symm
 |false =>
  cases h':lt (key j) (key i) with
  |true=>exact(zU (Nat.lt_asymm (up j i hj h'))).symm
  |false =>
   have:=o.tot _ _ h h';refine(zU ?_).symm;unfold rank;rw[this];exact Nat.lt_irrefl _
theorem zgR (x:α) (l:List α):(isort.insertBy' lt x l).Perm (x::l):=by
 induction l with
 |nil=>exact List.Perm.refl _
 |cons y ys ih =>
  rw[zcJ]
  split
  ·exact(ih.cons y).trans (List.Perm.swap ..)
  ·exact List.Perm.refl _
theorem za2 (l:List α):(isort lt l).Perm l:=by
 induction l with
 |nil=>exact List.Perm.refl _
 |cons x xs ih=>exact(zgR x _).trans (ih.cons x)
theorem zpV {le:α→α→Prop}(h1:∀ a b,lt a b=true→le a b) (h2:∀ a b,lt a b=false→le b a) (ht:∀ a b c,le a b→le b c→le a c) (x:α) (l:List α) (h:l.Pairwise le):(isort.insertBy' lt x l).Pairwise le:=by
 induction l with
 |nil=>exact List.pairwise_singleton ..
 |cons y ys ih =>
  obtain⟨h3,h4⟩:=List.pairwise_cons.1 h;rw[zcJ]
  cases hc:lt y x with
  |true =>
   refine List.pairwise_cons.2 ⟨fun z hz=>?_,ih h4⟩
   rcases zN.1 ((zgR x ys).mem_iff.1 hz) with rfl|hz
   ·exact h1 _ _ hc
   ·exact h3 z hz
  |false =>
   have hle:=h2 y x hc;refine List.pairwise_cons.2 ⟨fun z hz=>?_,h⟩
   rcases zN.1 hz with rfl|hz
   ·exact hle
   ·exact ht _ _ _ hle (h3 z hz)
theorem zeC {le:α→α→Prop}(h1:∀ a b,lt a b=true→le a b) (h2:∀ a b,lt a b=false→le b a) (ht:∀ a b c,le a b→le b c→le a c) (l:List α):(isort lt l).Pairwise le:=by
 induction l with
 |nil=>exact List.Pairwise.nil
 |cons x xs ih=>exact zpV h1 h2 ht x _ ih
theorem Ord.asymm (o:Ord lt) (h:lt a b=true):lt b a=false:=by
 cases h':lt b a with
 |false=>rfl
 |true=>have:=o.tr _ _ _ h h';rw[o.irr] at this;cases this
theorem Ord.le_tr (o:Ord lt) (h1:lt b a=false) (h2:lt c b=false):lt c a=false:=by
 cases h:lt c a with
 |false=>rfl
 |true =>
  cases h3:lt a b with
  |true=>have:=o.tr _ _ _ h h3;rw[h2] at this;cases this
  |false=>have e:=o.tot _ _ h3 h1;subst e;rw[h2] at h;cases h
end
theorem znE:Ord fun a b:Int=>decide (a < b):=⟨fun a=>zU (Int.lt_irrefl a),fun a b c h1 h2=>zW (Int.lt_trans (zV h1) (zV h2)),fun a b h1 h2=>Int.le_antisymm (Int.not_lt.1 (of_decide_eq_false h2)) (Int.not_lt.1 (of_decide_eq_false h1))⟩
theorem zi8 (a:List Int):lexLt a a=false:=by
 induction a with
 |nil=>rfl
 |cons x a ih=>rw[zcd,zT rfl];exact ih
theorem zmk (a b c:List Int) (h1:lexLt a b=true) (h2:lexLt b c=true):lexLt a c=true:=by
 induction a generalizing b c with
 |nil=>cases b with
  |nil=>cases h1
  |cons _ _=>cases c with
   |nil=>cases h2
   |cons _ _=>rfl
 |cons x a ih=>cases b with
  |nil=>cases h1
  |cons y b=>cases c with
   |nil=>cases h2
   |cons z c =>
    rw[zcd] at h1 h2 ⊢
    by_cases e1:x=y
    ·subst e1
     rw[zT rfl] at h1
     by_cases e2:x=z
     ·subst e2
      rw[zT rfl] at h2 ⊢
      exact ih b c h1 h2
     ·rw[zR e2] at h2 ⊢;exact h2
    ·rw[zR e1] at h1
     have h1:=zV h1
     by_cases e2:y=z
     ·subst e2
      rw[zR e1];exact zW h1
     ·rw[zR e2] at h2
      have h2:=zV h2;rw[zR fun q=>absurd (Int.lt_trans h1 h2) (by rw[q];exact Int.lt_irrefl _)];exact zW (Int.lt_trans h1 h2)
theorem zi7 (a b:List Int) (h1:lexLt a b=false) (h2:lexLt b a=false):a=b:=by
 induction a generalizing b with
 |nil=>cases b with
  |nil=>rfl
  |cons _ _=>cases h1
 |cons x a ih=>cases b with
  |nil=>cases h2
  |cons y b =>
   rw[zcd] at h1 h2
   by_cases e:x=y
   ·subst e
    rw[zT rfl] at h1 h2;rw[ih b h1 h2]
   ·rw[zR e] at h1
    rw[zR (Ne.symm e)] at h2;exact absurd (Int.le_antisymm (Int.not_lt.1 (of_decide_eq_false h2)) (Int.not_lt.1 (of_decide_eq_false h1))) e
theorem ziS:Ord lexLt:=⟨zi8,zmk,zi7⟩
end Mine
namespace Mine
open PySem PySem.W PyProof.Rows
section
variable {α:Type}{lt:α→α→Bool}
theorem zea (o:Ord lt){β:Type}{L:List (α × β)}{d:α × β}(det:∀ p∈L,∀ q∈L,p.1=q.1→p.2=q.2){p:Array Nat}(hp:Pm L.length p) (hu:Up (rank lt (fun i=>(L.getD i d).1) L.length) p L.length) :
  p.toList.map (fun i=>L.getD i d)=isort (fun a b=>lt a.1 b.1) L:=by
 have pm:(p.toList.map fun i=>L.getD i d).Perm L:=by
  have h1:p.toList.Perm (List.range L.length):=by simpa using hp.perm.toList
  have h2:=h1.map fun i=>L.getD i d;have h3:(List.range L.length).map (fun i=>L.getD i d)=L:=ext_getElem (by simp) fun i h1 h2=>by simp[h2]
  rwa [h3] at h2
 refine List.Perm.eq_of_pairwise (le:=fun a b=>lt b.1 a.1=false) (fun a b ha hb h1 h2=>?_) ?_ (zeC (lt:=fun a b:α × β=>lt a.1 b.1) (le:=fun a b=>lt b.1 a.1=false) (fun a b h=>o.asymm h) (fun a b h=>h) (fun a b c h1 h2=>o.le_tr h1 h2) L) (pm.trans (za2 L).symm)
 ·have ha:=pm.mem_iff.1 ha
  have hb:=(za2 L).mem_iff.1 hb;have e1:=o.tot _ _ h2 h1;exact Prod.ext e1 (det a ha b hb e1)
 ·rw[List.pairwise_iff_getElem]
  intro i j hi hj hij;simp only[zJ,Array.length_toList,hp.size] at hi hj;have hk:=hu i j (Nat.le_of_lt hij) hj;have e:∀ k,(hk:k < L.length)→p.toList[k]'(by rw[Array.length_toList,hp.size];exact hk)=p.getD k 0:=fun k hk=>by
   simp[Array.getD,hp.size,hk]
  rw[getElem_map,getElem_map,e i hi,e j hj];rw[ziG o (key:=fun i=>(L.getD i d).1) (hp.lt j) (hp.lt i)];exact zU (Nat.not_lt.2 hk)
end
section
variable {prog:Program}{w:World}{A:Around}{E:Value→Shared→Prop}{s:Shared}
theorem zdh {P:PySem.Fin→Shared→Prop}(ho:s.heap.get? a=some (seqObj "list" vs.toArray n)) (h2:vs.length < 2)
  (h:P (.done (.ret .none)) { s with heap:=sortedHeap s.heap a vs vs.toArray }):wpAny (model prog w) A (Builtin.«list.sort» ⟨[.ref a],[]⟩) P E s:=by
 rw[list_sort_plain];have hle:vs.length≤sizeLine:=zX (Nat.le_of_lt h2) (by decide)
 refine yX (listItems_at ho rfl (yX (listUpdate_at ho rfl ?_ (by rw[size_toArray];exact hle) (Nat.zero_le _))))
 obtain⟨e1,ho1⟩:∃ e1,(s.heap.update a (Obj.mapSeq fun z=>#[])).get? a=some (seqObj "list" #[] e1):=⟨_,get?_update_seq ho (fun z=>#[])⟩;refine yX (seqEpoch_at ho1 rfl (yX (wpAny_newTuple (yX (wpAny_newList (yU ?_) (Nat.zero_le _))) hle)));have ho6:(((s.heap.update a (Obj.mapSeq fun z=>#[])).push (seqObj "tuple" vs.toArray 0)).push (seqObj "list" #[] 0)).get? a=some (seqObj "list" #[] e1) :=
  Heap.get?_push_of_some _ (Heap.get?_push_of_some _ ho1)
 show wpAny (model prog w) A _ P E { s with heap:=((s.heap.update a (Obj.mapSeq fun z=>#[])).push (seqObj "tuple" vs.toArray 0)).push (seqObj "list" #[] 0) }
 dsimp only;have hn2:vs.toArray.size < 2:=by rw[size_toArray];exact h2
 rw[zT hn2,zT hn2];refine yX (yW ?_);rw[StateT.run_pure];refine yX (yW ?_);dsimp only;have hout:(vs.toArray.zip vs.toArray).map (·.2)=vs.toArray:=by
  apply Array.toList_inj.mp
  rw[Array.toList_map];show List.map _ (pairsOf vs).toList=vs;rw[pairsOf_toList];exact List.map_snd_zip (Nat.le_refl _)
 rw[show arrOf (SortSt.mk' general' (vs.toArray.zip vs.toArray) #[] 7 none)=vs.toArray.zip vs.toArray from rfl,hout];refine yX (seqEpoch_at ho6 rfl (yX (listUpdate_at ho6 rfl ?_ (Nat.zero_le _) (by show vs.toArray.size≤_;rw[size_toArray];exact Nat.le_succ_of_le hle))))
 simp only[bne_self_eq_false,Bool.false_eq_true,if_false];exact yW h
theorem zcX {κ:SortKind}{r:Nat→Nat}{Q:Value→Shared→Prop}(h64:vs.length < 64)
  (hcol:∀ {E':Value→Shared→Prop}{Q':List Value→Shared→Prop},(∀ h₁ tk,(∀ b o,s.heap.get? b=some o→h₁.get? b=some o)→Q' vs { s with heap:=h₁,toks:=tk })→wpAny (model prog w) A.in1 (collect x) Q' E' s)
  (hk:2≤vs.length→∀ {A:Around}{E:Value→Shared→Prop}{s':Shared}{Q:SortKind→Shared→Prop},(∀ b o,s.heap.get? b=some o→s'.heap.get? b=some o)→Q κ s'→wpAny (model prog w) A (keyKind' vs.toArray) Q E s')
  (hc:2≤vs.length→∀ i j C s',i < vs.length→j < vs.length→(∀ b o,s.heap.get? b=some o→s'.heap.get? b=some o)→C (decide (r i < r j)) s'→kas_ask prog w A.in1.in1 κ vs i j C s')
  (h:∀ out a e h' tk,(vs.length < 2∧out=vs∨2≤vs.length∧∃ p,Pm vs.length p∧Up r p vs.length∧out=p.toList.map fun i=>vs.getD i Value.none)→(∀ b o,s.heap.get? b=some o→h'.get? b=some o)→s.heap.get? a=none→h'.get? a=some (seqObj "list" out.toArray e)→Q (.ref a) { s with heap:=h',toks:=tk }) :
  wpAny (model prog w) A (call (.builtin "sorted") [x]) Q E s:=by
 have hle:vs.length≤sizeLine:=zX (Nat.le_of_lt h64) (by decide)
 refine Calls.call_function_entry kind_sorted plain_sorted entry_sorted (args_sorted1 _) ?_;unfold Builtin.«sorted»
 refine yX (m:=checkCount "sorted" 1 1 _) (yW (yX (hcol fun h₁ tk k1=>yX (wpAny_newList ?_ hle))));have hoL:(h₁.push (seqObj "list" vs.toArray 0)).get? h₁.objs.size=some (seqObj "list" vs.toArray 0):=Heap.get?_push_size _ rfl;have old:∀ {b o},s.heap.get? b=some o→b < h₁.objs.size:=fun q=>Heap.lt_size (k1 _ _ q);have fresh:s.heap.get? h₁.objs.size=none:=by
  cases q:s.heap.get? h₁.objs.size with
  |none=>rfl
  |some o=>exact absurd (old q) (Nat.lt_irrefl _)
 have k2:∀ b o,s.heap.get? b=some o→(h₁.push (seqObj "list" vs.toArray 0)).get? b=some o:=fun b o q=>Heap.get?_push_of_some _ (k1 b o q);refine yX (yU (wpAny_call_entry slot_list_sort ⟨_,hoL,rfl⟩ entry_list_sort ?_ (args_list_sort _)));have fin:∀ out:List Value,(vs.length < 2∧out=vs∨2≤vs.length∧∃ p,Pm vs.length p∧Up r p vs.length∧out=p.toList.map fun i=>vs.getD i Value.none)→Q (.ref h₁.objs.size) { s with heap:=sortedHeap (h₁.push (seqObj "list" vs.toArray 0)) h₁.objs.size vs out.toArray,toks:=tk }:=fun out ho=>by
  obtain⟨e,he⟩:=sortedHeap_at (out:=out.toArray) hoL;refine h out _ e _ tk ho (fun b o q=>?_) fresh he;rw[sortedHeap_old (Nat.ne_of_lt (old q)) (Nat.lt_trans (old q) (Heap.lt_size hoL))];exact k2 b o q
 rcases Nat.lt_or_ge vs.length 2 with h2|h2
 ·exact zdh (s:={ s with heap:=h₁.push (seqObj "list" vs.toArray 0),toks:=tk }) hoL h2 ⟨_,rfl,yW ⟨_,rfl,fin vs (.inl ⟨h2,rfl⟩)⟩⟩
 ·have k3:∀ b o,s.heap.get? b=some o→(((((h₁.push (seqObj "list" vs.toArray 0)).update h₁.objs.size (Obj.mapSeq fun z=>#[])).push (seqObj "tuple" vs.toArray 0)).push (seqObj "list" #[] 0))).get? b=some o:=fun b o q=>by
   refine Heap.get?_push_of_some _ (Heap.get?_push_of_some _ ?_);rw[Heap.get?_update_ne _ _ _ _ (Nat.ne_of_lt (old q))];exact k2 b o q
  exact zem (s:={ s with heap:=h₁.push (seqObj "list" vs.toArray 0),toks:=tk }) hoL h2 h64 (fun hq=>hk h2 k3 hq) (fun i j C hi hj hC=>hc h2 i j C _ hi hj k3 hC)
   fun p hp hu=>⟨_,rfl,yW ⟨_,rfl,fin _ (.inr ⟨h2,p,hp,hu,rfl⟩)⟩⟩
end
theorem zfe {α:Type}{f:V→Option α}{vs:List V}{L:List (α × V)}(h:keyed f vs=some L):L.length=vs.length∧∀ (i:Nat) (v:V),vs[i]?=some v→∃ a,L[i]?=some (a,v)∧f v=some a:=by
 induction vs generalizing L with
 |nil=>cases h;exact⟨rfl,fun i v h=>no h⟩
 |cons v vs ih =>
  obtain⟨a,ha,h⟩:=Option.bind_eq_some_iff.1 h;obtain⟨L',hL,rfl⟩:=Option.map_eq_some_iff.1 h;obtain⟨h1,h2⟩:=ih hL;refine⟨congrArg Nat.succ h1,fun i w hw=>?_⟩
  cases i with
  |zero=>cases hw;exact⟨a,rfl,ha⟩
  |succ i=>exact h2 i w hw
theorem zoF (hv:VRs am π h vs xs) (is:List Nat) (hi:∀ i∈is,i < vs.length):VRs am π h (is.map fun i=>vs.getD i .none) (is.map fun i=>xs.getD i Value.none):=by
 induction is with
 |nil=>rfl
 |cons i is ih =>
  obtain⟨x,hx,hvx⟩:=hv.get i (vs.getD i .none) (by rw[List.getD_eq_getElem?_getD,zM (hi i (zZ ..))];rfl)
  exact⟨x,_,by rw[yY,List.getD_eq_getElem?_getD,hx];rfl,hvx,ih fun j hj=>hi j (zY _ hj)⟩
theorem zf8 {α:Type}(lt:α→α→Bool):∀ (L:List α),L.length < 2→isort lt L=L
 |[],_=>rfl
 |[_],_=>rfl
 |_::_::_,h=>absurd h (by simp)
section
variable {am:Amb}{sk:List Env}{A:Around}{π:List Addr}{s:Shared}{Hc:H}
theorem zmd (hp:Pm N p):∀ i∈p.toList,i < N:=fun i hi=>by
 have:i∈List.toArray (List.range N):=hp.perm.mem_iff.1 (Array.mem_toList_iff.1 hi)
 simpa using this
set_option tactic.hygienic true in
theorem zcQ {α:Type} [DecidableEq α] {lt:α→α→Bool}(o:Ord lt){f:V→Option α}{src:Value}{vs ws:List V}{xs:List Value}{L:List (α × V)}{κ:SortKind}(dflt:α)
  (hcol:∀ {E':Value→Shared→Prop}{Q':List Value→Shared→Prop},(∀ h₁ tk,(∀ b o,s.heap.get? b=some o→h₁.get? b=some o)→Q' xs { s with heap:=h₁,toks:=tk })→wpAny am.M A.in1 (collect src) Q' E' s)
  (hv:VRs am π s.heap vs xs) (hL:keyed f vs=some L) (hw:sortBy lt L=some ws)
  (hk:2≤xs.length→∀ {A:Around}{E:Value→Shared→Prop}{s':Shared}{Q:SortKind→Shared→Prop},(∀ b o,s.heap.get? b=some o→s'.heap.get? b=some o)→Q κ s'→wpAny am.M A (keyKind' xs.toArray) Q E s')
  (hc:∀ v x u y a b s',VR am π s.heap v x→VR am π s.heap u y→f v=some a→f u=some b→(∀ b o,s.heap.get? b=some o→s'.heap.get? b=some o)→∀ C:Bool→Shared→Prop,C (lt a b) s'→wpAny am.M A.in1.in1 (keyLt' κ x y) C (fun z z=>False) s')
  {Q:Value→Shared→Prop}{E:Value→Shared→Prop}(h:∀ y s',NewL am π s ws y s'→Q y s'):wpAny am.M A (call (.builtin "sorted") [src]) Q E s:=by
 obtain⟨hlen,hget⟩:=zfe hL;have hx:=hv.len;unfold sortBy at hw
 split at hw
 ·rename_i hcond
  simp only[Bool.and_eq_true,decide_eq_true_eq,all_eq_true] at hcond;obtain⟨h64,det⟩:=hcond
  cases hw
  have at':∀ i,i < xs.length→∃ v a,vs[i]?=some v∧L[i]?=some (a,v)∧f v=some a∧VR am π s.heap v (xs.getD i Value.none)∧(L.getD i (dflt,.none)).1=a:=fun i hi=>by
   have e:vs[i]?=some (vs.getD i .none):=by
    have:i < vs.length:=hx ▸ hi;simp[this]
   obtain⟨a,e1,e2⟩:=hget i _ e;obtain⟨x,e3,e4⟩:=hv.get i _ e;have ex:xs.getD i Value.none=x:=by simp[List.getD_eq_getElem?_getD,e3]
   exact⟨_,a,e,e1,e2,by rw[ex];exact e4,by simp[List.getD_eq_getElem?_getD,e1]⟩
  refine zcX (κ:=κ) (r:=rank lt (fun i=>(L.getD i (dflt,.none)).1) xs.length) (by rw[hx,← hlen];exact h64) hcol hk ?_ ?_
  ·intro _ i j C s' hi hj k hC
   obtain⟨v,a,_,_,e3,e4,e5⟩:=at' i hi;obtain⟨u,b,_,_,f3,f4,f5⟩:=at' j hj;refine hc v _ u _ a b s' e4 f4 e3 f3 k C ?_;rw[←ziG o hi hj,e5,f5] at hC;exact hC
  ·intro out a e h' tk ho k fr hg
   refine h _ _ ⟨_,out,h',tk,rfl,rfl,k,fr,⟨_,e,hg,rfl,rfl,rfl⟩,VRs.keeps k (VRs.held fr ?_)⟩
   rcases ho with⟨h2,rfl⟩|⟨_,p,hp,hu,rfl⟩
   ·have:(isort (fun a b=>lt a.1 b.1) L).map (·.2)=vs:=by
     have e:L.map (·.2)=vs:=List.ext_getElem? fun i=>by
      rw[List.getElem?_map]
      cases hvi:vs[i]? with
      |none=>rw[List.getElem?_eq_none (by rw[hlen];simpa using hvi)];rfl
      |some v=>obtain⟨a,e1,_⟩:=hget i v hvi;rw[e1];rfl
     rw[zf8 _ L (by rw[hlen,← hx];exact h2),e]
    rw[this];exact hv
   ·have exl:xs.length=L.length:=hx.trans hlen.symm
    rw[exl] at hp hu;rw[←zea o (d:=(dflt,V.none)) (fun p hp q hq=>det p hp q hq) hp hu,map_map];have e:=zoF hv p.toList (fun i hi=>by rw[←hlen];exact zmd hp i hi)
    have e2:(p.toList.map ((fun x:α × V=>x.2)∘fun i=>L.getD i (dflt,V.none)))=p.toList.map fun i=>vs.getD i .none:=map_congr_left fun i hi=>by
     have:=zmd hp i hi;obtain⟨v,a,e1,e2,_⟩:=at' i (by rw[exl];exact this)
     simp[List.getD_eq_getElem?_getD,e1,e2]
    rw[e2];exact e
 ·cases hw
end
theorem znR:decide ((x::xs).length < (y::ys).length)=decide (xs.length < ys.length):=decide_eq_decide.2 Nat.succ_lt_succ_iff
theorem znQ {Q:Bool→Shared→Prop}(h1:IntsAre xs is):∀ {ys:List Value}{js:List Int}(k:Nat),IntsAre ys js→Q (lexLt is js) s→KatLex prog w A true (decide (xs.length < ys.length)) Q (xs.zip ys) k s:=by
 induction h1 with
 |nil =>
  intro ys js k h2 h
  cases h2 with
  |nil=>exact h
  |cons j u h2=>exact h
 |cons i t h1 ih =>
  intro ys js k h2 h
  cases h2 with
  |nil=>exact h
  |cons j u h2 =>
   rw[zcd] at h;refine kat_cons (wpAny_eqBool_int ?_)
   by_cases e:i=j
   ·rw[zT e] at h
    rw[show(i == j)=true from beq_iff_eq.2 e];refine kat_yes ?_;rw[znR];exact ih (k+1) h2 h
   ·rw[zR e] at h
    rw[show(i == j)=false from beq_false_of_ne e];refine kat_no ?_
    cases k with
    |zero=>exact oneLt_int h
    |succ k=>exact kat_one _ _ (lt_int h)
section
variable {am:Amb}{sk:List Env}{A:Around}{π:List Addr}{s:Shared}{Hc:H}
theorem zeA (hvx:VR am π h v x) (hk:keyT1 v=some is):∃ b o n y ys,x=.ref b∧h.get? b=some o∧o.cls=.type "tuple"∧o.data=.seq (List.toArray (y::ys)) n∧IntsAre (y::ys) is:=by
 cases v with
 |tup us =>
  cases us with
  |nil=>cases hk
  |cons u us =>
   obtain⟨b,ys,rfl,_,⟨o,ho,hc,n,hd⟩,_,hvs⟩:=hvx;have hi:=zcn (show asInts (u::us)=some is from hk) hvs;obtain⟨y,ys',rfl,_⟩:=hvs;exact⟨b,o,n,y,ys',rfl,ho,hc,hd,hi⟩
 |_=>cases hk
theorem zmX (hk:keyed keyT1 vs=some L) (hv:VRs am π h vs xs):∃ fs,KatTups h xs fs∧fs.length=xs.length∧∀ v∈fs,∃ i t,v=.int i t:=by
 induction vs generalizing xs L with
 |nil=>cases hv;exact⟨[],trivial,rfl,fun z h=>(not_mem_nil h).elim⟩
 |cons v vs ih =>
  obtain⟨a,ha,hk⟩:=Option.bind_eq_some_iff.1 hk;obtain⟨L',hL,rfl⟩:=Option.map_eq_some_iff.1 hk;obtain⟨x,xs',rfl,hx,hv⟩:=hv;obtain⟨fs,h1,h2,h3⟩:=ih hL hv;obtain⟨b,o,n,y,ys,rfl,ho,hc,hd,hi⟩:=zeA hx ha;refine⟨y::fs,KatTups.cons ho hc hd rfl h1,congrArg Nat.succ h2,fun v hv=>?_⟩
  rcases zN.1 hv with rfl|hv
  ·cases hi;exact⟨_,_,rfl⟩
  ·exact h3 v hv
theorem zjd (k:∀ b o,h.get? b=some o→h'.get? b=some o) (t:KatTups h xs fs):KatTups h' xs fs:=by
 induction xs generalizing fs with
 |nil=>cases fs with
  |nil=>trivial
  |cons _ _=>exact t.elim
 |cons x xs ih=>cases fs with
  |nil=>exact t.elim
  |cons y fs =>
   obtain⟨⟨a,o,xs,n,e,ho,r⟩,t⟩:=t;exact⟨⟨a,o,xs,n,e,k _ _ ho,r⟩,ih t⟩
theorem zgs {α:Type}{f:V→Option α}{vs:List V}{xs:List Value}{L:List (α × V)}{T:Value}{P:Heap→Prop}(hL:keyed f vs=some L) (hv:VRs am π s.heap vs xs)
  (h:∀ v x a,VR am π s.heap v x→f v=some a→∀ h',(∀ b o,s.heap.get? b=some o→h'.get? b=some o)→Looks am.M h' (typeOf x) T):∀ x∈xs,∀ h',(∀ b o,s.heap.get? b=some o→h'.get? b=some o)→Looks am.M h' (typeOf x) T:=fun x hm h' k=>by
 obtain⟨i,hi⟩:=List.mem_iff_getElem?.1 hm;have hlt:=(List.getElem?_eq_some_iff.1 hi).1;rw[hv.len] at hlt;have e:vs[i]?=some vs[i]:=zM hlt;obtain⟨k',_,e2⟩:=(zfe hL).2 i _ e;obtain⟨y,e3,e4⟩:=hv.get i _ e;rw[hi] at e3;cases e3
 exact h _ _ _ e4 e2 h' k
theorem zeN (as:AS n sk A) (hr:HR am sk π Hc s.heap)
  (hcol:∀ {E':Value→Shared→Prop}{Q':List Value→Shared→Prop},(∀ h₁ tk,(∀ b o,s.heap.get? b=some o→h₁.get? b=some o)→Q' xs { s with heap:=h₁,toks:=tk })→wpAny am.M A.in1 (collect src) Q' E' s)
  (hv:VRs am π s.heap vs xs) (hs:sortVs Hc vs=some ws){Q:Value→Shared→Prop}{E:Value→Shared→Prop}(h:∀ y s',NewL am π s ws y s'→Q y s'):wpAny am.M A (call (.builtin "sorted") [src]) Q E s:=by
 have hu:(A.in1.in1).units < cLine:=as.uk (k:=2) (by decide)
 unfold sortVs at hs
 cases h1:keyed keyI vs with
 |some L =>
  rw[h1] at hs;refine zcQ znE 0 (κ:=oneType') hcol hv h1 hs (fun h2 A' E' s' Q' k hq=>kas_kind (T:=.type "int") h2 (fun v hm=>zgs (P:=fun z=>True) h1 hv (fun v x a hx hk h' z=>?_) v hm s'.heap k) rfl rfl hq) (fun v x u y a b s' e1 e2 f1 f2 k C hC=>?_) h
  ·cases v<;>first|(cases hk;done)|skip
   obtain⟨t,rfl⟩:=hx;exact Looks.of_pure rfl
  ·cases v<;>first|(cases f1;done)|skip
   cases u<;>first|(cases f2;done)|skip
   cases f1;cases f2
   obtain⟨t,rfl⟩:=e1;obtain⟨t',rfl⟩:=e2;rw[keyLt'_oneType];exact oneLt_int hC
 |none =>
  rw[h1] at hs
  cases h2:keyed (keyL Hc) vs with
  |some L =>
   rw[h2] at hs;refine zcQ ziS [] (κ:=oneType') hcol hv h2 hs (fun h3 A' E' s' Q' k hq=>kas_kind (T:=.type "list") h3 (fun v hm=>zgs (P:=fun z=>True) h2 hv (fun v x a hx hk h' k=>?_) v hm s'.heap k) rfl rfl hq) (fun v x u y a b s' e1 e2 f1 f2 k C hC=>?_) h
   ·obtain⟨b,ys,rfl,⟨o,ho,hc,r⟩,_⟩:=zdk hr hx hk
    exact fun A' Q' E' s' k' q=>wpAny_typeOf ⟨o,k' _ _ (k _ _ ho),hc⟩ q
   ·obtain⟨l1,ys,rfl,⟨o,ho,r⟩,i1⟩:=zdk hr e1 f1
    obtain⟨l2,zs,rfl,⟨o',ho',r'⟩,i2⟩:=zdk hr e2 f2;exact zhD hu ⟨o,k _ _ ho,r⟩ ⟨o',k _ _ ho',r'⟩ i1 i2 hC
  |none =>
   rw[h2] at hs
   cases h3:keyed keyT1 vs with
   |some L =>
    rw[h3] at hs;obtain⟨fs,t1,t2,t3⟩:=zmX h3 hv;refine zcQ ziS [] (κ:=tuples' true) hcol hv h3 hs (fun h4 A' E' s' Q' k hq=>kat_kind (T:=.type "int") (zjd k t1) (by rw[t2];exact Nat.lt_of_lt_of_le Nat.two_pos h4) (fun v hm=>?_) rfl hq) (fun v x u y a b s' e1 e2 f1 f2 k C hC=>?_) h
    ·obtain⟨i,t,rfl⟩:=t3 v hm
     exact Looks.of_pure rfl
    ·obtain⟨b1,o1,n1,y1,ys1,rfl,ho1,_,hd1,i1⟩:=zeA e1 f1
     obtain⟨b2,o2,n2,y2,ys2,rfl,ho2,_,hd2,i2⟩:=zeA e2 f2;exact kat_lt (k _ _ ho1) hd1 (k _ _ ho2) hd2 (znQ i1 0 i2 hC)
   |none =>
    rw[h3] at hs;dsimp only at hs
    by_cases hlt:vs.length < 2
    ·rw[zT hlt] at hs
     cases hs
     have h2:¬ 2≤xs.length:=by rw[hv.len];exact Nat.not_le.2 hlt
     refine zcX (κ:=oneType') (r:=id) (by rw[hv.len];exact Nat.lt_trans hlt (by decide)) hcol (fun q=>absurd q h2) (fun q=>absurd q h2) fun out a e h' tk ho k fr hg=>?_
     refine h _ _ ⟨_,out,h',tk,rfl,rfl,k,fr,⟨_,e,hg,rfl,rfl,rfl⟩,VRs.keeps k (VRs.held fr ?_)⟩
     rcases ho with⟨_,rfl⟩|⟨q,_⟩
     ·exact hv
     ·exact absurd q h2
    ·rw[zR hlt] at hs;cases hs
set_option tactic.hygienic true in
theorem zdM (e:sortVs h vs=some ws):ws.length≤1000000:=by
 have by':∀ {α:Type} [DecidableEq α] {lt:α→α→Bool}{L:List (α × V)},sortBy lt L=some ws→ws.length≤1000000:=fun {α _ lt L} e=>by
  unfold sortBy at e
  split at e
  ·rename_i hc
   simp only[Bool.and_eq_true,decide_eq_true_eq] at hc
   cases e
   rw[zJ,(za2 L).length_eq];exact zX (Nat.le_of_lt hc.1) (by decide)
  ·cases e
 unfold sortVs at e
 cases h1:keyed keyI vs with
 |some L=>rw[h1] at e;exact by' e
 |none =>
  rw[h1] at e
  cases h2:keyed (keyL h) vs with
  |some L=>rw[h2] at e;exact by' e
  |none =>
   rw[h2] at e
   cases h3:keyed keyT1 vs with
   |some L=>rw[h3] at e;exact by' e
   |none =>
    rw[h3] at e;dsimp only at e
    by_cases hlt:vs.length < 2
    ·rw[zT hlt] at e;cases e;exact zX (Nat.le_of_lt hlt) (by decide)
    ·rw[zR hlt] at e;cases e
theorem zjO (hr:HR am sk π Hc s.heap) (ha:VR am π s.heap a x) (h:dictOf Hc a=some es):∃ i d o arr ep xs,a=.ref i∧x=.ref d∧π[i]?=some d∧Hc[i]?=some (.dict es)∧DC am π s.heap es d o arr ep xs:=by
 cases a with
 |ref i =>
  obtain⟨l,rfl,hi⟩:=ha;simp only[dictOf] at h
  cases hq:Hc[i]? with
  |none=>rw[hq] at h;cases h
  |some c =>
   rw[hq] at h
   cases c with
   |list vs=>cases h
   |dict es' =>
    cases h
    obtain⟨o,arr,ep,xs,D⟩:=(hr.cell i _ l hq hi).dict;exact⟨i,l,o,arr,ep,xs,rfl,rfl,hi,hq,D⟩
 |_=>cases h
theorem zjG (r:VRs am π h (es.flatMap fun e=>[e.1,e.2]) xs):VRs am π h (es.map (·.1)) ((ents es xs).map (·.key)):=by
 induction es generalizing xs with
 |nil=>cases xs<;>rfl
 |cons p es ih =>
  obtain⟨x,_,rfl,hx,y,xs',rfl,hy,r⟩:=r;exact⟨x,_,rfl,hx,ih r⟩
theorem ziT (hh:A.handled=none) (as:AS n sk A) (hr:HR am sk π Hc s.heap) (ha:VR am π s.heap a x) :
  JAt am sk A (call (.builtin "sorted") [x]) (R.opt (bf .sorted Hc a) Hc) (VR am) π s:=by
 show JAt am sk A _ (R.opt ((sitems Hc a).bind fun vs=>(sortVs Hc vs).map .l) Hc) (VR am) π s;unfold sitems
 cases hd:dictOf Hc a with
 |some es =>
  obtain⟨i,d,o,arr,ep,xs,rfl,rfl,_,_,D⟩:=zjO hr ha hd;dsimp only;rw[Option.bind_some]
  cases hs:sortVs Hc (es.map (·.1)) with
  |none=>exact .inl rfl
  |some ws =>
   have hle:arr.size≤sizeLine:=by
    rw[D.size];have:=D.len;rw[zbh] at this;have:=zbb
    omega
   refine .inr (zeN as hr (fun {E' Q'} q=>D.raw.collect (am:=am) (A:=A.in1) hh D.ho hle q) ?_ hs fun y s' hn=>hn.lst hr (zdM hs));rw[D.arr];exact zjG D.vr
 |none =>
  dsimp only
  cases hi:litems Hc a with
  |none=>exact .inl rfl
  |some vs =>
   rw[Option.bind_some]
   cases hs:sortVs Hc vs with
   |none=>exact .inl rfl
   |some ws =>
    obtain⟨l,xs,rfl,hl,hz,hv⟩:=zaq hr ha hi;have hle:xs.length≤sizeLine:=by rw[hv.len];exact zX hz zbb
    refine .inr (zeN as hr (fun {E' Q'} q=>collect_list hl (q _ s.toks fun b o hb=>?_) hle) hv hs fun y s' hn=>hn.lst hr (zdM hs));rw[Heap.get?_update_ne _ _ _ _ (Nat.ne_of_lt (Heap.lt_size hb))];exact Heap.get?_push_of_some _ hb
end
section
variable {am:Amb}{sk:List Env}{π:List Addr}{Hc:H}{A:Around}
structure MinAt (am:Amb) (π:List Addr) (Hc:H) (s₀:Shared) (l I S:Addr) (j:Nat) (a:List Int) (v:V) (vb:Value) (h:Heap):Prop where
 keep:∀ b o,s₀.heap.get? b=some o→h.get? b=some o
 iter:h.IsListIter I l j
 best:∃ c,h.get? S=some { cls:=.type "list",dict:=none,data:=.seq #[vb,vb] c,slots:=#[] }
 vr:VR am π s₀.heap v vb
 key:keyL Hc v=some a
theorem zk6 {s₀:Shared}{l I S:Addr}{xs:List Value}(hh:A.handled=none) (hu:A.in1.units < cLine) (hr:HR am sk π Hc s₀.heap) (hl:s₀.heap.IsList l xs.toArray) (hI:s₀.heap.get? I=none) (hS:s₀.heap.get? S=none) (hIS:I≠S){R:Result→Shared→Prop} :
  ∀ (rest:List Value) (vr:List V) (L:List (List Int × V)) (j:Nat) (a:List Int) (v:V) (vb:Value) (h:Heap) (tk:Nat),xs.drop j=rest→keyed (keyL Hc) vr=some L→VRs am π s₀.heap vr rest→MinAt am π Hc s₀ l I S j a v vb h →
  (∀ x h' tk,VR am π s₀.heap (zbo a v L) x→(∀ b o,s₀.heap.get? b=some o→h'.get? b=some o)→R (.ok (.ret x)) { s₀ with heap:=h',toks:=tk }) →
  codeAny am.M A (.builtin "min.loop" ⟨[.ref I,.none,.ref S],[]⟩) R { s₀ with heap:=h,toks:=tk }:=by
 have hname:(toString "min"++toString ".loop":String)="min.loop":=by decide
 have nI:∀ b o,s₀.heap.get? b=some o→b≠I:=fun b o e q=>by rw[q,hI] at e;cases e
 have nS:∀ b o,s₀.heap.get? b=some o→b≠S:=fun b o e q=>by rw[q,hS] at e;cases e
 have lst:∀ {h:Heap},(∀ b o,s₀.heap.get? b=some o→h.get? b=some o)→h.IsList l xs.toArray:=fun kk=>by
  obtain⟨o,ho,r⟩:=hl;exact⟨o,kk _ _ ho,r⟩
 intro rest
 induction rest with
 |nil =>
  intro vr L j a v vb h tk hd hL hv M hR;have e0:=hv.len
  cases vr with
  |cons _ _=>simp at e0
  |nil =>
  cases hL
  obtain⟨c,hb⟩:=M.best;refine codeAny_builtin F.entry_min_loop ?_;rw[Around.under_plainId F.plain_min_loop _];show wpAny _ A.in1 (seqItems? (.ref S) >>= _) _ _ _;refine yX (wpAny_seqItems hb rfl ?_);show wpAny _ A.in1 (tryCatch (pyNext (.ref I)) _ >>= _) _ _ _;refine yX (wpAny_tryCatch (wpAny_pyNext_list_end hh M.iter (lst M.keep) (by simpa using (List.drop_eq_nil_iff.mp hd)) fun h' he=>?_))
  have hS':=he S _ hIS.symm hb;show wpAny _ A.in1 (updateSeq S (fun z=>#[]) >>= _) _ _ _;refine yX (wpAny_updateSeq hS' rfl (yX (wpAny_letGo (yW ?_))));exact hR vb _ _ M.vr fun b o e=>(Heap.get?_update_other _ _ (nS b o e).symm).trans (he b o (nI b o e) (M.keep b o e))
 |cons x rest ih =>
  intro vr L j a v vb h tk hd hL hv M hR;have e0:=hv.len
  cases vr with
  |nil=>simp at e0
  |cons u vr =>
  simp only[zjb,zf7,Option.bind_eq_some_iff,Option.map_eq_some_iff] at hL;obtain⟨k,hk,L,hL,rfl⟩:=hL;obtain⟨x',rest',e1,hx,hv⟩:=hv
  cases e1
  obtain⟨c,hb⟩:=M.best;have hxj:xs.toArray[j]?=some x:=by
   have:=congrArg List.head? hd
   simpa using this
  have hd':xs.drop (j+1)=rest:=by
   have:=congrArg List.tail hd
   simpa using this
  refine codeAny_builtin F.entry_min_loop ?_;rw[Around.under_plainId F.plain_min_loop _];show wpAny _ A.in1 (seqItems? (.ref S) >>= _) _ _ _;refine yX (wpAny_seqItems hb rfl ?_);show wpAny _ A.in1 (tryCatch (pyNext (.ref I)) _ >>= _) _ _ _;refine yX (wpAny_tryCatch (wpAny_pyNext_list_item M.iter (lst M.keep) hxj fun h' hit hs=>?_));have k1:∀ b o,s₀.heap.get? b=some o→h'.get? b=some o:=fun b o e=>hs.extBut b o (nI b o e) (M.keep b o e)
  have hS':=hs.extBut S _ hIS.symm hb;show wpAny _ A.in1 (tryCatch (holding [x,x] (richCompare .Lt x vb >>= _)) _ >>= _) _ _ _;refine yX (wpAny_tryCatch (yU (yX (zrd (tk:=tk) hu hr k1 hx M.vr hk M.key ?_))));refine yX (yU (wpAny_truthy_bool ?_));refine yX (wpAny_letGo (yW ?_))
  cases hlt:lexLt k a with
  |true =>
   simp only[if_true];refine yX (wpAny_updateSeq hS' rfl (yX (wpAny_letGo ?_)));rw[hname];refine yW ⟨plainId_quiet F.plain_min_loop _,ih vr L (j+1) k u x _ _ hd' hL hv ⟨fun b o e=>(Heap.get?_update_other _ _ (nS b o e).symm).trans (k1 b o e),?_,⟨_,Heap.get?_update_self _ hS' rfl⟩,hx,hk⟩ fun y h2 tk2 hy=>hR y h2 tk2 ?_⟩
   ·obtain⟨o,ho,r⟩:=hit
    exact⟨o,(Heap.get?_update_other _ _ hIS.symm).trans ho,r⟩
   ·rw[zdg,zT hlt];exact hy
  |false =>
   simp only[Bool.false_eq_true,if_false];refine yX (wpAny_letGo ?_);rw[hname];refine yW ⟨plainId_quiet F.plain_min_loop _,ih vr L (j+1) a v vb _ _ hd' hL hv ⟨k1,hit,⟨_,hS'⟩,M.vr,M.key⟩ fun y h2 tk2 hy=>hR y h2 tk2 ?_⟩;rw[zdg,zR (by rw[hlt];exact Bool.false_ne_true)];exact hy
variable {s:Shared}
theorem zps (as:AS n sk A) (hh:A.handled=none) (hr:HR am sk π Hc s.heap) (ha:VR am π s.heap a x) :
  JAt am sk A (call (.builtin "min") [x]) (R.opt (bf .min Hc a) Hc) (VR am) π s:=by
 show JAt am sk A (call (.builtin "min") [x]) (R.opt ((litems Hc a).bind (minVs Hc)) Hc) (VR am) π s
 cases hi:litems Hc a with
 |none=>exact .inl rfl
 |some vs =>
  simp only[Option.bind_some]
  cases hm:minVs Hc vs with
  |none=>exact .inl rfl
  |some w =>
   refine .inr (zdK fun Q_ E_ kq_ z=>?_);obtain⟨l,xs,rfl,hl,hz,hv⟩:=zaq hr ha hi
   cases vs with
   |nil=>cases hm
   |cons u vs =>
   obtain⟨x,xs,rfl,hx,hv⟩:=hv;unfold minVs at hm
   cases hL:keyed (keyL Hc) (u::vs) with
   |none=>rw[hL] at hm;cases hm
   |some L =>
   rw[hL] at hm;simp only[zjb,zf7,Option.bind_eq_some_iff,Option.map_eq_some_iff] at hL;obtain⟨k,hk,L',hL,rfl⟩:=hL
   cases hm
   have hname:(toString "min"++toString ".loop":String)="min.loop":=by decide
   have hu:A.in1.units < cLine:=as.uk (k:=1) (by decide)
   refine call_function_tree F.kind_min F.plain_min F.entry_min (F.args_min1 _) ?_;show wpAny _ A.in1 (Builtin.Builtins.bindParams "min" ["key","default"] 0 ⟨[],[]⟩ >>= _) _ _ s;refine yX (wpAny_of_eq (show Builtin.Builtins.bindParams "min" ["key","default"] 0 ⟨[],[]⟩=pure [none,none] from rfl) ?_);refine yX (yW ?_);refine yX (wpAny_pyIter_list hl ?_);refine yX (wpAny_newObj_type ?_)
   rw[hname];refine yW ⟨plainId_quiet F.plain_min_loop _,?_⟩;have k1:∀ b o,s.heap.get? b=some o→(s.heap.push { cls:=.type "list_iterator",data:=.fields #[.ref l,.int 0 0] }).get? b=some o:=fun b o e=>Heap.get?_push_of_some _ e;have hI:=zaj s.heap;have hit:(s.heap.push { cls:=.type "list_iterator",data:=.fields #[.ref l,.int 0 0] }).IsListIter s.heap.objs.size l 0:=⟨_,Heap.get?_push_size _ rfl,rfl,rfl⟩
   generalize s.heap.push { cls:=.type "list_iterator",data:=.fields #[.ref l,.int 0 0] }=h1 at k1 hit ⊢
   have k2:∀ b o,h1.get? b=some o→(h1.push { cls:=.type "list",data:=.seq #[] }).get? b=some o:=fun b o e=>Heap.get?_push_of_some _ e;have hS:(h1.push { cls:=.type "list",data:=.seq #[] }).get? h1.objs.size=some { cls:=.type "list",dict:=none,data:=.seq #[] 0,slots:=#[] }:=Heap.get?_push_size _ rfl;have hS0:=zaj h1;generalize h1.objs.size=S at hS hS0 ⊢
   generalize h1.push { cls:=.type "list",data:=.seq #[] }=h2 at k2 hS ⊢
   obtain⟨oi,hoi,ri⟩:=id hit;have hIS:s.heap.objs.size≠S:=fun q=>by rw[q,hS0] at hoi;cases hoi
   have hS1:s.heap.get? S=none:=by
    cases hq:s.heap.get? S with
    |none=>rfl
    |some o=>rw[k1 _ _ hq] at hS0;cases hS0
   generalize s.heap.objs.size=I at hI hit hoi hIS ⊢
   refine codeAny_builtin F.entry_min_loop ?_;rw[Around.under_plainId F.plain_min_loop _];show wpAny _ A.in1 (seqItems? (.ref S) >>= _) _ _ _;refine yX (wpAny_seqItems hS rfl ?_);show wpAny _ A.in1 (tryCatch (pyNext (.ref I)) _ >>= _) _ _ _;have nI:∀ b o,s.heap.get? b=some o→b≠I:=fun b o e q=>by rw[q,hI] at e;cases e
   have nS:∀ b o,s.heap.get? b=some o→b≠S:=fun b o e q=>by rw[q,hS1] at e;cases e
   have hl2:h2.IsList l (x::xs).toArray:=by
    obtain⟨o,ho,r⟩:=hl;exact⟨o,k2 _ _ (k1 _ _ ho),r⟩
   refine yX (wpAny_tryCatch (wpAny_pyNext_list_item (i:=0) ⟨oi,k2 _ _ hoi,ri⟩ hl2 (x:=x) rfl fun h' hit' hs'=>?_));have hS':=hs'.extBut S _ hIS.symm hS;show wpAny _ A.in1 (updateSeq S (fun z=>#[x,x]) >>= _) _ _ _;refine yX (wpAny_updateSeq hS' rfl ?_);rw[hname];refine yW ⟨plainId_quiet F.plain_min_loop _,zk6 (s₀:=s) (xs:=x::xs) hh hu hr hl hI hS1 hIS xs vs L' 1 k u x _ _ rfl hL hv ⟨fun b o e=>?_,?_,⟨_,Heap.get?_update_self _ hS' rfl⟩,hx,hk⟩ fun y h3 tk3 hy k3=>?_⟩
   ·exact(Heap.get?_update_other _ _ (nS b o e).symm).trans (hs'.extBut b o (nI b o e) (k2 _ _ (k1 b o e)))
   ·obtain⟨o,ho,r⟩:=hit'
    exact⟨o,(Heap.get?_update_other _ _ hIS.symm).trans ho,r⟩
   ·exact kq_ _ _ (OkP.keeps (tk:=tk3) hr k3 (hy.keeps k3))
end
theorem zbI (g:Nat→Option V) (h:V.mapRefs g vs=some ws):ws.length=vs.length:=by
 induction vs generalizing ws with
 |nil=>cases h;rfl
 |cons v vs ih =>
  obtain⟨v',_,j⟩:=Option.bind_eq_some_iff.1 h;obtain⟨ws',h2,rfl⟩:=Option.map_eq_some_iff.1 j;exact congrArg Nat.succ (ih h2)
section
variable {am:Amb}{π δ:List Addr}{h:Heap}
mutual
theorem VR.mapRef {g:Nat→Option V}(hg:∀ i a w,(π++δ)[i]?=some a→g i=some w→VR am π h w (.ref a)) :
  ∀ {v v':V}{x:Value},VR am (π++δ) h v x→V.mapRef g v=some v'→VR am π h v' x
 |.uu,_,_,e,_=>e.elim
 |.none,_,_,e,k=>by cases k;exact e
 |.bool _,_,_,e,k=>by cases k;exact e
 |.int _,_,_,e,k=>by cases k;exact e
 |.str _,_,_,e,k=>by cases k;exact e
 |.tup vs,_,x,e,k=>by
  obtain⟨ws,j,rfl⟩:=Option.map_eq_some_iff.1 k;refine hold fun z k_=>?_;obtain⟨a,xs,h1,h2,h3,h4,h5⟩:=e;refine k_ ?_;exact⟨a,xs,h1,⟨fun hm=>h2.1 (mem_append_left _ hm),h2.2⟩,h3,by rw[zbI g j];exact h4,VRs.mapRefs hg h5 j⟩
 |.l vs,_,x,e,k=>by
  obtain⟨ws,j,rfl⟩:=Option.map_eq_some_iff.1 k;refine hold fun z k_=>?_;obtain⟨a,xs,h1,h2,h3,h4,h5⟩:=e;refine k_ ?_;exact⟨a,xs,h1,⟨fun hm=>h2.1 (mem_append_left _ hm),h2.2⟩,h3,by rw[zbI g j];exact h4,VRs.mapRefs hg h5 j⟩
 |.ref i,_,x,e,k=>by
  obtain⟨a,rfl,h2⟩:=e;exact hg i a _ h2 k
 |.exc _,_,_,e,_=>e.elim
theorem VRs.mapRefs {g:Nat→Option V}(hg:∀ i a w,(π++δ)[i]?=some a→g i=some w→VR am π h w (.ref a)) :
  ∀ {vs ws:List V}{xs:List Value},VRs am (π++δ) h vs xs→V.mapRefs g vs=some ws→VRs am π h ws xs
 |[],_,_,e,k=>by cases k;exact e
 |v::vs,ws,xs,e,k=>by
  refine hold fun z k_=>?_;obtain⟨v',k1,j⟩:=Option.bind_eq_some_iff.1 k;obtain⟨ws',k2,rfl⟩:=Option.map_eq_some_iff.1 j;obtain⟨x,xs',rfl,h1,h2⟩:=e;refine k_ ?_;exact⟨x,xs',rfl,VR.mapRef hg h1 k1,VRs.mapRefs hg h2 k2⟩
end
set_option tactic.hygienic true in
theorem VR.frzAt {sk:List Env}{H':H}(hr:HR am sk (π++δ) H' h) (hres:∀ a∈δ,a ∉ am.res) :
  ∀ (k:Nat) (i:Nat) (a:Addr) (w:V),(π++δ)[i]?=some a→Mine.frzAt k π.length H' i=some w→VR am π h w (.ref a):=by
 have low:∀ i a,(π++δ)[i]?=some a→i < π.length→VR am π h (.ref i) (.ref a):=fun i a h1 h2=>by
  rw[List.getElem?_append_left h2] at h1;exact⟨a,rfl,h1⟩
 intro k
 induction k with
 |zero =>
  intro i a w h1 h2;rw[zn7] at h2
  split at h2
  ·cases h2;exact low i a h1 ‹_›
  ·cases h2
 |succ k ih =>
  intro i a w h1 h2;rw[zbK] at h2
  split at h2
  ·cases h2;exact low i a h1 ‹_›
  ·rename_i hi
   split at h2
   ·rename_i vs hv
    simp only[Option.map_eq_some_iff] at h2;obtain⟨ws,h2,rfl⟩:=h2;refine hold fun z k_=>?_;obtain⟨xs,h3,h4,h5⟩:=(hr.cell i _ a hv h1).list;refine k_ ?_;have hd:a∈δ:=by
     rw[List.getElem?_append_right (by omega)] at h1
     exact mem_of_getElem? h1
    have hn:=hr.nodup;rw[nodup_append] at hn;exact⟨a,xs,rfl,⟨fun hm=>hn.2.2 a hm a hd rfl,hres a hd⟩,h3.is,by rw[zbI _ h2];exact h4,VRs.mapRefs ih h5 h2⟩
   ·cases h2
mutual
theorem VR.cut:∀ {v:V}{x x₀:Value},VR am (π++δ) h v x→VR am π h₀ v x₀→VR am π h v x
 |.uu,_,_,e,_=>e
 |.none,_,_,e,_=>e
 |.bool _,_,_,e,_=>e
 |.int _,_,_,e,_=>e
 |.str _,_,_,e,_=>e
 |.tup vs,x,x₀,e,f=>by
  refine hold fun z k_=>?_;obtain⟨a,xs,h1,h2,h3,h4,h5⟩:=e;refine k_ ?_;refine hold fun z k_=>?_;obtain⟨_,ys,_,_,_,_,f5⟩:=f;refine k_ ?_;exact⟨a,xs,h1,⟨fun hm=>h2.1 (mem_append_left _ hm),h2.2⟩,h3,h4,VRs.cut h5 f5⟩
 |.l vs,x,x₀,e,f=>by
  refine hold fun z k_=>?_;obtain⟨a,xs,h1,h2,h3,h4,h5⟩:=e;refine k_ ?_;refine hold fun z k_=>?_;obtain⟨_,ys,_,_,_,_,f5⟩:=f;refine k_ ?_;exact⟨a,xs,h1,⟨fun hm=>h2.1 (mem_append_left _ hm),h2.2⟩,h3,h4,VRs.cut h5 f5⟩
 |.ref i,x,x₀,e,f=>by
  obtain⟨a,h1,h2⟩:=e;obtain⟨b,_,f2⟩:=f;rw[List.getElem?_append_left (List.getElem?_eq_some_iff.mp f2).1] at h2;exact⟨a,h1,h2⟩
 |.exc _,_,_,e,_=>e
theorem VRs.cut:∀ {vs:List V}{xs xs₀:List Value},VRs am (π++δ) h vs xs→VRs am π h₀ vs xs₀→VRs am π h vs xs
 |[],_,_,e,_=>e
 |v::vs,xs,xs₀,e,f=>by
  refine hold fun z k_=>?_;obtain⟨x,xs',rfl,h1,h2⟩:=e;refine k_ ?_;refine hold fun z k_=>?_;obtain⟨y,ys',rfl,f1,f2⟩:=f;refine k_ ?_;exact⟨x,xs',rfl,VR.cut h1 f1,VRs.cut h2 f2⟩
end
theorem HR.cut {sk:List Env}{Hc H':H}{h₀:Heap}(hr:HR am sk (π++δ) H' h) (hr₀:HR am sk π Hc h₀) (ht:H'.take Hc.length=Hc):HR am sk π Hc h:=by
 refine⟨hr.base,hr.frames,hr₀.len,hr₀.nodup,hr.res,fun a ha=>hr.off a (mem_append_left _ ha),fun i c a h1 h2=>?_⟩;have hi:i < Hc.length:=(List.getElem?_eq_some_iff.mp h1).1;have h3:H'[i]?=some c:=by
  have:=congrArg (fun l=>l[i]?) ht;simp only[List.getElem?_take,hi,if_true] at this;rw[this];exact h1
 have h4:(π++δ)[i]?=some a:=by rw[List.getElem?_append_left (by rw[hr₀.len];exact hi)];exact h2
 obtain⟨o,xs,e0,e1,e2,e3⟩:=hr.cell i c a h3 h4;obtain⟨_,ys,_,_,_,f3⟩:=hr₀.cell i c a h1 h2;exact⟨o,xs,e0,e1,e2,e3.cut f3⟩
end
theorem Step.less {Fs π π':List Addr}{s s':Shared}(x:Step Fs π s π' s'):Step Fs π s π s':=⟨x.same,x.ext,[],by simp,by simp⟩
set_option tactic.hygienic true in
theorem JAt.pcall {am:Amb}{sk:List Env}{A:Around}{π:List Addr}{s:Shared}{Hc:H}{m:Sem Value}{r:R V}(hr:HR am sk π Hc s.heap) (h:JAt am sk A m r (VR am) π s):JAt am sk A m (Mine.pcall Hc r) (VR am) π s:=by
 rcases h with rfl|h
 ·exact .inl rfl
 ·cases r with
  |bad=>exact .inl rfl
  |err c H' =>
   simp only[Mine.pcall]
   split
   ·rename_i ht
    refine .inr (yV h (fun a s' h=>?_) fun e s' h=>?_)
    ·obtain⟨_,_,_,h,_⟩:=h;cases h
    ·refine hold fun z k_=>?_
     obtain⟨c',H'',π',e',C,fl,h1,h2,h3,h4,h5,h6⟩:=h;refine k_ ?_
     cases h1
     obtain⟨δ,rfl,hδ⟩:=h4.grow;exact⟨c,Hc,π,e',C,fl,rfl,h2,h3,h4.less,h5.cut hr ht,h6⟩
   ·exact .inl rfl
  |ok v H' =>
   simp only[Mine.pcall]
   split
   ·rename_i ht
    cases hf:frz Hc.length H' v with
    |none=>exact .inl rfl
    |some w =>
     refine .inr (yV h (fun a s' h=>?_) fun e s' h=>?_)
     ·refine hold fun z k_=>?_
      obtain⟨b,H'',π',h1,h2,h3,h4⟩:=h;refine k_ ?_
      cases h1
      obtain⟨δ,rfl,hδ⟩:=h2.grow;refine⟨w,Hc,π,rfl,h2.less,h3.cut hr ht,?_⟩;rw[←hr.len] at hf;exact VR.mapRef (VR.frzAt h3 (fun a ha hm=>by
       obtain⟨o,ho,_⟩:=hr.res a hm;rw[hδ a ha] at ho;cases ho) 4) h4 hf
     ·obtain⟨_,_,_,_,_,_,h,_⟩:=h;cases h
   ·exact .inl rfl
section
variable {am:Amb}{n:Nat}{q:Bool}{F:Fn}{c:Ck}
theorem spl1 {Q:List Value→Shared→Prop}{E:Value→Shared→Prop}(h:wpAny M A (eval y env) (fun v s₁=>Q [v] s₁) E s):wpAny M A (spliced (zak [y] env)) Q E s :=
 Calls.spliced_cons (yV h (fun z z h=>Calls.spliced_nil h) fun z z x=>x)
theorem spl2 {Q:List Value→Shared→Prop}{E:Value→Shared→Prop}(h:wpAny M A (eval y env) (fun v s₁=>wpAny M A (eval z env) (fun w s₂=>Q [v,w] s₂) E s₁) E s):wpAny M A (spliced (zak [y,z] env)) Q E s :=
 Calls.spliced_cons (yV h (fun u u h=>spl1 h) fun u u x=>x)
noncomputable def bfVal:Bf→Value
 |.len=>.builtin "len"|.all=>.builtin "all"|.any=>.builtin "any"|.sorted=>.builtin "sorted"|.min=>.builtin "min"|.sum=>.builtin "sum"
 |.list=>.type "list"|.tuple=>.type "tuple"|.int=>.type "int"|.str=>.type "str"|.listRev=>.type "list"|.listRange=>.type "list"
theorem zmD (f:Bf):(bfName f,bfVal f)∈bTab:=by cases f<;>exact zcx (by kernel_rfl)
theorem Hd.quiet {A:Around}{π Fs:List Addr}{h:Heap}(x:Hd true A π Fs h):A.handled=none:=x
theorem zrc {f:Bf}{am:Amb}{sk:List Env}{A:Around}{π:List Addr}{s:Shared}{Hc:H}{a:V}{x:Value}{n:Nat}(as:AS n sk A) (hf:f.ready=true) (h0:f≠.listRev) (hq:f.walks=true→A.handled=none) (hr:HR am sk π Hc s.heap) (ha:VR am π s.heap a x) :
  JAt am sk A (PySem.call (bfVal f) [x]) (R.opt (bf f Hc a) Hc) (VR am) π s:=by
 cases f with
 |len=>exact zpt hr ha
 |list=>exact znF hr ha
 |tuple=>exact zkY hr ha
 |int=>exact zpw hr ha
 |all=>exact zpA (hq rfl) hr ha
 |listRev=>exact absurd rfl h0
 |sorted=>exact ziT (hq rfl) as hr ha
 |min=>exact zps as (hq rfl) hr ha
 |_=>cases hf
set_option tactic.hygienic true in
theorem zrw (h0:f≠.listRev) (hx:c.glob (bfName f)=true) (hy:isStar y=false) (ha:EJ am n q F c a y):EJ am n q F c (.bf f a) (.Call (.Name (bfName f) p) [y] [] p'):=fun {cx ρ A res π Hc s} B st=>by
 simp -iota only[znr]
 split
 ·exact .inl rfl
 ·rename_i hq
  simp only[Bool.or_eq_true,Bool.and_eq_true,Bool.not_eq_true',not_or,not_and,Bool.not_eq_false] at hq;refine JT.at (T:=fun Q E s=>wpAny am.M A (eval y cx.env) (fun v s₁=>wpAny am.M A (PySem.call (bfVal f) [v]) Q E s₁) E s) (JT.bind (fun z=>PT.wp _ _) (ha B st) fun x v H1 π1 s1 z hs1 hr1 hv1=>JAt.pt ?_)
   fun Q E h=>zaC B st.hr hx (zmD f) (by simpa using hy) (spl1 h)
  refine zrc B.as hq.2 h0 (fun hw=>?_) hr1 hv1
  cases q with
  |false=>exact absurd hw (by simpa using hq.1)
  |true=>exact Hd.quiet st.hd
theorem zjC (hx:c.glob (bfName .list)=true) (hy:isStar y=false) (ha:EJ am n q F c a y):FJ am n q F c (.bf .list a) (.Call (.Name (bfName .list) p) [y] [] p'):=fun {cx ρ A res π Hc s} B st=>by
 have e:evE q F ρ (.bf .list a) Hc=(evE q F ρ a Hc).bind fun x h=>R.opt (bf .list h x) h:=by
  simp only[znr,Bf.ready,Bf.walks];simp
 rw[e];refine JF.rule (T:=fun Q E s=>wpAny am.M A (eval y cx.env) (fun v s₁=>wpAny am.M A (PySem.call (.type "list") [v]) Q E s₁) E s) (JF.bind (fun z=>PT.wp _ _) (ha B st) fun x v H1 π1 s1 z hs1 hr1 hv1=>?_)
   fun Q E h=>zaC B st.hr hx (zmD .list) (by simpa using hy) (spl1 h)
 unfold bf;dsimp only
 cases hi:items H1 v with
 |none=>exact .inl rfl
 |some vs =>
  obtain⟨xs,hz⟩:∃ xs:List Value,vs.length≤1000000:=⟨[],by
   rcases zbX hr1 hv1 hi with⟨l,xs,h⟩
   rcases h with⟨_,h⟩
   first|exact h.2.1|exact h.1|omega⟩
  exact .inr (zh3 (am:=am.at res) hr1 hv1 hi fun y s' h=>FrP.new rfl (.refl ..) hr1 hz h)
end
section
variable {am:Amb}{n:Nat}{q:Bool}{F:Fn}{c:Ck}
noncomputable def lonly (o:Option V):Option V:=match o with
 |some (.l vs)=>some (.l vs)
 |_=>Option.none
theorem ziR (ha:EJ am n q F c a l) (hb:EJ am n q F c b r)
  (key:∀ {cx:Cx}{A:Around}{res π:List Addr}{H2:H}{s:Shared}{v w:V}{x y:Value},HR (am.at res) cx.sk π H2 s.heap→VR (am.at res) π s.heap v x→VR (am.at res) π s.heap w y→JF (am.at res) cx.sk (fun Q E s=>wpAny am.M A (binaryOp (bopM op) x y) Q E s) (R.opt (lonly (pyBin op H2 v w)) H2) π s):EJ am n q F c (.own (.bin op a b)) (.BinOp l (bopM op) r p):=fun {cx ρ A res π Hc s} B st=>by
 have e:evE q F ρ (.own (.bin op a b)) Hc=((evE q F ρ a Hc).bind fun x h=>(evE q F ρ b h).bind fun y h=>R.opt (lonly (pyBin op h x y)) h).bind fun x h=>match x with|.l vs=>.ok (.ref h.length) (h++[.list vs])|_=>.bad:=by
  simp -iota only[ziJ,zhq,zkO]
  cases evE q F ρ a Hc with
  |ok v h =>
   simp only[R.bind_ok]
   cases evE q F ρ b h with
   |ok w h =>
    simp only[R.bind_ok]
    cases pyBin op h v w with
    |none=>rfl
    |some u=>cases u<;>rfl
   |_=>rfl
  |_=>rfl
 rw[e];exact JF.cell (T:=fun Q E s=>wpAny am.M A (eval l cx.env) (fun v s₁=>wpAny am.M A (eval r cx.env) (fun w s₂=>wpAny am.M A (binaryOp (bopM op) v w) Q E s₂) E s₁) E s)
  (JF.bind (fun z=>PT.seq _ _ fun z=>PT.wp _ _) (ha B st) fun x v H1 π1 s1 z hs1 hr1 hv1=>JF.bind (fun z=>PT.wp _ _) (hb B (st.step hs1 hr1)) fun y w H2 π2 s2 z hs2 hr2 hv2=>key hr2 (hv1.step hs2) hv2)
  fun Q E h=>wpAny_BinOp h
set_option tactic.hygienic true in
theorem znB (ha:EJ am n q F c a l) (hb:EJ am n q F c b r):EJ am n q F c (.own (.bin .mul a b)) (.BinOp l .Mult r p):=ziR (op:=.mul) ha hb fun {cx A res π H2 s v w x y} hr hv hw=>by
 show JF _ _ _ (R.opt (lonly (pyMul H2 v w)) H2) _ _
 rcases zc6 H2 v w with h|⟨i,k⟩|⟨k,h⟩
 ·rw[h];exact .inl rfl
 ·refine .inl ?_
  show R.opt (lonly (if i.natAbs < 9223372036854775808∨k.natAbs < 9223372036854775808∨i.natAbs.log2+k.natAbs.log2+2≤134217728 then some (V.int (i * k)) else Option.none)) H2=.bad
  split<;>rfl
 ·rw[zqz] at hw
  obtain⟨u,rfl⟩:=hw;rw[h]
  split
  ·rename_i hk
   cases hi:litems H2 v with
   |none=>exact .inl rfl
   |some vs =>
    simp only[Option.bind_some,mkL]
    split
    ·rename_i hle
     exact .inr (zcR (am:=am.at res) hr hv hi ⟨hk.2,hk.1⟩ hle fun y s' h=>FrP.new rfl (.refl ..) hr hle h)
    ·exact .inl rfl
  ·exact .inl rfl
set_option tactic.hygienic true in
theorem znC (ha:EJ am n q F c a l) (hb:EJ am n q F c b r):EJ am n q F c (.own (.bin .add a b)) (.BinOp l .Add r p):=ziR (op:=.add) ha hb fun {cx A res π H2 s v w x y} hr hv hw=>by
 show JF _ _ _ (R.opt (lonly (pyAdd H2 v w)) H2) _ _
 rcases zc7 H2 v w with h|⟨i,k⟩|⟨i,k⟩|⟨vs,ws,la,lb,h⟩
 ·rw[h];exact .inl rfl
 ·exact .inl rfl
 ·first
  |exact .inl rfl
  |refine .inl ?_
   show R.opt (lonly (mkT (i++k))) H2=.bad;unfold mkT
   split<;>rfl
 ·rw[h]
  unfold mkL
  split
  ·rename_i hle
   exact .inr (zcS (am:=am.at res) hr hv hw la lb hle fun y s' h=>FrP.new rfl (.refl ..) hr hle h)
  ·exact .inl rfl
theorem zqM (B:Base am n q F c cx ρ A) (hr:HR (am.at res) cx.sk π Hc s.heap){Q:Value→Shared→Prop}{E:Value→Shared→Prop}(hp:tyPl t=true) (hk:ckTy c t x=true) (h:Q (tyVal t) s) :
  wpAny am.M A (eval x cx.env) Q E s:=by
 obtain⟨p,rfl,hk'⟩:=zeJ hk;refine zmO B hr hk' ?_ h
 cases t<;>first|exact noB hp|exact zcx (by kernel_rfl)
theorem zgr (hk:ckTys c ts xs=true):∀ x∈xs,isStar x=false:=by
 induction ts generalizing xs with
 |nil=>cases xs with
  |nil=>exact fun z h=>(not_mem_nil h).elim
  |cons _ _=>exact noB hk
 |cons t ts ih=>cases xs with
  |nil=>exact noB hk
  |cons x xs =>
   have hk:=yK.1 hk;intro y hy
   rcases zN.mp hy with rfl|hy
   ·obtain⟨p,rfl,_⟩:=zeJ hk.1;rfl
   ·exact ih hk.2 y hy
theorem zhg (h:tyPl t=true):t.plain=true:=by cases t<;>first|rfl|exact noB h
theorem zjJ (hx:c.glob "isinstance"=true) (hp:tyPl t=true) (hk:ckTy c t x=true) (hy:isStar y=false) (ha:EJ am n q F c a y) :
  EJ am n q F c (.isinst a [t]) (.Call (.Name "isinstance" p) [y,x] [] p'):=fun {cx ρ A res π Hc s} B st=>by
 simp -iota only[zph];refine JT.at (T:=fun Q E s=>wpAny am.M A (eval y cx.env) (fun v s₁=>wpAny am.M A (eval x cx.env) (fun w s₂=>wpAny am.M A (PySem.call (.builtin "isinstance") [v,w]) Q E s₂) E s₁) E s)
  (JT.bind (fun u=>PT.seq _ _ fun u=>PT.wp _ _) (ha B st) fun z v H1 π1 s1 u hs1 hr1 hv1=>?_)
  fun Q E h=>zaC B st.hr hx (zcx (by kernel_rfl)) (by intro z hz;rcases zN.mp hz with rfl|hz;exact hy;exact zgr (c:=c) (ts:=[t]) (xs:=[x]) (yK.2 ⟨hk,rfl⟩) z hz) (spl2 h)
 refine JT.rule (JAt.pt (zpu (A:=A) (am:=am.at res) B.ok.K hr1 hv1 (zhg hp))) fun Q E h=>?_;exact zqM B hr1 hp hk h
theorem zoj (hx:c.glob (Str.ofString f)=true) (hf:f∈c.fns) (h:AllJ am n q F c es (x::xs)) :
  EJ am n q F c (.call k f es) (.Call (.Name (Str.ofString f) p) (x::xs) [] p'):=fun {cx ρ A res π Hc s} B st=>by
 simp -iota only[zed];obtain⟨a,fa⟩:=B.ck.fns f hf;refine hold fun z k_=>?_;obtain⟨ga,o,fd,ho,hd⟩:=id fa;refine k_ ?_;refine JAt.seqP (m:=spliced (zak (x::xs) cx.env)) (f:=fun vs=>PySem.call (.ref a) vs []) (P:=fun z s₁=>s₁.heap.get? a=some o∧o.data=.func fd) (fun Q E h'=>?_) (h.args B st) fun ys vs H1 π1 s1 z hs1 hr1 hv1=>⟨⟨hr1.base a o ho,hd⟩,?_⟩
 ·refine wpAny_Call_Name_kw (zb9 B st.hr hx ga ?_)
  rw[zae _ h.stars];exact Calls.callWith_function (o:=o) (fd:=fd) (Calls.evalArgs_plain h')
 ·have J:=B.fn.call res q f a vs ys cx.sk A π1 H1 s1 fa B.as hr1 (st.hd.step hs1) (.inl hv1)
  cases k with
  |true=>exact J
  |false=>exact JAt.pcall hr1 J
end
theorem PL.update (pl:PL h l xs) (f:Array Value→Array Value):PL (h.update l (Obj.mapSeq f)) l (f (List.toArray xs)).toList:=by
 refine hold fun z k_=>?_;obtain⟨o,n,ho,hc,hdi,hd⟩:=pl;refine k_ ?_;obtain⟨n',hd'⟩:=Obj.data_mapSeq hd f;refine⟨_,n',Heap.get?_update_self _ ho (Obj.isFreed_of_seq hd'),(Obj.cls_mapSeq ..).trans hc,?_,by simpa using hd'⟩
 refine hold fun z k_=>?_;obtain⟨c,d,dt,sl⟩:=o;refine k_ ?_;simp only at hd hdi;subst hd hdi
 rfl
theorem zbg {h h' base:Heap}{l:Addr}(k:∀ b o,b≠l→h.get? b=some o→h'.get? b=some o) (hl:∃ o,h'.get? l=some o∧∀ us,o.data≠.fields us)
  {st:List Env}(x:h.FunFrames base st):h'.FunFrames base st:=by
 induction st with
 |nil=>trivial
 |cons e st ih =>
  refine hold fun z k_=>?_;obtain⟨h1,⟨L,o,h2,h3,h4,h5⟩,h6⟩:=x;refine k_ ?_;refine⟨h1,?_,ih h6⟩
  by_cases hL:L=l
  ·subst hL
   obtain⟨o',h7,h8⟩:=hl;exact⟨L,o',h2,h3,h7,h8⟩
  ·exact⟨L,o,h2,h3,k L o hL h4,h5⟩
theorem zby {π:List Addr}{i:Nat}{l:Addr}(h:π[i]?=some l):l∈π:=mem_of_getElem? h
theorem zme {π:List Addr}(hn:π.Nodup){i j:Nat}{l:Addr}(h1:π[i]?=some l) (h2:π[j]?=some l):i=j:=by
 exact(List.getElem?_inj (List.getElem?_eq_some_iff.mp h1).1 hn).mp (h1.trans h2.symm)
theorem HR.put {am:Amb}{sk:List Env}{π:List Addr}{Hc:H}{s:Shared}(hr:HR am sk π Hc s.heap){i:Nat}{l:Addr}(hi:π[i]?=some l){vs:List V}{xs:List Value}(hz:vs.length≤1000000){h':Heap}{tk:Nat}
  (k:∀ b o,b≠l→s.heap.get? b=some o→h'.get? b=some o) (pl:PL h' l xs) (hv:VRs am π s.heap vs xs) :
  Step (Fs sk) π s π { s with heap:=h',toks:=tk }∧HR am sk π (Hc.set i (.list vs)) h':=by
 have hl:=zby hi;have nf:∃ o,h'.get? l=some o∧∀ us,o.data≠.fields us:=by
  refine hold fun z k_=>?_;obtain⟨o,n,ho,_,_,hd⟩:=pl;refine k_ ?_;exact⟨o,ho,fun us q=>by rw[hd] at q;cases q⟩
 have st:Step (Fs sk) π s π { s with heap:=h',toks:=tk }:=by
  refine⟨⟨h',tk,rfl⟩,⟨fun a o e h1 z=>k a o (fun q=>h1 (q ▸ hl)) e,fun a o e h1=>⟨o.slots,k a o (fun q=>h1 (q ▸ hl)) e⟩,fun a o e=>?_⟩,[],by simp,by simp⟩
  by_cases ha:a=l
  ·subst ha;obtain⟨o,ho,_⟩:=nf;exact⟨o,ho⟩
  ·exact⟨o,k a o ha e⟩
 refine⟨st,⟨fun a o e=>?_,zbg k nf hr.frames,by simp[hr.len],hr.nodup,fun a ha=>?_,hr.off,fun j c a h1 h2=>?_⟩⟩
 ·exact k a o (fun q=>by subst q;rw[(hr.off a hl).1] at e;cases e) (hr.base a o e)
 ·by_cases hq:a=l
  ·subst hq;exact nf
  ·obtain⟨o,ho,hd⟩:=hr.res a ha
   exact⟨o,k a o hq ho,hd⟩
 ·by_cases hj:j=i
  ·subst hj
   have hlt:j < Hc.length:=by rw[←hr.len];exact(List.getElem?_eq_some_iff.mp hi).1
   rw[List.getElem?_set_self hlt] at h1
   cases h1
   rw[hi] at h2;cases h2
   exact .ofList pl hz (hv.step st)
  ·rw[List.getElem?_set_ne (Ne.symm hj)] at h1
   have hne:a≠l:=fun q=>hj (zme hr.nodup (q ▸ h2) hi);exact(hr.cell j c a h1 h2).via st.via fun o e z=>⟨o.slots,k a o hne e⟩
theorem PT.and {γ:Type}{P:Shared→Prop}{T:PT γ}(h:PT.Mono T):PT.Mono (fun Q E s=>P s∧T Q E s):=fun Q Q' E E' s h1 h2 x=>⟨x.1,h Q Q' E E' s h1 h2 x.2⟩
section
variable {am:Amb}{sk:List Env}{A:Around}{π:List Addr}{s:Shared}{Hc:H}
set_option tactic.hygienic true in
theorem zbd (hr:HR am sk π Hc s.heap) (ha:VR am π s.heap a x) (hc:lcell Hc a=true) :
  ∃ i l vs xs,a=.ref i∧x=.ref l∧π[i]?=some l∧Hc[i]?=some (.list vs)∧PL s.heap l xs∧vs.length≤1000000∧VRs am π s.heap vs xs:=by
 cases a with
 |ref i =>
  simp only[lcell] at hc;obtain⟨l,rfl,hl⟩:=ha
  split at hc
  ·rename_i vs hv
   refine hold fun z k_=>?_;obtain⟨xs,h1,h2,h3⟩:=(hr.cell i _ l hv hl).list;refine k_ ?_;exact⟨i,l,vs,xs,rfl,rfl,hl,hv,h1,h2,h3⟩
  ·cases hc
 |_=>simp[lcell] at hc
theorem zaF {f:List V→Option (V × List V)}(h:lcell Hc a=false):onList Hc a f=.bad:=by
 cases a with
 |ref i =>
  simp only[lcell,onList] at h ⊢
  cases hq:Hc[i]? with
  |none=>rfl
  |some c=>cases c with
   |list vs=>rw[hq] at h;cases h
   |dict es=>rfl
 |_=>rfl
set_option tactic.hygienic true in
theorem ziZ (hr:HR am sk π Hc s.heap) (ha:VR am π s.heap a x) (hb:VR am π s.heap b y) :
  JAt am sk A (PySem.call (.builtin "list.append") [x,y]) (onList Hc a fun vs=>some (.none,vs++[b])) (VR am) π s:=by
 cases hc:lcell Hc a with
 |false=>exact .inl (zaF hc)
 |true =>
  refine hold fun z k_=>?_;obtain⟨i,l,vs,xs,rfl,rfl,hi,hH,pl,hz,hv⟩:=zbd hr ha hc;refine k_ ?_;simp only[onList,hH]
  split
  ·rename_i hle
   refine hold fun z k_=>?_;obtain⟨o,n,ho,hcl,hdi,hd⟩:=id pl;refine k_ ?_;refine .inr (wpAny_call_entry slot_list_append pl.is.typeIs entry_list_append ?_ (args_list_append _ _));show wpAny _ _ (updateSeq l (·.push y) >>= fun z=>ret .none) _ _ s;refine yX ?_;have e:=hv.len;refine wpAny_updateSeq ho hd (yW ⟨.none,rfl,?_⟩) (hz:=by rw[size_toArray,e];exact zaw hz)
   have pl':=pl.update (·.push y);have hp:=HR.put (tk:=s.toks) hr hi hle (xs:=xs++[y]) (h':=s.heap.update l (Obj.mapSeq (·.push y))) (fun b o h1 h2=>(Heap.SameBut.update ..).extBut b o h1 h2) (by simpa using pl') (hv.append (.single hb))
   exact⟨.none,_,π,rfl,hp.1,hp.2,rfl⟩
  ·exact .inl rfl
end
section
variable {am:Amb}{n:Nat}{q:Bool}{F:Fn}{c:Ck}
set_option tactic.hygienic true in
theorem zgj (h:okBase o=true):attributeBase o name env (eval o env)=eval o env:=by
 cases o<;>first|rfl|skip
 rename_i f xs ks p
 cases xs with
 |nil=>exact noB h
 |cons x xs=>cases f<;>rfl
set_option tactic.hygienic true in
theorem zch {e:PE}{o a:PE}{v y:Expr}{name:Str}{id:String}{p p':Pos}{g:V→V→H→R V}(hb:okBase v=true) (hl:(p.endLine == p'.line)=true) (hy:isStar y=false) (slot:Slot "list" name id) (hty:typeOf (.builtin id)=pure (.type "method_descriptor"))
  (ho:EJ am n q F c o v) (ha:EJ am n q F c a y) (he:∀ ρ Hc,evE q F ρ e Hc=(evE q F ρ o Hc).bind fun x h=>if lcell h x then(evE q F ρ a h).bind fun y h=>g x y h else .bad)
  (op:∀ {res:List Addr}{sk:List Env}{A:Around}{π:List Addr}{s:Shared}{Hc:H}{a b:V}{x y:Value},AS n sk A→HR (am.at res) sk π Hc s.heap→VR (am.at res) π s.heap a x→VR (am.at res) π s.heap b y→JAt (am.at res) sk A (PySem.call (.builtin id) [x,y]) (g a b Hc) (VR (am.at res)) π s) :
  EJ am n q F c e (.Call (.Attribute v name p) [y] [] p'):=fun {cx ρ A res π Hc s} B st=>by
 rw[he];have hst:∀ z∈[y],isStar z=false:=by simpa using hy
 refine JT.at (T:=fun Q E s=>wpAny am.M A (eval v cx.env) (fun ov s₁=>(s₁.TypeIs ov "list"∧(∀ a,ov=.ref a→∃ ob,s₁.heap.get? a=some ob∧ob.dict=none))∧wpAny am.M A (eval y cx.env) (fun w s₂=>wpAny am.M A (PySem.call (.builtin id) [ov,w]) Q E s₂) E s₁) E s)
  (JT.bind (fun t=>PT.and (PT.seq _ _ fun t=>PT.wp _ _)) (ho B st) fun x u H1 π1 s1 t hs1 hr1 hv1=>?_) fun Q E h=>?_
 ·split
  ·rename_i hc
   refine hold fun t k_=>?_;obtain⟨i,l,vs,xs,rfl,rfl,hi,hH,pl,hz,hv⟩:=zbd hr1 hv1 hc;refine k_ ?_;have J:JT (am.at res) cx.sk (fun Q E s=>wpAny am.M A (eval y cx.env) (fun w s₂=>wpAny am.M A (PySem.call (.builtin id) [.ref l,w]) Q E s₂) E s) ((evE q F ρ a H1).bind fun y h=>g (.ref i) y h) (VR (am.at res)) π1 s1 :=
    JT.bind (fun t=>PT.wp _ _) (ha B (st.step hs1 hr1)) fun w u H2 π2 s2 t hs2 hr2 hv2=>JAt.pt (op B.as hr2 (hv1.step hs2) hv2)
   exact J.rule fun Q E h=>⟨⟨pl.is.typeIs,fun a e=>by cases e;obtain⟨o,n,ho,_,hd,_⟩:=pl;exact⟨o,ho,hd⟩⟩,h⟩
  ·exact .inl rfl
 ·refine wpAny_Call_method (T:="list") (id:=id) (zgj hb) (by rw[zae _ hst];rfl) hl PySem.F.plainAttrs_list slot hty (yV h (fun ov s₁ h₁=>⟨h₁.1.1,h₁.1.2,?_⟩) fun t t x=>x)
  rw[zae _ hst];exact Calls.callWith_builtin rfl (Calls.evalArgs_plain (spl1 h₁.2))
theorem zjK {o a:PE}{v y:Expr}{p p':Pos}(hb:okBase v=true) (hl:(p.endLine == p'.line)=true) (hy:isStar y=false) (ho:EJ am n q F c o v) (ha:EJ am n q F c a y) :
  EJ am n q F c (.append o a) (.Call (.Attribute v "append" p) [y] [] p') :=
 zch (id:="list.append") (g:=fun x y h=>onList h x fun vs=>some (.none,vs++[y])) hb hl hy PySem.F.slot_list_append PySem.F.type_list_append ho ha (fun ρ Hc=>by rw[znq]) fun z hr h1 h2=>ziZ hr h1 h2
end
section
variable {am:Amb}{sk:List Env}{A:Around}{π:List Addr}{s:Shared}{Hc:H}
end
section
variable {am:Amb}{n:Nat}{q:Bool}{F:Fn}{c:Ck}
set_option tactic.hygienic true in
theorem zhI {e:PE}{o:PE}{v:Expr}{name:Str}{id:String}{p p':Pos}{g:V→H→R V}(hb:okBase v=true) (hl:(p.endLine == p'.line)=true) (slot:Slot "list" name id) (hty:typeOf (.builtin id)=pure (.type "method_descriptor"))
  (ho:EJ am n q F c o v) (he:∀ ρ Hc,evE q F ρ e Hc=(evE q F ρ o Hc).bind fun x h=>if lcell h x then g x h else .bad)
  (op:∀ {res:List Addr}{sk:List Env}{A:Around}{π:List Addr}{s:Shared}{Hc:H}{a:V}{x:Value},AS n sk A→HR (am.at res) sk π Hc s.heap→VR (am.at res) π s.heap a x→JAt (am.at res) sk A (PySem.call (.builtin id) [x]) (g a Hc) (VR (am.at res)) π s) :
  EJ am n q F c e (.Call (.Attribute v name p) [] [] p'):=fun {cx ρ A res π Hc s} B st=>by
 rw[he];have hst:∀ z∈([]:List Expr),isStar z=false:=by simp
 refine JT.at (T:=fun Q E s=>wpAny am.M A (eval v cx.env) (fun ov s₁=>(s₁.TypeIs ov "list"∧(∀ a,ov=.ref a→∃ ob,s₁.heap.get? a=some ob∧ob.dict=none))∧wpAny am.M A (PySem.call (.builtin id) [ov]) Q E s₁) E s)
  (JT.bind (fun y=>PT.and (PT.wp _ _)) (ho B st) fun x u H1 π1 s1 y hs1 hr1 hv1=>?_) fun Q E h=>?_
 ·split
  ·rename_i hc
   refine hold fun y k_=>?_;obtain⟨i,l,vs,xs,rfl,rfl,hi,hH,pl,hz,hv⟩:=zbd hr1 hv1 hc;refine k_ ?_;have J:JT (am.at res) cx.sk (fun Q E s=>wpAny am.M A (PySem.call (.builtin id) [.ref l]) Q E s) (g (.ref i) H1) (VR (am.at res)) π1 s1:=JAt.pt (op B.as hr1 hv1);exact J.rule fun Q E h=>⟨⟨pl.is.typeIs,fun a e=>by cases e;obtain⟨o,n,ho,_,hd,_⟩:=pl;exact⟨o,ho,hd⟩⟩,h⟩
  ·exact .inl rfl
 ·refine wpAny_Call_method (T:="list") (id:=id) (zgj hb) (by rw[zae _ hst];rfl) hl PySem.F.plainAttrs_list slot hty (yV h (fun ov s₁ h₁=>⟨h₁.1.1,h₁.1.2,?_⟩) fun y y x=>x)
  rw[zae _ hst];exact Calls.callWith_builtin rfl (evalArgs_nil3 h₁.2)
end
noncomputable def popG (Hc:H) (a b:V):R V:=match b with
 |.int k=>onList Hc a fun vs=>(place vs.length k).bind fun j=>(vs[j]?).map fun v=>(v,vs.eraseIdx j)
 |_=>.bad
theorem zc3 (h:place n k=some j):seqIndex? k n=some j:=by
 unfold place at h;unfold seqIndex?
 by_cases h0:0≤k
 ·rw[zT h0] at h
  by_cases h1:k < n
  ·rw[zT h1] at h
   simp only[zR (Int.not_lt.2 h0)];rw[zT (by rw[Bool.and_eq_true];exact⟨zW h0,zW h1⟩)];exact h
  ·rw[zR h1] at h;cases h
 ·rw[zR h0] at h
  have hk:=Int.not_le.1 h0
  by_cases h1:0≤k+n
  ·rw[zT h1] at h
   simp only[zT hk];rw[zT (by rw[Bool.and_eq_true];exact⟨zW h1,zW (Int.lt_of_lt_of_le (Int.add_lt_add_right hk _) (Int.le_of_eq (Int.zero_add _)))⟩)];exact h
  ·rw[zR h1] at h;cases h
section
variable {am:Amb}{sk:List Env}{A:Around}{π:List Addr}{s:Shared}{Hc:H}
theorem zkZ (hr:HR am sk π Hc s.heap) (ha:VR am π s.heap a x) (hb:VR am π s.heap b y):JAt am sk A (PySem.call (.builtin "list.pop") [x,y]) (popG Hc a b) (VR am) π s:=by
 unfold popG
 cases b with
 |int k =>
  simp only
  cases hc:lcell Hc a with
  |false=>exact .inl (zaF hc)
  |true =>
   obtain⟨i,l,vs,xs,rfl,rfl,hi,hH,pl,hz,hv⟩:=zbd hr ha hc;simp only[onList,hH];obtain⟨t,rfl⟩:=hb
   cases hj:place vs.length k with
   |none=>exact .inl (by simp)
   |some j =>
    cases hw:vs[j]? with
    |none=>exact .inl (by simp[hw])
    |some v =>
     obtain⟨w,hx,hvw⟩:=hv.get j v hw;have le:(vs.eraseIdx j).length≤1000000:=zX (List.length_eraseIdx_le ..) hz;simp only[Option.bind_some,hw,Option.map_some,zT le];obtain⟨o,n,ho,hcl,hdi,hd⟩:=id pl;have hlen:=hv.len;refine .inr (wpAny_call_entry PySem.F.slot_list_pop pl.is.typeIs PySem.F.entry_list_pop ?_ (PySem.F.args_list_pop_2 _ _));unfold Builtin.«list.pop»
     refine yX ?_;show wpAny _ _ (pure (Value.ref l,[Value.int k t])) _ _ s;refine yW ?_;show wpAny _ _ (asIndex (.int k t) >>= _) _ _ s;refine yX (wpAny_of_eq (a:=k) rfl ?_);have pb:=zbG hj hz;show wpAny _ _ (if(!Builtin.List.listFitsIndex k)=true then _ else _) _ _ s;rw[zR (by unfold Builtin.List.listFitsIndex;rw[zW pb.1,zW pb.2];decide)]
     show wpAny _ _ (Builtin.List.listItems (.ref l) >>= _) _ _ s;refine yX (wpAny_listItems ho hd ?_);have ne:xs≠[]:=fun q=>by subst q;simp at hx
     show wpAny _ _ (if(List.toArray xs).isEmpty=true then _ else _) _ _ s;rw[zR (by simpa using ne)]
     have ei:((seqIndex? k (List.toArray xs).size).bind fun k=>Option.map (fun x=>(k,x)) (List.toArray xs)[k]?)=some (j,w):=by
      rw[show(List.toArray xs).size=vs.length by simpa using hlen,zc3 hj]
      simp[hx]
     show wpAny _ _ (match ((seqIndex? k (List.toArray xs).size).bind fun k=>Option.map (fun x=>(k,x)) (List.toArray xs)[k]?) with|some (k,x)=>_|none=>_) _ _ s
     rw[ei];show wpAny _ _ (updateSeq l (·.eraseIdxIfInBounds j) >>= fun z=>ret w) _ _ s;refine yX ?_;refine wpAny_updateSeq ho hd (yW ⟨w,rfl,?_⟩) (hz:=by rw[size_toArray,hlen];exact zaw hz) (_hz':=by exact zX (size_eraseIdxIfInBounds_le _ _) (by rw[size_toArray,hlen];exact Nat.le_succ_of_le (zaw hz)))
     have pl':=pl.update (·.eraseIdxIfInBounds j);have hp:=HR.put (tk:=s.toks) hr hi le (xs:=xs.eraseIdx j) (h':=s.heap.update l (Obj.mapSeq (·.eraseIdxIfInBounds j))) (fun b o h1 h2=>(Heap.SameBut.update ..).extBut b o h1 h2) (by simpa using pl') (hv.eraseIdx j)
     exact⟨v,_,π,rfl,hp.1,hp.2,hvw.step hp.1⟩
 |_=>exact .inl rfl
end
section
variable {am:Amb}{n:Nat}{q:Bool}{F:Fn}{c:Ck}
theorem zlA (hb:okBase v=true) (hl:(p.endLine == p'.line)=true) (hy:isStar y=false) (ho:EJ am n q F c o v) (ha:EJ am n q F c a y) :
  EJ am n q F c (.popAt o a) (.Call (.Attribute v "pop" p) [y] [] p') :=
 zch (id:="list.pop") (g:=fun x y h=>popG h x y) hb hl hy PySem.F.slot_list_pop PySem.F.type_list_pop ho ha (fun ρ Hc=>by rw[zpf];rfl) fun z hr h1 h2=>zkZ hr h1 h2
end
end Mine
namespace Mine
open PySem PySem.W PyProof.Rows PySem.MeetsSeq
open AutoSeq1 (wpAny_loadPart')
theorem zjo:∀ {xs:List Value}{is:List Int}{k:Int}{j:Nat},IntsAre xs is→(is.findIdx? fun i=>i == k)=some j→∃ (hj:j < xs.length),(∃ t,xs[j]=.int k t)∧∀ m (hm:m < xs.length),m < j→∃ i t,xs[m]=.int i t∧(i == k)=false:=by
 intro xs is k j h
 induction h generalizing j with
 |nil=>intro e;cases e
 |cons i t h ih =>
  intro e;rw[List.findIdx?_cons] at e
  by_cases hk:(i == k)=true
  ·rw[zT hk] at e
   cases e
   exact⟨Nat.succ_pos _,⟨t,by rw[←eq_of_beq hk];rfl⟩,fun m z hm=>absurd hm (Nat.not_lt_zero m)⟩
  ·rw[zR hk] at e
   obtain⟨j',e',rfl⟩:=Option.map_eq_some_iff.1 e;obtain⟨hj,h1,h2⟩:=ih e';refine⟨Nat.succ_lt_succ hj,h1,fun m hm hlt=>?_⟩
   cases m with
   |zero=>exact⟨i,t,rfl,Bool.eq_false_iff.2 hk⟩
   |succ m=>exact h2 m (Nat.lt_of_succ_lt_succ hm) (Nat.lt_of_succ_lt_succ hlt)
theorem znl (l:Addr) (c:Value) (dd:Option Addr) (sl:Array (Option Value)) (xs:List Value) (n:Nat) (k:Int) (t:Tok) (j:Nat) (hj:j < xs.length) (hit:∃ u,xs[j]=.int k u) (hno:∀ m (hm:m < xs.length),m < j→∃ i u,xs[m]=.int i u∧(i == k)=false) (hz:xs.length≤1000000) :
  ∀ (d i:Nat),i+d=j→Meets (Builtin.«list.remove.loop» ⟨[.ref l,.int k t,rawInt i],[]⟩) (fun z R s=>s.heap.get? l=some ⟨c,dd,.seq xs.toArray n,sl⟩∧R (.ok (.ret .none)) { s with heap:=s.heap.update l (Obj.mapSeq fun xs=>xs.eraseIdxIfInBounds j) }):=by
 have hs1:xs.toArray.size≤sizeLine:=by rw[size_toArray];exact zaw hz
 intro d
 induction d with
 |zero =>
  intro i hi prog w A R s h;obtain⟨hp,g,dr,tk,os⟩:=s;obtain⟨hl,h⟩:=h;rw[Nat.add_zero] at hi;subst hi;obtain⟨u,e⟩:=hit
  wp_walk using wpAny_loadPart' hl
  have h1:xs.toArray[((i:Nat):Int).toNat]?=some (.int k u):=by simp[hj,e]
  rw[h1];refine yX (wpAny_eqBool_int ?_);rw[beq_self_eq_true];have hz':(xs.toArray.eraseIdxIfInBounds i).size≤sizeLine+1:=zX (size_eraseIdxIfInBounds_le _ _) (Nat.le_succ_of_le hs1)
  wp_walk using (wpAny_updateSeq hl rfl (hz:=hs1) (_hz':=hz')),wpAny_loadPart' hl
  simpa using h
 |succ d ih =>
  intro i hi prog w A R s h;obtain⟨hp,g,dr,tk,os⟩:=s;obtain⟨hl,h⟩:=h;have hlt:i < j:=hi ▸ Nat.lt_add_of_pos_right (Nat.succ_pos d);have hil:=Nat.lt_trans hlt hj;obtain⟨m,u,e,ne⟩:=hno i hil hlt
  wp_walk using wpAny_loadPart' hl
  have h1:xs.toArray[((i:Nat):Int).toNat]?=some (.int m u):=by simp[hil,e]
  have hc:((i:Int)+1)=((i+1:Nat):Int):=rfl;rw[h1];refine yX (wpAny_eqBool_int ?_);rw[ne]
  wp_walk
  rw[hc];exact⟨plainId_quiet plain_remove_loop _,codeAny_builtin entry_remove_loop (by
   rw[Around.under_plainId plain_remove_loop _];exact ih (i+1) (by rw[Nat.add_assoc,Nat.add_comm 1 d];exact hi) prog w A R _ ⟨hl,h⟩)⟩
theorem zkK (l:Addr) (c:Value) (dd:Option Addr) (sl:Array (Option Value)) (xs:List Value) (n:Nat) (k:Int) (t:Tok) (j:Nat) (hj:j < xs.length) (hit:∃ u,xs[j]=.int k u) (hno:∀ m (hm:m < xs.length),m < j→∃ i u,xs[m]=.int i u∧(i == k)=false) (hz:xs.length≤1000000) :
  Meets (Builtin.«list.remove» ⟨[.ref l,.int k t],[]⟩) (fun z R s=>s.heap.get? l=some ⟨c,dd,.seq xs.toArray n,sl⟩∧R (.ok (.ret .none)) { s with heap:=s.heap.update l (Obj.mapSeq fun xs=>xs.eraseIdxIfInBounds j) }):=by
 intro prog w A R s h;obtain⟨hp,g,dr,tk,os⟩:=s;obtain⟨hl,h⟩:=h
 wp_walk using wpAny_loadPart' hl
 exact⟨plainId_quiet plain_remove_loop _,codeAny_builtin entry_remove_loop (by
  rw[Around.under_plainId plain_remove_loop _];exact znl l c dd sl xs n k t j hj hit hno hz j 0 (Nat.zero_add j) prog w A R _ ⟨hl,h⟩)⟩
section
variable {am:Amb}{sk:List Env}{A:Around}{π:List Addr}{s:Shared}{Hc:H}
theorem ziV (hr:HR am sk π Hc s.heap) (ha:VR am π s.heap a x) (hb:VR am π s.heap b y) :
  JAt am sk A (PySem.call (.builtin "list.remove") [x,y]) (onList Hc a fun vs=>rmvI b vs) (VR am) π s:=by
 cases hc:lcell Hc a with
 |false=>exact .inl (zaF hc)
 |true =>
  refine hold fun z k_=>?_;obtain⟨i,l,vs,xs,rfl,rfl,hi,hH,pl,hz,hv⟩:=zbd hr ha hc;refine k_ ?_
  cases b with
  |int k =>
   obtain⟨t,rfl⟩:=hb;simp only[onList,hH,rmvI]
   cases h1:asInts vs with
   |none=>exact .inl rfl
   |some is =>
    have I:=zcn h1 hv
    cases h2:is.findIdx? fun i=>i == k with
    |none=>refine .inl ?_;rw[Option.bind_some,h2];rfl
    |some j =>
     obtain⟨hj,⟨u,e1⟩,e2⟩:=zjo I h2;have le:(vs.eraseIdx j).length≤1000000:=zX (List.length_eraseIdx_le ..) hz;rw[Option.bind_some,h2];simp only[Option.map_some,zT le];refine hold fun z k_=>?_;obtain⟨o,n,ho,hcl,hdi,hd⟩:=id pl;refine k_ ?_;obtain⟨cls,dd,data,sl⟩:=o;simp only at hcl hdi hd;subst hcl hdi hd;refine .inr (call_meets PySem.F.slot_list_remove pl.is.typeIs PySem.F.entry_list_remove (PySem.F.args_list_remove_2 _ _) (zkK l _ _ sl xs n k t j hj ⟨u,e1⟩ e2 (by rw[hv.len];exact hz)) ⟨ho,?_⟩)
     have pl':=pl.update (·.eraseIdxIfInBounds j);have hp:=HR.put (tk:=s.toks) hr hi le (xs:=xs.eraseIdx j) (h':=s.heap.update l (Obj.mapSeq (·.eraseIdxIfInBounds j))) (fun b o h1 h2=>(Heap.SameBut.update ..).extBut b o h1 h2) (by simpa using pl') (hv.eraseIdx j)
     exact⟨.none,_,π,rfl,hp.1,hp.2,rfl⟩
  |_=>refine .inl ?_;simp only[onList,hH,rmvI]
end
section
variable {am:Amb}{n:Nat}{q:Bool}{F:Fn}{c:Ck}
theorem zjI (hb:okBase v=true) (hl:(p.endLine == p'.line)=true) (hy:isStar y=false) (ho:EJ am n q F c o v) (ha:EJ am n q F c a y) :
  EJ am n q F c (.remove o a) (.Call (.Attribute v "remove" p) [y] [] p') :=
 zch (id:="list.remove") (g:=fun x y h=>onList h x fun vs=>rmvI y vs) hb hl hy PySem.F.slot_list_remove PySem.F.type_list_remove ho ha (fun z z=>rfl) fun z hr h1 h2=>ziV hr h1 h2
end
end Mine
namespace Mine
open PySem PySem.W PyProof.Rows
section
variable {am:Amb}{sk:List Env}{A:Around}{π:List Addr}{s:Shared}{Hc:H}
theorem zmL (hr:HR am sk π Hc s.heap) (ha:VR am π s.heap a x) :
  JT am sk (fun Q E s=>wpAny am.M A (newFields "slice" [.int 1 t,.none,.none]) (fun i s₁=>wpAny am.M A (subscriptTail value slice x i) Q E s₁) E s) (R.opt (tailOf a) Hc) (VR am) π s:=by
 cases a with
 |tup vs =>
  by_cases h0:0 < vs.length
  ·have ha':=ha
   refine hold fun z k_=>?_;obtain⟨l,xs,rfl,_,h1,hz,hv⟩:=ha';refine k_ ?_;have e:tailOf (.tup vs)=some (.tup (vs.drop 1)):=zT h0;rw[e];have k:∀ b o,s.heap.get? b=some o→(s.heap.push { cls:=.type "slice",data:=.fields #[.int 1 t,.none,.none] }).get? b=some o:=fun b o q=>Heap.get?_push_of_some _ q;have h1t:IsTup s.heap l xs.toArray:=h1;have h1':IsTup (s.heap.push { cls:=.type "slice",data:=.fields #[.int 1 t,.none,.none] }) l xs.toArray:=h1t.keeps k
   refine .inr ?_;unfold newFields;refine wpAny_newObj_type ?_;refine zbO (s:={ s with heap:=s.heap.push { cls:=.type "slice",data:=.fields #[.int 1 t,.none,.none] } }) h1'.typeIs slot_tuple_getitem.lookup
    (getItem_tuple_from (a:=1) h1' (Heap.IsSliceOf.new ..) (Nat.le_refl 1) (by rw[size_toArray,hv.len];exact h0) ?_ (by rw[size_toArray,hv.len];exact zaw hz))
   refine OkP.step (Step.keeps (tk:=s.toks) k) ?_;exact OkP.tup (s:={ s with heap:=s.heap.push { cls:=.type "slice",data:=.fields #[.int 1 t,.none,.none] } }) (n:=0) (tk:=s.toks) (xs:=xs.drop 1) (hr.keeps k) ((hv.drop 1).keeps k) (by rw[length_drop];exact zX (Nat.sub_le ..) hz) rfl rfl
  ·refine .inl ?_
   have e:tailOf (.tup vs)=Option.none:=zR h0;rw[e];rfl
 |_=>exact .inl rfl
end
section
variable {am:Amb}{n:Nat}{q:Bool}{F:Fn}{c:Ck}
theorem zof (ha:EJ am n q F c a v):EJ am n q F c (.rev a) (.Subscript v (.Slice (some (.Constant (.int 1) k pc)) none none p') p):=fun {cx ρ A res π Hc s} B st=>by
 rw[zpi];refine JT.at (T:=fun Q E s=>wpAny am.M A (eval v cx.env) (fun x s₀=>wpAny am.M A (valueOrNone (evalOpt (some (.Constant (.int 1) k pc)) cx.env)) (fun a s₁=>wpAny am.M A (valueOrNone (evalOpt none cx.env)) (fun b s₂=>wpAny am.M A (newFields "slice" [a,b,.none]) (fun i s₃=>wpAny am.M A (subscriptTail v (.Slice (some (.Constant (.int 1) k pc)) none none p') x i) Q E s₃) E s₂) E s₁) E s₀) E s)
  (JT.bind (fun x=>PT.seq _ _ fun a=>PT.seq _ _ fun b=>PT.seq _ _ fun i=>PT.wp _ _) (ha B st) fun x v' H1 π1 s1 m hs1 hr1 hv1=>?_) fun Q E h=>?_
 ·have st1:=st.step hs1 hr1
  have hl:OptJ am n q F c (some (.int 1)) (some (.Constant (.int 1) k pc)):=zmy;have hu:OptJ am n q F c none none:=trivial;refine(JT.bind (r:=evO q F ρ (some (.int 1)) H1) (g:=fun l h=>(evO q F ρ none h).bind fun u h=>R.opt (tailOf v') h) (fun a=>PT.seq _ _ fun b=>PT.seq _ _ fun i=>PT.wp _ _) (hl.ev B st1) fun y w H2 π2 s2 e2 hs2 hr2 hv2=>?_);have st2:=st1.step hs2 hr2;refine JT.bind (fun a=>PT.seq _ _ fun i=>PT.wp _ _) (hu.ev B st2) fun z w2 H3 π3 s3 e3 hs3 hr3 hv3=>?_
  cases e2
  cases e3
  obtain⟨t,rfl⟩:∃ t,y=.int 1 t:=hv2
  cases hv3
  exact zmL hr3 ((hv1.step hs2).step hs3)
 ·have e:eval (.Subscript v (.Slice (some (.Constant (.int 1) k pc)) none none p') p) cx.env=(eval v cx.env >>= fun o=>holding [o] (valueOrNone (evalOpt (some (.Constant (.int 1) k pc)) cx.env) >>= fun a=>holding [a] (valueOrNone (evalOpt none cx.env)) >>= fun b=>holding [a,b] (pure .none) >>= fun d=>newFields "slice" [a,b,d]) >>= fun i=>standAt p >>= fun m=>subscriptTail v (.Slice (some (.Constant (.int 1) k pc)) none none p') o i):=rfl
  rw[e];exact yX (yV h (fun o s0 h0=>yX (yU (yX (yV h0 (fun a s1 h1=>yX (yU (yV h1 (fun b s2 h2=>yX (yU (yW (yV h2 (fun i s3 h3=>yX (wpAny_standAt h3)) fun m m x=>x)))) fun m m x=>x))) fun m m x=>x)))) fun m m x=>x)
end
noncomputable def popL (Hc:H) (a:V):R V:=onList Hc a fun vs=>(vs.getLast?).map fun v=>(v,vs.dropLast)
theorem ziO (h:n - 1 < n):place n (-1)=some (n - 1):=by
 cases n with
 |zero=>exact absurd h (Nat.lt_irrefl 0)
 |succ m =>
  unfold place;rw[zR (by decide),zdd,zT (Int.natCast_nonneg m)];rfl
section
variable {am:Amb}{sk:List Env}{A:Around}{π:List Addr}{s:Shared}{Hc:H}
theorem zpq (hr:HR am sk π Hc s.heap) (ha:VR am π s.heap a x):JAt am sk A (PySem.call (.builtin "list.pop") [x]) (popL Hc a) (VR am) π s:=by
 unfold popL
 cases hc:lcell Hc a with
 |false=>exact .inl (zaF hc)
 |true =>
  obtain⟨i,l,vs,xs,rfl,rfl,hi,hH,pl,hz,hv⟩:=zbd hr ha hc;simp only[onList,hH]
  cases hw:vs.getLast? with
  |none=>exact .inl rfl
  |some v =>
   rw[List.getLast?_eq_getElem?] at hw;obtain⟨w,hx,hvw⟩:=hv.get _ v hw;have hlen:=hv.len;have hpos:vs.length - 1 < vs.length:=(List.getElem?_eq_some_iff.1 hw).1;have le:vs.dropLast.length≤1000000:=by rw[List.length_dropLast];exact zX (Nat.sub_le ..) hz
   simp only[Option.map_some,zT le];obtain⟨o,n,ho,hcl,hdi,hd⟩:=id pl;refine .inr (wpAny_call_entry PySem.F.slot_list_pop pl.is.typeIs PySem.F.entry_list_pop ?_ (PySem.F.args_list_pop_1 _));unfold Builtin.«list.pop»
   refine yX ?_;show wpAny _ _ (pure (Value.ref l,[])) _ _ s;refine yW ?_;show wpAny _ _ (Builtin.List.listItems (.ref l) >>= _) _ _ s;refine yX (wpAny_listItems ho hd ?_);have ne:xs≠[]:=fun q=>by subst q;simp at hx
   show wpAny _ _ (if(List.toArray xs).isEmpty=true then _ else _) _ _ s;rw[zR (by simpa using ne)]
   have ei:((seqIndex? (-1) (List.toArray xs).size).bind fun k=>Option.map (fun x=>(k,x)) (List.toArray xs)[k]?)=some (vs.length - 1,w):=by
    rw[show(List.toArray xs).size=vs.length by simpa using hlen,zc3 (j:=vs.length - 1) (ziO hpos)]
    simp[hx]
   show wpAny _ _ (match ((seqIndex? (-1) (List.toArray xs).size).bind fun k=>Option.map (fun x=>(k,x)) (List.toArray xs)[k]?) with|some (k,x)=>_|none=>_) _ _ s
   rw[ei];show wpAny _ _ (updateSeq l (·.eraseIdxIfInBounds (vs.length - 1)) >>= fun z=>ret w) _ _ s;refine yX ?_;refine wpAny_updateSeq ho hd (yW ⟨w,rfl,?_⟩) (hz:=by rw[size_toArray,hlen];exact zaw hz) (_hz':=by exact zX (size_eraseIdxIfInBounds_le _ _) (by rw[size_toArray,hlen];exact Nat.le_succ_of_le (zaw hz)))
   have pl':=pl.update (·.eraseIdxIfInBounds (vs.length - 1));have hp:=HR.put (tk:=s.toks) hr hi (vs:=vs.eraseIdx (vs.length - 1)) (zX (List.length_eraseIdx_le ..) hz) (xs:=xs.eraseIdx (vs.length - 1)) (h':=s.heap.update l (Obj.mapSeq (·.eraseIdxIfInBounds (vs.length - 1)))) (fun b o h1 h2=>(Heap.SameBut.update ..).extBut b o h1 h2) (by simpa using pl') (hv.eraseIdx _)
   rw[List.eraseIdx_length_sub_one] at hp;exact⟨v,_,π,rfl,hp.1,hp.2,hvw.step hp.1⟩
end
section
variable {am:Amb}{n:Nat}{q:Bool}{F:Fn}{c:Ck}
theorem zqb (hb:okBase v=true) (hl:(p.endLine == p'.line)=true) (ho:EJ am n q F c o v):EJ am n q F c (.pop o) (.Call (.Attribute v "pop" p) [] [] p') :=
 zhI (id:="list.pop") (g:=fun x h=>popL h x) hb hl PySem.F.slot_list_pop PySem.F.type_list_pop ho (fun ρ Hc=>by
  rw[qE_34]
  congr 1
  funext x h
  cases hc:lcell h x with
  |true=>rfl
  |false=>exact zaF hc) fun z hr h1=>zpq hr h1
end
section
variable {am:Amb}{sk:List Env}{A:Around}{π:List Addr}{s:Shared}{Hc:H}
theorem HR.grow (hr:HR am sk π Hc s.heap) (hl:s.heap.get? l=none) (k:∀ b o,s.heap.get? b=some o→h'.get? b=some o) (hc:CellAt am (π++[l]) h' c l) :
  OkP am sk (VR am) π s (.ok (.ref Hc.length) (Hc++[c])) (.ref l) { s with heap:=h',toks:=tk }:=by
 have hp:=zaU hr hl;have hr':=hr.keeps k;have st:Step (Fs sk) π s (π++[l]) { s with heap:=h',toks:=tk } :=
  ⟨⟨h',tk,rfl⟩,Ext.of_keeps k,[l],rfl,fun a ha=>by rw[zK.mp ha];exact hl⟩
 refine⟨_,_,π++[l],rfl,st,⟨hr'.base,hr'.frames,by simp[hr.len],?_,hr'.res,fun a ha=>?_,fun i c' a hi ha=>?_⟩,?_⟩
 ·rw[nodup_append]
  exact⟨hr.nodup,by simp,fun a ha b hb=>by rw[zK.mp hb];exact fun q=>hp (q ▸ ha)⟩
 ·rcases zP.mp ha with ha|ha
  ·exact hr.off a ha
  ·rw[zK.mp ha];exact⟨zal hr.base hl,zbZ hr hl⟩
 ·by_cases hlt:i < Hc.length
  ·rw[List.getElem?_append_left hlt] at hi
   rw[List.getElem?_append_left (by rw[hr.len];exact hlt)] at ha
   exact(hr.cell i c' a hi ha).via st.via fun o e z=>⟨o.slots,k a o e⟩
  ·have hi':i=Hc.length:=by
    have:=(List.getElem?_eq_some_iff.mp hi).1;rw[zQ] at this;exact Nat.le_antisymm (Nat.le_of_lt_succ this) (Nat.le_of_not_lt hlt)
   subst hi';simp only[List.getElem?_concat_length,Option.some.injEq] at hi;rw[←hr.len] at ha;simp only[List.getElem?_concat_length,Option.some.injEq] at ha;subst hi ha;exact hc
 ·rw[zka]
  exact⟨l,rfl,by rw[←hr.len];simp⟩
theorem HR.putD {i:Nat}{d:Addr}{c:Cell}{h':Heap}{tk:Nat}(hr:HR am sk π Hc s.heap) (hi:π[i]?=some d) (k:∀ b o,b≠d→s.heap.get? b=some o→h'.get? b=some o) (ho:∃ o,h'.get? d=some o∧∀ us,o.data≠.fields us)
  (hc:Step (Fs sk) π s π { s with heap:=h',toks:=tk }→CellAt am π h' c d) :
  Step (Fs sk) π s π { s with heap:=h',toks:=tk }∧HR am sk π (Hc.set i c) h':=by
 have hl:=zby hi;have st:Step (Fs sk) π s π { s with heap:=h',toks:=tk }:=by
  refine⟨⟨h',tk,rfl⟩,⟨fun a o e h1 z=>k a o (fun q=>h1 (q ▸ hl)) e,fun a o e h1=>⟨o.slots,k a o (fun q=>h1 (q ▸ hl)) e⟩,fun a o e=>?_⟩,[],by simp,by simp⟩
  by_cases ha:a=d
  ·subst ha;obtain⟨o,ho,_⟩:=ho;exact⟨o,ho⟩
  ·exact⟨o,k a o ha e⟩
 refine⟨st,⟨fun a o e=>?_,zbg k ho hr.frames,by simp[hr.len],hr.nodup,fun a ha=>?_,hr.off,fun j c' a h1 h2=>?_⟩⟩
 ·exact k a o (fun q=>by subst q;rw[(hr.off a hl).1] at e;cases e) (hr.base a o e)
 ·by_cases hq:a=d
  ·subst hq;exact ho
  ·obtain⟨o,ho,hd⟩:=hr.res a ha
   exact⟨o,k a o hq ho,hd⟩
 ·by_cases hj:j=i
  ·subst hj
   have hlt:j < Hc.length:=by rw[←hr.len];exact(List.getElem?_eq_some_iff.mp hi).1
   rw[List.getElem?_set_self hlt] at h1
   cases h1
   rw[hi] at h2;cases h2
   exact hc st
  ·rw[List.getElem?_set_ne (Ne.symm hj)] at h1
   have hne:a≠d:=fun q=>hj (zme hr.nodup (q ▸ h2) hi);exact(hr.cell j c' a h1 h2).via st.via fun o e z=>⟨o.slots,k a o hne e⟩
set_option tactic.hygienic true in
theorem zcM (ha:VR am π s.heap a x) (hc:dcell Hc a=true):∃ i d es,a=.ref i∧x=.ref d∧π[i]?=some d∧Hc[i]?=some (.dict es):=by
 cases a with
 |ref i =>
  simp only[dcell] at hc;obtain⟨l,rfl,hl⟩:=ha
  split at hc
  ·rename_i es hv
   exact⟨i,l,es,rfl,rfl,hl,hv⟩
  ·cases hc
 |_=>simp[dcell] at hc
section
variable {es:List (V × V)}{d:Addr}{o:Obj}{arr:Array DictEntry}{ep:Nat}{xs:List Value}
theorem DC.line (D:DC am π s.heap es d o arr ep xs):arr.size≤sizeLine:=by
 rw[D.size];have:=D.len;rw[zbh] at this;have:=zbb
 omega
theorem DC.push (D:DC am π s.heap es d o arr ep xs) (hr:HR am sk π Hc s.heap) (hi:π[i]?=some d) (hb:VR am π s.heap b y) (hz:VR am π s.heap c z) (hk:keyOk b=true) (hn:dfind b es=none) (hle:es.length≤1000) :
  Step (Fs sk) π s π { s with heap:=s.heap.update d (Obj.mapDictKeys (·.push ⟨hashV b,y,z⟩)),toks:=tk }∧HR am sk π (Hc.set i (.dict (es++[(b,c)]))) (s.heap.update d (Obj.mapDictKeys (·.push ⟨hashV b,y,z⟩))):=by
 have hd':=Obj.data_mapDictKeys D.data (·.push ⟨hashV b,y,z⟩);have hg':=Heap.get?_update_self (Obj.mapDictKeys (·.push ⟨hashV b,y,z⟩)) D.ho (Obj.isFreed_of_dict hd');have xl:xs.length=2 * es.length:=by rw[D.vr.len];exact zbh es
 refine HR.putD (c:=.dict (es++[(b,c)])) hr hi (fun b o h1 h2=>(Heap.SameBut.update ..).extBut b o h1 h2) ⟨_,hg',fun us q=>by rw[hd'] at q;cases q⟩ fun st=>?_
 obtain⟨ne,ho,cls,di,da,ar,vr,gd,ag,ln⟩:=D;refine⟨_,xs++[y,z],hg',⟨ne_of_beq_false ne,_,_,?_,?_,hd',?_,zhJ gd hk hn,by rw[zQ,ag];rfl⟩,?_,?_⟩
 ·obtain⟨c0,di,dt,sl⟩:=o;simp only at da;subst da;exact cls
 ·obtain⟨c0,di,dt,sl⟩:=o;simp only at da;subst da;assumption
 ·rw[Array.toList_push,ar,zjF es xs b c _ _ xl]
 ·show((es++[(b,c)]).flatMap fun e=>[e.1,e.2]).length≤_
  rw[zbh,zQ,length_singleton];exact zX (Nat.mul_le_mul_left 2 (Nat.succ_le_succ hle)) (by decide)
 ·show VRs am π _ ((es++[(b,c)]).flatMap fun e=>[e.1,e.2]) _
  rw[List.flatMap_append];refine VRs.append (vr.step st) ?_;show VRs am π _ [b,c] [y,z];exact⟨_,_,rfl,hb.step st,_,_,rfl,hz.step st,rfl⟩
theorem DC.put (D:DC am π s.heap es d o arr ep xs) (hr:HR am sk π Hc s.heap) (hi:π[i]?=some d) (hz:VR am π s.heap c z) (hj:es[j]?=some (b,v0)) :
  Step (Fs sk) π s π { s with heap:=s.heap.update d (Obj.mapDict (·.modify j fun e=>{ e with val:=z })),toks:=tk }∧HR am sk π (Hc.set i (.dict (es.set j (b,c)))) (s.heap.update d (Obj.mapDict (·.modify j fun e=>{ e with val:=z }))):=by
 have hd':=Obj.data_mapDict D.data (·.modify j fun e=>{ e with val:=z })
 have hg':=Heap.get?_update_self (Obj.mapDict (·.modify j fun e=>{ e with val:=z })) D.ho (Obj.isFreed_of_dict hd')
 refine HR.putD (c:=.dict (es.set j (b,c))) hr hi (fun b o h1 h2=>(Heap.SameBut.update ..).extBut b o h1 h2) ⟨_,hg',fun us q=>by rw[hd'] at q;cases q⟩ fun st=>?_
 obtain⟨ne,ho,cls,di,da,ar,vr,gd,ag,ln⟩:=D;obtain⟨xs',r',e'⟩:=zlv (hz.step st) (vr.step st) hj;have km:(es.set j (b,c)).map (·.1)=es.map (·.1):=by
  have e:(es.map (·.1))[j]?=some b:=by rw[List.getElem?_map,hj];rfl
  obtain⟨_,e⟩:=List.getElem?_eq_some_iff.1 e;rw[map_set];show(es.map (·.1)).set j b=_;rw[←e,List.set_getElem_self]
 refine⟨_,xs',hg',⟨ne_of_beq_false ne,_,_,?_,?_,hd',?_,⟨?_,fun e he=>?_⟩,by rw[length_set];exact ag⟩,?_,r'⟩
 ·obtain⟨c0,di,dt,sl⟩:=o;simp only at da;subst da;exact cls
 ·obtain⟨c0,di,dt,sl⟩:=o;simp only at da;subst da;assumption
 ·rw[Array.toList_modify,ar,e']
 ·rw[km];exact gd.1
 ·have:e.1∈es.map (·.1):=by rw[←km];exact yQ.2 ⟨e,he,rfl⟩
  obtain⟨e0,h0,q⟩:=yQ.1 this;rw[←q];exact gd.2 e0 h0
 ·show((es.set j (b,c)).flatMap fun e=>[e.1,e.2]).length≤_
  rw[zbh,length_set,← zbh];exact ln
theorem zdL {Q:PUnit→Shared→Prop}{E:Value→Shared→Prop}(hu:A.units < cLine) (hr:HR am sk π Hc s.heap) (hi:π[i]?=some d) (D:DC am π s.heap es d o arr ep xs) (hk:keyOk b=true) (hb:VR am π s.heap b y) (hc:VR am π s.heap c w) (hle:es.length≤1000)
  (h:∀ s',Step (Fs sk) π s π s'→HR am sk π (Hc.set i (.dict (dput b c es))) s'.heap→Q () s'):wpAny am.M A (dictSet d y w) Q E s:=by
 obtain⟨m,hh⟩:=zf5 (A:=A) hk hb hu;unfold dictSet
 try with_reducible refine yU ?_
 refine yX (hh ?_);unfold dictSetHashed
 try with_reducible refine yU ?_
 refine yX (zf6 (s:={ s with toks:=s.toks+m }) D hk hb hu (fun e=>?_) fun j v e=>?_)
 ·have p:=D.push (tk:=s.toks+m) hr hi hb hc hk e hle
  rw[←dput_new e] at p;exact yX (wpAny_rule (wpAny_updateDictKeys (hz:=D.line) (s:={ s with toks:=s.toks+m }) D.ho D.data (h _ p.1 p.2)))
 ·have p:=D.put (tk:=s.toks+m) hr hi hc e
  rw[←zlF D.good.1 e] at p;exact yX (wpAny_rule (yX (wpAny_updateDict (s:={ s with toks:=s.toks+m }) D.ho D.data (wpAny_point (h _ p.1 p.2)))))
theorem zmN {Q:Unit→Shared→Prop}{E:Value→Shared→Prop}(as:AS n sk A) (hr:HR am sk π Hc s.heap) (ha:VR am π s.heap a x) (hb:VR am π s.heap b y) (hc:VR am π s.heap c w) (he:dcell Hc a=true) (hs:seti Hc a b c=some H')
  (h:∀ s',Step (Fs sk) π s π s'→HR am sk π H' s'.heap→Q () s'):wpAny am.M A (setItem x y w) Q E s:=by
 obtain⟨i,d,es,rfl,rfl,hi,hH⟩:=zcM ha he;obtain⟨o,arr,ep,xs,D⟩:=(hr.cell i _ d hH hi).dict;have hu:A.in1.units < cLine:=as.uk (k:=1) (by decide)
 simp only[seti,hH] at hs
 cases hk:keyOk b with
 |false=>rw[hk] at hs;cases hs
 |true =>
  rw[hk,Bool.true_and] at hs
  by_cases hle:es.length≤1000
  ·rw[zT (zW hle)] at hs
   cases hs
   unfold setItem
   try with_reducible refine yU ?_
   refine yX (wpAny_sequenceKey D.typeIs (by decide) ?_)
   refine yX (wpAny_callSpecial?_slot (name:=Str.ofString "__setitem__") D.typeIs slot_dict_setitem
    (wpAny_call_entry slot_dict_setitem D.typeIs entry_dict_setitem ?_ (args_dict_setitem _ _ _)))
   show wpAny _ _ (Builtin.Dict.notOrdered "__setitem__" ⟨[.ref d,y,w],[]⟩ >>= _) _ _ s;refine yX (wpAny_notOrdered_dict D.typeIs ?_);show wpAny _ _ (dictSet d y w >>= _) _ _ s;exact yX (zdL hu hr hi D hk hb hc hle fun s' h1 h2=>yW ⟨.none,rfl,yW (h s' h1 h2)⟩)
  ·rw[zR fun q=>hle (zV q)] at hs;cases hs
end
theorem ziU {n:Nat}{a b c:V}{x y z:Value}(as:AS n sk A) (hr:HR am sk π Hc s.heap) (ha:VR am π s.heap a x) (hb:VR am π s.heap b y) (hz:VR am π s.heap c z) (hd:dcell Hc a=true) :
  JAt am sk A (PySem.call (.builtin "dict.setdefault") [x,y,z]) (setDef Hc a b c) (VR am) π s:=by
 obtain⟨i,d,es,rfl,rfl,hi,hc⟩:=zcM ha hd;unfold setDef onDict;simp only[hc]
 cases hk:keyOk b with
 |false=>exact .inl rfl
 |true =>
  rw[zT rfl];obtain⟨o,arr,ep,xs,D⟩:=(hr.cell i _ d hc hi).dict;have hu:A.in1.units < cLine:=as.uk (k:=1) (by decide)
  obtain⟨m,hh⟩:=zf5 (A:=A.in1) hk hb hu;have go:∀ {Q:Value→Shared→Prop}{E:Value→Shared→Prop},(∀ v u,dfind b es=some v→VR am π s.heap v u→Q u { s with toks:=s.toks+m })→(dfind b es=none→Q z { s with heap:=s.heap.update d (Obj.mapDictKeys (·.push ⟨hashV b,y,z⟩)),toks:=s.toks+m })→wpAny am.M A (PySem.call (.builtin "dict.setdefault") [.ref d,y,z]) Q E s:=by
   intro Q E h1 h2;refine wpAny_call_entry PySem.F.slot_dict_setdefault D.typeIs PySem.F.entry_dict_setdefault ?_ (PySem.F.args_dict_setdefault_3 _ _ _);unfold Builtin.«dict.setdefault»
   refine yX ?_;unfold Builtin.Dict.keyAndDefault;refine yX (wpAny_notOrdered_dict D.typeIs ?_);show wpAny _ _ (pure (d,y,some z)) _ _ s;refine yW ?_;show wpAny _ _ (if(d == sysModules)=true then _ else(dictSetDefault d y z >>= _)) _ _ s;rw[zR (by rw[D.ne];exact Bool.false_ne_true)]
   refine yX ?_;unfold dictSetDefault
   try with_reducible refine yU ?_
   refine yX (hh (yX (zf6 (s:={ s with toks:=s.toks+m }) D hk hb hu (fun e=>?_) fun j v e=>?_)))
   ·exact yX (wpAny_rule (yX (wpAny_updateDictKeys (hz:=D.line) (s:={ s with toks:=s.toks+m }) D.ho D.data (yW (yW ⟨_,rfl,h2 e⟩)))))
   ·obtain⟨x',u,e1,_,hu'⟩:=D.at e
    refine yX (wpAny_dictEntries (s:={ s with toks:=s.toks+m }) D.ho D.data ?_)
    rw[e1];exact yX (wpAny_rule (yW (yW ⟨_,rfl,h1 v u (zg1 D.good.1 e) hu'⟩)))
  cases hf:dfind b es with
  |none =>
   by_cases hle:es.length≤1000
   ·simp only[zT hle]
    refine .inr (go (fun v u e=>by rw[hf] at e;cases e) fun e=>?_)
    have p:=D.push (tk:=s.toks+m) hr hi hb hz hk e hle;exact⟨c,_,π,rfl,p.1,p.2,hz.step p.1⟩
   ·simp only[zR hle];exact .inl rfl
  |some v=>exact .inr (go (fun v' u e hv=>by rw[hf] at e;cases e;exact OkP.tok hr hv) fun e=>by rw[hf] at e;cases e)
end
section
variable {am:Amb}{n:Nat}{q:Bool}{F:Fn}{c:Ck}
theorem zhH:EJ am n q F c .newDict (.Dict [] [] p):=fun {cx ρ A res π Hc s} B st=>by
 show JAt _ _ _ _ (R.ok (V.ref Hc.length) (Hc++[Cell.dict []])) _ _ _;refine .inr (wpAny_Dict_empty ?_);have k:∀ b o',s.heap.get? b=some o'→(s.heap.push { cls:=.type "dict",data:=.dict #[] }).get? b=some o':=fun z z e=>Heap.get?_push_of_some _ e;have lt:mainGlobals < s.heap.objs.size:=(HR.gns B.ok st.hr).lt;refine HR.grow (tk:=s.toks) st.hr (zaj _) k ⟨_,[],Heap.get?_push_size _ rfl,⟨?_,_,_,rfl,rfl,rfl,rfl,⟨.nil,fun z h=>nomatch h⟩,rfl⟩,by decide,rfl⟩
 exact Nat.ne_of_gt (Nat.lt_of_le_of_lt (by decide) lt)
theorem zcv {f:Nat→List (V × V)→R V}(hc:dcell h x=false):onDict h x y f=.bad:=by
 cases x with
 |ref i =>
  simp only[dcell] at hc;unfold onDict
  cases hq:h[i]? with
  |none=>simp only[hq]
  |some cc=>cases cc with
   |list vs=>simp only[hq]
   |dict es=>rw[hq] at hc;cases hc
 |_=>rfl
set_option tactic.hygienic true in
theorem zgY {e o k d:PE}{v y z:Expr}{name:Str}{id:String}{p p':Pos}{g:H→V→V→V→R V}(hb:okBase v=true) (hl:(p.endLine == p'.line)=true) (hy:isStar y=false) (hz:isStar z=false) (slot:Slot "dict" name id) (hty:typeOf (.builtin id)=pure (.type "method_descriptor"))
  (ho:EJ am n q F c o v) (hk:EJ am n q F c k y) (hd:EJ am n q F c d z) (he:∀ ρ Hc,evE q F ρ e Hc=(evE q F ρ o Hc).bind fun x h=>if dcell h x then(evE q F ρ k h).bind fun y h=>(evE q F ρ d h).bind fun z h=>g h x y z else .bad)
  (hg:∀ h x y z,dcell h x=false→g h x y z=.bad)
  (op:∀ {res:List Addr}{sk:List Env}{A:Around}{π:List Addr}{s:Shared}{Hc:H}{a b c:V}{x y z:Value},AS n sk A→HR (am.at res) sk π Hc s.heap→VR (am.at res) π s.heap a x→VR (am.at res) π s.heap b y→VR (am.at res) π s.heap c z→dcell Hc a=true→JAt (am.at res) sk A (PySem.call (.builtin id) [x,y,z]) (g Hc a b c) (VR (am.at res)) π s) :
  EJ am n q F c e (.Call (.Attribute v name p) [y,z] [] p'):=fun {cx ρ A res π Hc s} B st=>by
 rw[he];have hst:∀ u∈[y,z],isStar u=false:=by
  intro u hu
  rcases zN.1 hu with rfl|hu
  ·exact hy
  ·rw[zK.1 hu];exact hz
 refine JT.at (T:=fun Q E s=>wpAny am.M A (eval v cx.env) (fun ov s₁=>(s₁.TypeIs ov "dict"∧(∀ a,ov=.ref a→∃ ob,s₁.heap.get? a=some ob∧ob.dict=none))∧wpAny am.M A (eval y cx.env) (fun w s₂=>wpAny am.M A (eval z cx.env) (fun u s₃=>wpAny am.M A (PySem.call (.builtin id) [ov,w,u]) Q E s₃) E s₂) E s₁) E s)
  (JT.bind (fun t=>PT.and (PT.seq _ _ fun t=>PT.seq _ _ fun t=>PT.wp _ _)) (ho B st) fun x u H1 π1 s1 t hs1 hr1 hv1=>?_) fun Q E h=>?_
 ·split
  ·rename_i hc
   obtain⟨i,l,es,rfl,rfl,hi,hH⟩:=zcM hv1 hc;obtain⟨o,arr,ep,xs,D⟩:=(hr1.cell i _ l hH hi).dict;have J:JT (am.at res) cx.sk (fun Q E s=>wpAny am.M A (eval y cx.env) (fun w s₂=>wpAny am.M A (eval z cx.env) (fun u s₃=>wpAny am.M A (PySem.call (.builtin id) [.ref l,w,u]) Q E s₃) E s₂) E s) ((evE q F ρ k H1).bind fun y h=>(evE q F ρ d h).bind fun z h=>g h (.ref i) y z) (VR (am.at res)) π1 s1 :=
    JT.bind (fun t=>PT.seq _ _ fun t=>PT.wp _ _) (hk B (st.step hs1 hr1)) fun w u H2 π2 s2 t hs2 hr2 hv2 =>
     JT.bind (fun t=>PT.wp _ _) (hd B ((st.step hs1 hr1).step hs2 hr2)) fun w' u' H3 π3 s3 t hs3 hr3 hv3=>by
      cases hc3:dcell H3 (.ref i) with
      |true=>exact JAt.pt (op B.as hr3 ((hv1.step hs2).step hs3) (hv2.step hs3) hv3 hc3)
      |false=>exact .inl (hg _ _ _ _ hc3)
   exact J.rule fun Q E h=>⟨⟨D.typeIs,fun a e=>by cases e;exact⟨_,D.ho,D.dict⟩⟩,h⟩
  ·exact .inl rfl
 ·refine wpAny_Call_method (T:="dict") (id:=id) (zgj hb) (by rw[zae _ hst];rfl) hl PySem.F.plainAttrs_dict slot hty (yV h (fun ov s₁ h₁=>⟨h₁.1.1,h₁.1.2,?_⟩) fun t t x=>x)
  rw[zae _ hst];exact Calls.callWith_builtin rfl (Calls.evalArgs_plain (spl2 h₁.2))
theorem zjH (hb:okBase v=true) (hl:(p.endLine == p'.line)=true) (hy:isStar y=false) (hz:isStar z=false) (ho:EJ am n q F c o v) (hk:EJ am n q F c k y) (hd:EJ am n q F c d z) :
  EJ am n q F c (.setdef o k d) (.Call (.Attribute v "setdefault" p) [y,z] [] p') :=
 zgY (g:=setDef) hb hl hy hz PySem.F.slot_dict_setdefault PySem.F.type_dict_setdefault ho hk hd (fun u u=>rfl) (fun u u u u h=>zcv h) fun as hr h1 h2 h3 hc=>ziU as hr h1 h2 h3 hc
end
section
variable {am:Amb}{sk:List Env}{A:Around}{π:List Addr}{s:Shared}{Hc:H}
theorem zpy (as:AS n sk A) (hr:HR am sk π Hc s.heap) (ha:VR am π s.heap a x) (hb:VR am π s.heap b y) (hz:VR am π s.heap c z) (hd:dcell Hc a=true) :
  JAt am sk A (PySem.call (.builtin "dict.get") [x,y,z]) (getDef Hc a b c) (VR am) π s:=by
 obtain⟨i,d,es,rfl,rfl,hi,hc⟩:=zcM ha hd;unfold getDef onDict;simp only[hc]
 cases hk:keyOk b with
 |false=>exact .inl rfl
 |true =>
  rw[zT rfl];obtain⟨o,arr,ep,xs,D⟩:=(hr.cell i _ d hc hi).dict;have hu:A.in1.units < cLine:=as.uk (k:=1) (by decide)
  refine .inr (wpAny_call_entry PySem.F.slot_dict_get D.typeIs PySem.F.entry_dict_get ?_ (PySem.F.args_dict_get_3 _ _ _));show wpAny _ _ (dictGet d y >>= _) _ _ s;refine yX (D.get hk hb hu (fun m e=>?_) fun m v w e hv=>?_)
  ·rw[e]
   show wpAny _ _ (Builtin.Dict.missed d y >>= _) _ _ _;exact yX (wpAny_missed_other D.ne (yW ⟨z,rfl,OkP.tok hr hz⟩))
  ·rw[e]
   exact yW ⟨w,rfl,OkP.tok hr hv⟩
end
section
variable {am:Amb}{n:Nat}{q:Bool}{F:Fn}{c:Ck}
theorem zqf (hb:okBase v=true) (hl:(p.endLine == p'.line)=true) (hy:isStar y=false) (hz:isStar z=false) (ho:EJ am n q F c o v) (hk:EJ am n q F c k y) (hd:EJ am n q F c d z) :
  EJ am n q F c (.get o k d) (.Call (.Attribute v "get" p) [y,z] [] p') :=
 zgY (g:=getDef) hb hl hy hz PySem.F.slot_dict_get PySem.F.type_dict_get ho hk hd (fun u u=>rfl) (fun u u u u h=>zcv h) fun as hr h1 h2 h3 hc=>zpy as hr h1 h2 h3 hc
theorem PT.wpd {α γ:Type}(M:Model) (m:Sem α) (f:α→γ):PT.Mono (fun(Q:γ→Shared→Prop) E s=>wpAny M A m (fun a s₁=>Q (f a) s₁) E s):=fun z z z z z h1 h2 h=>yV h (fun z z x=>h1 _ _ x) h2
theorem zlC (hk:EJ am n q F c a ky) (hv:EJ am n q F c b vy):EJ am n q F c (.dict1 a b) (.Dict [some ky] [vy] p):=fun {cx ρ A res π Hc s} B st=>by
 rw[zpd];have k:∀ b o',s.heap.get? b=some o'→(s.heap.push { cls:=.type "dict",data:=.dict #[] }).get? b=some o':=fun z z e=>Heap.get?_push_of_some _ e;have lt:mainGlobals < s.heap.objs.size:=(HR.gns B.ok st.hr).lt;obtain⟨v0,H0,π0,e0,hs0,hr0,hv0⟩:=HR.grow (tk:=s.toks) (c:=.dict []) st.hr (zaj _) k ⟨_,[],Heap.get?_push_size _ rfl,⟨Nat.ne_of_gt (Nat.lt_of_le_of_lt (by decide) lt),_,_,rfl,rfl,rfl,rfl,⟨.nil,fun z h=>nomatch h⟩,rfl⟩,by decide,rfl⟩
 cases e0
 have hu:A.units < cLine:=B.as.uk (k:=0) (by decide)
 have J:JT (am.at res) cx.sk (fun Q E s1=>wpAny am.M A (eval ky cx.env) (fun kv s₁=>wpAny am.M A (eval vy cx.env) (fun vv s₂=>wpAny am.M A (dictSet s.heap.objs.size kv vv) (fun z s₃=>Q (.ref s.heap.objs.size) s₃) E s₂) E s₁) E s1)
   ((evE q F ρ a (Hc++[.dict []])).bind fun k h'=>(evE q F ρ b h').bind fun v h'=>match setiD h' Hc.length k v with|some h'=>R.ok (V.ref Hc.length) h'|Option.none=>.bad) (VR (am.at res)) π0 { s with heap:=s.heap.push { cls:=.type "dict",data:=.dict #[] } } :=
  JT.bind (fun z=>PT.seq _ _ fun z=>PT.wpd _ _ _) (hk B (st.step hs0 hr0)) fun kv kb H1 π1 s1 z hs1 hr1 hv1 =>
   JT.bind (fun z=>PT.wpd _ _ _) (hv B ((st.step hs0 hr0).step hs1 hr1)) fun vv vb H2 π2 s2 z hs2 hr2 hv2=>by
    have hd:=(hv0.step hs1).step hs2;have hd':=hd;obtain⟨_,e,hi⟩:=hd'
    cases e
    cases hq:H2[Hc.length]? with
    |none=>refine .inl ?_;simp only[setiD,hq]
    |some cc =>
     cases cc with
     |list vs=>refine .inl ?_;simp only[setiD,hq]
     |dict es =>
      simp only[setiD,hq];obtain⟨o,arr,ep,xs,D⟩:=(hr2.cell _ _ _ hq hi).dict
      cases hk':keyOk kb with
      |false=>exact .inl rfl
      |true =>
       by_cases hle:es.length≤1000
       ·rw[Bool.true_and,zT (zW hle)]
        exact .inr (zdL (am:=am.at res) hu hr2 hi D hk' (hv1.step hs2) hv2 hle fun s' h1 h2=>⟨_,_,π2,rfl,h1,h2,hd.step h1⟩)
       ·rw[Bool.true_and,zR fun q=>hle (zV q)];exact .inl rfl
 rcases J with j|j
 ·exact .inl j
 ·refine .inr (wpAny_Dict_any rfl rfl (by simp) (by simp) (pairTrees_cons_walk (yV j (fun kv s₁ j=>yV j (fun vv s₂ j=>pairTrees_nil_walk ?_) fun z z e=>e.step hs0) fun z z e=>e.step hs0)))
  unfold storeAll;rw[List.forIn_cons];refine yX (yX (yV j (fun z s₃ q=>yW ?_) fun z z e=>e.step hs0));dsimp only;rw[List.forIn_nil];exact yW (q.step hs0)
end
inductive ItR (am:Amb) (sk:List Env) (A:Around) (h₀:Heap) (π:List Addr) (h:Heap) (b:List V × Watch):Value→Prop
 |mk (I:Addr) (h1:h₀.get? I=none) (h2:am.B.get? I=none) (h3:∀ R h',(∀ a∈R,a∈am.res∨h.get? a=none)→(∀ b o,h.get? b=some o→h'.get? b=some o)→∃ Sx,Iter (am.at R) sk A I b.2 b.1 Sx∧Sx 0 π h'):ItR am sk A h₀ π h b (.ref I)
section
variable {am:Amb}{sk:List Env}{A:Around}{π:List Addr}{s:Shared}{Hc:H}
theorem zdt (hr:HR am sk π Hc s.heap){a:Addr}(h:s.heap.get? a=none):am.B.get? a=none:=zal hr.base h
theorem zdT {h:Heap}{a b:Addr}{o:Obj}(h1:h.get? a=none) (h2:h.get? b=some o):b≠a:=fun q=>by subst q;rw[h1] at h2;cases h2
theorem znI {am:Amb}{R:List Addr}{h:Heap}{a:Addr}{o:Obj}(hR:∀ a∈R,a∈am.res∨h.get? a=none) (ho:h.get? a=some o) (ha:a ∉ am.res):a ∉ R:=fun q=>by
 rcases hR a q with z|z
 ·exact ha z
 ·rw[ho] at z;cases z
theorem zqO {am:Amb}{R π:List Addr}{h:Heap}(hR:∀ a∈R,a∈am.res∨h.get? a=none):Via am (am.at R) π π h h:=⟨fun a o ho z h1 h2=>⟨⟨o.slots,ho⟩,h1,znI hR ho h2⟩,fun z z e=>e⟩
theorem zli (hf:o.isFreed=false) (hr:HR am sk π Hc s.heap)
  (f:∀ R h',(∀ a∈R,a∈am.res∨(s.heap.push o).get? a=none)→(∀ b o',s.heap.get? b=some o'→(s.heap.push o).get? b=some o')→(∀ b o',(s.heap.push o).get? b=some o'→h'.get? b=some o')→s.heap.objs.size ∉ π→s.heap.objs.size ∉ Fs sk→s.heap.objs.size ∉ R→h'.get? s.heap.objs.size=some o →
   ∃ Sx,Iter (am.at R) sk A s.heap.objs.size wt vs Sx∧Sx 0 π h') :
  OkP am sk (ItR am sk A s.heap) π s (.ok (vs,wt) Hc) (.ref s.heap.objs.size) { s with heap:=s.heap.push o,toks:=tk } :=
 have hI:=zaj s.heap;have k:=fun b o' (q:s.heap.get? b=some o')=>Heap.get?_push_of_some o q;have hp:=Heap.get?_push_size s.heap hf
 OkP.keeps hr k ⟨_,hI,zdt hr hI,fun R h' hR kk=>f R h' hR k kk (zaU hr hI) (zbZ hr hI) (znI hR hp (zaQ hr hI)) (kk _ _ hp)⟩
theorem zoX (It:∀ {am:Amb}{I:Addr},Iter am sk A I none vs (SqS am sk I l vs T T')) (hr:HR am sk π Hc s.heap) (hl:l ∉ π∧l ∉ am.res) (h1:IsSq T s.heap l xs) (hv:VRs am π s.heap vs xs) :
  OkP am sk (ItR am sk A s.heap) π s (.ok (vs,none) Hc) (.ref s.heap.objs.size) { s with heap:=s.heap.push { cls:=.type T',data:=.fields #[.ref l,.int 0 0] } } :=
 zli rfl hr fun R h' hR k kk i1 i2 i3 i4=>let ⟨o,ho,r⟩:=h1;⟨_,It,⟨i1,i2,⟨_,i4,rfl,rfl⟩,⟨hl.1,i3,znI hR (k _ _ ho) hl.2⟩,xs,⟨o,kk _ _ (k _ _ ho),r⟩,((hv.keeps k).via (zqO hR)).keeps kk⟩⟩
theorem znG {a:V}{x:Value}(hh:A.handled=none) (hr:HR am sk π Hc s.heap) (ha:VR am π s.heap a x) :
  JAt am sk A (pyIter x) (R.opt (iterOf Hc a) Hc) (ItR am sk A s.heap) π s:=by
 cases a with
 |l vs =>
  refine hold fun z k_=>?_;obtain⟨l,xs,rfl,hl,h1,hz,hv⟩:=ha;refine k_ ?_;exact .inr (wpAny_pyIter_list h1 (zoX (Iter.lst hh) hr hl h1 hv))
 |tup vs =>
  refine hold fun z k_=>?_;obtain⟨l,xs,rfl,hl,h1,hz,hv⟩:=ha;refine k_ ?_;exact .inr (wpAny_pyIter_tuple h1 (zoX (Iter.tup hh) hr hl h1 hv))
 |ref i =>
  obtain⟨l,rfl,hi⟩:=ha;simp only[iterOf]
  cases hH:Hc[i]? with
  |none=>exact .inl rfl
  |some cc =>
   have hc:=hr.cell i cc l hH hi
   cases cc with
   |dict es =>
    obtain⟨o,arr,ep,xs,D⟩:=hc.dict;refine .inr (D.raw.iter D.ho ?_);rw[D.size];exact zli rfl hr fun R h' hR k kk i1 i2 i3 i4=>⟨_,Iter.dict hh,⟨i1,⟨i2,i3⟩,l,hi,⟨_,i4,rfl,rfl⟩⟩⟩
   |list vs =>
    refine hold fun z k_=>?_;obtain⟨xs,h1,hz,hv⟩:=hc.list;refine k_ ?_;exact .inr (wpAny_pyIter_list h1.is (zli rfl hr fun R h' hR k kk i1 i2 i3 i4=>⟨_,Iter.cell hh,⟨i1,⟨i2,i3⟩,l,hi,⟨_,i4,rfl,rfl⟩⟩⟩))
 |_=>exact .inl rfl
theorem zmU (n:Int):upto n=(List.range n.toNat).map fun(i:Nat)=>V.int (0+(i:Int) * 1):=by
 unfold upto;congr 1;funext i;rw[Int.mul_one,Int.zero_add]
theorem zjv (a b:Int):fromTo a b=(List.range (b - a).toNat).map fun(i:Nat)=>V.int (a+(i:Int) * 1):=by
 unfold fromTo;congr 1;funext i;rw[Int.mul_one]
theorem range_at {a c:Int}{k:Nat}(hh:A.handled=none) (hr:HR am sk π Hc s.heap){o:Obj}(ho:o={ cls:=.type "range_iterator",data:=.fields #[rawInt a,rawInt (k:Int),rawInt c] }){tk:Nat} :
  OkP am sk (ItR am sk A s.heap) π s (.ok ((List.range k).map (fun(i:Nat)=>V.int (a+(i:Int) * c)),none) Hc) (.ref s.heap.objs.size) { s with heap:=s.heap.push o,toks:=tk }:=by
 subst ho;have e1:(a+((0:Nat):Int) * c)=a:=by rw[Int.natCast_zero,Int.zero_mul,Int.add_zero]
 exact zli rfl hr fun R h' hR k kk i1 i2 i3 i4=>⟨_,Iter.range hh a c _,⟨i1,⟨i2,i3⟩,by rw[e1,Int.natCast_zero,Int.sub_zero];exact i4⟩⟩
theorem ItR.less (k:∀ b o,h₀.get? b=some o→∃ o',h₁.get? b=some o') (e:ItR am sk A h₁ π h b x):ItR am sk A h₀ π h b x:=by
 obtain⟨I,h2,h3,r⟩:=e;refine⟨I,?_,h3,r⟩
 cases hq:h₀.get? I with
 |none=>rfl
 |some o=>obtain⟨o',h6⟩:=k I o hq;rw[h2] at h6;cases h6
theorem OkP.itLess (k:∀ b o,h₀.get? b=some o→∃ o',h₁.get? b=some o') (e:OkP am sk (ItR am sk A h₁) π s r x s'):OkP am sk (ItR am sk A h₀) π s r x s':=by
 refine hold fun z k_=>?_;obtain⟨b,H',π',h1,h2,h3,h4⟩:=e;refine k_ ?_;exact⟨b,H',π',h1,h2,h3,h4.less k⟩
theorem zh2 {k:Int}{t:Tok}(hh:A.handled=none) (hr:HR am sk π Hc s.heap) (hk:-1000000≤k∧k≤1000000){E:Value→Shared→Prop} :
  wpAny am.M A (PySem.call (.type "range") [.int k t]) (fun x s₁=>wpAny am.M A (pyIter x) (OkP am sk (ItR am sk A s.heap) π s (.ok (upto k,none) Hc)) E s₁) E s:=by
 refine call_range_1 ?_;refine wpAny_pyIter_range (IsRange.new ..) (small_one (by decide) (by decide) (Int.le_trans (by decide) hk.1) (Int.lt_of_le_of_lt hk.2 (by decide))) ?_
 have hsz:Builtin.Range.rangeSize 0 k 1=(k.toNat:Int):=by rw[rangeSize_nat,Int.sub_zero]
 rw[zmU];have k1:∀ b o,s.heap.get? b=some o→(s.heap.push { cls:=.type "range",data:=.fields #[.int 0 s.toks,.int k t,.int 1 (s.toks+1)] }).get? b=some o:=fun b o q=>Heap.get?_push_of_some _ q;refine OkP.step (Step.keeps (tk:=s.toks+1+1) k1) (OkP.itLess (fun b o q=>⟨o,k1 b o q⟩) (range_at (s:={ s with heap:=s.heap.push { cls:=.type "range",data:=.fields #[.int 0 s.toks,.int k t,.int 1 (s.toks+1)] },toks:=s.toks+1+1 }) (tk:=s.toks+1+1) hh (hr.keeps k1) ?_))
 rw[hsz]
theorem zh1 (hh:A.handled=none) (hr:HR am sk π Hc s.heap) (hk:-1000000≤j∧j≤1000000∧-1000000≤k∧k≤1000000){E:Value→Shared→Prop} :
  wpAny am.M A (PySem.call (.type "range") [.int j t,.int k u]) (fun x s₁=>wpAny am.M A (pyIter x) (OkP am sk (ItR am sk A s.heap) π s (.ok (fromTo j k,none) Hc)) E s₁) E s:=by
 refine call_range_2 ?_;refine wpAny_pyIter_range (IsRange.new ..) (small_one (Int.le_trans (by decide) hk.1) (Int.lt_of_le_of_lt hk.2.1 (by decide)) (Int.le_trans (by decide) hk.2.2.1) (Int.lt_of_le_of_lt hk.2.2.2 (by decide))) ?_
 have hsz:Builtin.Range.rangeSize j k 1=((k - j).toNat:Int):=rangeSize_nat j k;rw[zjv];have k1:∀ b o,s.heap.get? b=some o→(s.heap.push { cls:=.type "range",data:=.fields #[.int j t,.int k u,.int 1 s.toks] }).get? b=some o:=fun b o q=>Heap.get?_push_of_some _ q;refine OkP.step (Step.keeps (tk:=s.toks+1) k1) (OkP.itLess (fun b o q=>⟨o,k1 b o q⟩) (range_at (s:={ s with heap:=s.heap.push { cls:=.type "range",data:=.fields #[.int j t,.int k u,.int 1 s.toks] },toks:=s.toks+1 }) (tk:=s.toks+1) hh (hr.keeps k1) ?_))
 rw[hsz]
end
section
variable {am:Amb}{n:Nat}{F:Fn}{c:Ck}
def ItJ (am:Amb) (n:Nat) (F:Fn) (c:Ck) (it:PIt) (x:Expr):Prop:=∀ {cx:Cx}{ρ:List V}{A:Around}{res π:List Addr}{Hc:H}{s:Shared},Base am n true F c cx ρ A→St (am.at res) true cx ρ π Hc A s →
 JT (am.at res) cx.sk (fun Q E s=>wpAny am.M A (eval x cx.env) (fun xv s₁=>wpAny am.M A (pyIter xv) Q E s₁) E s) (evIt true F ρ it Hc) (ItR (am.at res) cx.sk A s.heap) π s
theorem zpT {e:PE}{x:Expr}(h:EJ am n true F c e x):ItJ am n F c (.seq e) x:=fun {cx ρ A res π Hc s} B st=>by
 simp only[zqJ,];exact JT.bind (fun z=>PT.wp _ _) (h B st) fun y v H1 π1 s1 z hs1 hr1 hv1=>JAt.pt ((znG (Hd.quiet st.hd) hr1 hv1).mono fun z z z z e=>e.less hs1.ext.alive)
set_option tactic.hygienic true in
theorem zjj {e:PE}{y:Expr}{p p':Pos}(hx:c.glob "range"=true) (hy:isStar y=false) (h:EJ am n true F c e y):ItJ am n F c (.range1 e) (.Call (.Name "range" p) [y] [] p'):=fun {cx ρ A res π Hc s} B st=>by
 simp -iota only[zqJ,zrX];refine JT.rule (T:=fun Q E s=>wpAny am.M A (eval y cx.env) (fun v s₁=>wpAny am.M A (PySem.call (.type "range") [v]) (fun xv s₂=>wpAny am.M A (pyIter xv) Q E s₂) E s₁) E s)
  (JT.bind (fun u=>PT.seq _ _ fun u=>PT.wp _ _) (h B st) fun z v H1 π1 s1 u hs1 hr1 hv1=>?_) fun Q E h=>zaC B st.hr hx (zcx (by kernel_rfl)) (by simpa using hy) (spl1 h)
 cases v with
 |int k =>
  obtain⟨t,rfl⟩:=hv1;dsimp only
  split
  ·rename_i hk;exact .inr (yV (zh2 (Hd.quiet st.hd) hr1 hk) (fun u u h=>yV h (fun u u h=>h.itLess hs1.ext.alive) fun u u h=>h) fun u u h=>h)
  ·exact .inl rfl
 |_=>exact .inl rfl
set_option tactic.hygienic true in
theorem zji (hx:c.glob "range"=true) (hy:isStar y=false) (hz:isStar z=false) (h:EJ am n true F c e y) (h':EJ am n true F c f z):ItJ am n F c (.range2 e f) (.Call (.Name "range" p) [y,z] [] p'):=fun {cx ρ A res π Hc s} B st=>by
 simp -iota only[zqJ,zrH];refine JT.rule (T:=fun Q E s=>wpAny am.M A (eval y cx.env) (fun v s₁=>wpAny am.M A (eval z cx.env) (fun w s₁=>wpAny am.M A (PySem.call (.type "range") [v,w]) (fun xv s₂=>wpAny am.M A (pyIter xv) Q E s₂) E s₁) E s₁) E s)
  (JT.bind (fun m=>PT.seq _ _ fun m=>PT.seq _ _ fun m=>PT.wp _ _) (h B st) fun u v H1 π1 s1 m hs1 hr1 hv1=>JT.bind (fun m=>PT.seq _ _ fun m=>PT.wp _ _) (h' B (st.step hs1 hr1)) fun u2 v2 H2 π2 s2 m hs2 hr2 hv2=>?_)
  fun Q E h=>zaC B st.hr hx (zcx (by kernel_rfl)) (by intro a ha;rcases zN.mp ha with rfl|ha;exact hy;rw[zK.mp ha];exact hz) (spl2 h)
 have hv1':=hv1.step hs2
 cases v with
 |int j=>cases v2 with
  |int k =>
   obtain⟨t,rfl⟩:=hv1';obtain⟨t2,rfl⟩:=hv2;dsimp only
   split
   ·rename_i hk;exact .inr (yV (zh1 (Hd.quiet st.hd) hr2 hk) (fun m m h=>yV h (fun m m h=>h.itLess (hs1.trans hs2).ext.alive) fun m m h=>h) fun m m h=>h)
   ·exact .inl rfl
  |_=>exact .inl rfl
 |_=>exact .inl rfl
end
section
variable {am:Amb}{sk:List Env}{A:Around}{π:List Addr}{Hc:H}{s:Shared}
theorem zjN (a b:Int):downTo a b=(List.range (a - b).toNat).map fun(i:Nat)=>V.int (a+(i:Int) * (-1)):=by
 unfold downTo;congr 1;funext i;rw[Int.mul_neg,Int.mul_one];rfl
theorem zh0 {j k:Int}{t u v:Tok}(hh:A.handled=none) (hr:HR am sk π Hc s.heap) (hk:-1000000≤j∧j≤1000000∧-1000000≤k∧k≤1000000){E:Value→Shared→Prop} :
  wpAny am.M A (PySem.call (.type "range") [.int j t,.int k u,.int (-1) v]) (fun x s₁=>wpAny am.M A (pyIter x) (OkP am sk (ItR am sk A s.heap) π s (.ok (downTo j k,none) Hc)) E s₁) E s:=by
 refine call_range_3 (by decide) ?_ (.inl (PyProof.noPylong_small (by decide)))
 refine wpAny_pyIter_range (IsRange.new ..) (small_down (Int.le_trans (by decide) hk.1) (Int.lt_of_le_of_lt hk.2.1 (by decide)) (Int.le_trans (by decide) hk.2.2.1) (Int.lt_of_le_of_lt hk.2.2.2 (by decide))) ?_
 rw[zjN];have k1:∀ b o,s.heap.get? b=some o→(s.heap.push { cls:=.type "range",data:=.fields #[.int j t,.int k u,.int (-1) v] }).get? b=some o:=fun b o q=>Heap.get?_push_of_some _ q;refine OkP.step (Step.keeps (tk:=s.toks) k1) (OkP.itLess (fun b o q=>⟨o,k1 b o q⟩) (range_at (s:={ s with heap:=s.heap.push { cls:=.type "range",data:=.fields #[.int j t,.int k u,.int (-1) v] } }) (tk:=s.toks) hh (hr.keeps k1) ?_))
 rw[rangeSize_downNat]
end
section
variable {am:Amb}{n:Nat}{F:Fn}{c:Ck}
theorem spl3 {Q:List Value→Shared→Prop}{E:Value→Shared→Prop}(h:wpAny M A (eval y env) (fun v s₁=>wpAny M A (eval z env) (fun u s₂=>wpAny M A (eval w env) (fun x s₃=>Q [v,u,x] s₃) E s₂) E s₁) E s):wpAny M A (spliced (zak [y,z,w] env)) Q E s :=
 Calls.spliced_cons (yV h (fun t t h=>Calls.spliced_cons (yV h (fun t t h=>Calls.spliced_cons (yV h (fun t t h=>Calls.spliced_nil h) fun t t x=>x)) fun t t x=>x)) fun t t x=>x)
theorem zjh {e f g:PE}{y z w:Expr}{p p':Pos}(hx:c.glob "range"=true) (hs:∀ a∈[y,z,w],isStar a=false) (h:EJ am n true F c e y) (h':EJ am n true F c f z) (h'':EJ am n true F c g w):ItJ am n F c (.range3 e f g) (.Call (.Name "range" p) [y,z,w] [] p'):=fun {cx ρ A res π Hc s} B st=>by
 simp -iota only[zrG];refine JT.rule (T:=fun Q E s=>wpAny am.M A (eval y cx.env) (fun v s₁=>wpAny am.M A (eval z cx.env) (fun w' s₁=>wpAny am.M A (eval w cx.env) (fun u s₁=>wpAny am.M A (PySem.call (.type "range") [v,w',u]) (fun xv s₂=>wpAny am.M A (pyIter xv) Q E s₂) E s₁) E s₁) E s₁) E s)
  (JT.bind (fun m=>PT.seq _ _ fun m=>PT.seq _ _ fun m=>PT.seq _ _ fun m=>PT.wp _ _) (h B st) fun u v H1 π1 s1 m hs1 hr1 hv1=>JT.bind (fun m=>PT.seq _ _ fun m=>PT.seq _ _ fun m=>PT.wp _ _) (h' B (st.step hs1 hr1)) fun u2 v2 H2 π2 s2 m hs2 hr2 hv2 =>
   JT.bind (fun m=>PT.seq _ _ fun m=>PT.wp _ _) (h'' B ((st.step hs1 hr1).step hs2 hr2)) fun u3 v3 H3 π3 s3 m hs3 hr3 hv3=>?_)
  fun Q E h=>zaC B st.hr hx (zcx (by kernel_rfl)) hs (spl3 h)
 have hv1':=(hv1.step hs2).step hs3;have hv2':=hv2.step hs3
 cases v with
 |int j=>cases v2 with
  |int k=>cases v3 with
   |int d =>
    obtain⟨t,rfl⟩:=hv1';obtain⟨t2,rfl⟩:=hv2';obtain⟨t3,rfl⟩:=hv3;dsimp only
    by_cases hk:-1000000≤j∧j≤1000000∧-1000000≤k∧k≤1000000
    ·rw[zT hk]
     unfold rng3
     by_cases hd:d=-1
     ·subst hd
      rw[zT rfl];exact .inr (yV (zh0 (Hd.quiet st.hd) hr3 hk) (fun m m h=>yV h (fun m m h=>h.itLess ((hs1.trans hs2).trans hs3).ext.alive) fun m m h=>h) fun m m h=>h)
     ·rw[zR hd];exact .inl rfl
    ·exact .inl (zR hk)
   |_=>exact .inl rfl
  |_=>exact .inl rfl
 |_=>exact .inl rfl
end
theorem zcs (outer names:List (Str × NameKind)) (y:Str):(relab outer names).lookup y=(names.lookup y).map fun k=>if(k == .free&&outer.lookup y == some .cell)=true then .cell else k:=by
 induction names with
 |nil=>rfl
 |cons p r ih =>
  obtain⟨n,k⟩:=p;show List.lookup y ((if(k == NameKind.free&&outer.lookup n == some .cell)=true then(n,NameKind.cell) else(n,k))::relab outer r)=_
  cases hy:y == n with
  |true =>
   have hy':=eq_of_beq hy;subst hy'
   by_cases hc:(k == .free&&outer.lookup y == some .cell)=true
   ·rw[zT hc,lookup_cons,lookup_cons,hy];exact congrArg some (zT hc).symm
   ·rw[zR hc,lookup_cons,lookup_cons,hy];exact congrArg some (zR hc).symm
  |false =>
   by_cases hc:(k == .free&&outer.lookup n == some .cell)=true
   ·rw[zT hc,lookup_cons,lookup_cons,hy];exact ih
   ·rw[zR hc,lookup_cons,lookup_cons,hy];exact ih
theorem zar {α β:Type} [BEq α] [LawfulBEq α] {l:List (α × β)}{x:α}{v:β}(h:l.lookup x=some v):(x,v)∈l:=by
 induction l with
 |nil=>exact no h
 |cons p l ih =>
  rw[lookup_cons] at h
  cases hx:x == p.1 with
  |true=>rw[hx] at h;cases h;rw[eq_of_beq hx];exact zZ
  |false=>rw[hx] at h;exact zY _ (ih h)
theorem za7 (hk:env.scope.kind=.function):(relabel scope env).names=relab env.scope.names scope.names:=by
 unfold relabel relab;simp only
 congr 1
 funext p
 obtain⟨n,k⟩:=p;simp only[hk,Env.kindOf,beq_self_eq_true,Bool.and_true]
theorem zhL (names:List (Str × NameKind)) (acc:List (Str × Addr)) (h1:∀ p∈names,p.2=.free→∃ c,env.cells.lookup p.1=some c) (h2:∀ y c,acc.lookup y=some c→env.cells.lookup y=some c) :
  ∃ cl,(forIn names acc fun(p:Str × NameKind) (cs:List (Str × Addr))=>(if p.2 == .free then do let c ← cellOf env p.1;pure (ForInStep.yield ((p.1,c)::cs)) else pure (ForInStep.yield cs):Sem (ForInStep (List (Str × Addr)))))=(pure cl:Sem (List (Str × Addr))) ∧
   (∀ y c,cl.lookup y=some c→env.cells.lookup y=some c)∧(∀ p∈names,p.2=.free→∃ c,cl.lookup p.1=some c)∧(∀ y c,acc.lookup y=some c→∃ c',cl.lookup y=some c'):=by
 induction names generalizing acc with
 |nil=>exact⟨acc,rfl,h2,fun z h=>(not_mem_nil h).elim,fun y c h=>⟨c,h⟩⟩
 |cons p names ih =>
  rw[List.forIn_cons]
  by_cases hp:p.2=.free
  ·obtain⟨c,hc⟩:=h1 p zZ hp
   have hcell:cellOf env p.1=pure c:=by unfold cellOf;rw[hc]
   have hb:(p.2 == NameKind.free)=true:=by simp[hp]
   simp only[hb,if_true,hcell,pure_bind];obtain⟨cl,e1,e2,e3,e4⟩:=ih ((p.1,c)::acc) (fun q hq=>h1 q (zY _ hq)) (fun y c' h=>by
    rw[lookup_cons] at h
    cases hx:y == p.1 with
    |true=>rw[hx] at h;cases h;rw[eq_of_beq hx];exact hc
    |false=>rw[hx] at h;exact h2 y c' h)
   refine⟨cl,e1,e2,fun q hq hqf=>?_,fun y c' h=>?_⟩
   ·rcases zN.mp hq with rfl|hq
    ·exact e4 q.1 c (by simp[lookup_cons])
    ·exact e3 q hq hqf
   ·cases hx:y == p.1 with
    |true=>exact e4 y c (by rw[lookup_cons,hx])
    |false=>exact e4 y c' (by rw[lookup_cons,hx];exact h)
  ·have hb:(p.2 == NameKind.free)=false:=by simpa using hp
   simp only[hb,Bool.false_eq_true,if_false,pure_bind];refine hold fun z k_=>?_;obtain⟨cl,e1,e2,e3,e4⟩:=ih acc (fun q hq=>h1 q (zY _ hq)) h2;refine k_ ?_;refine⟨cl,e1,e2,fun q hq hqf=>?_,e4⟩
   rcases zN.mp hq with rfl|hq
   ·exact absurd hqf hp
   ·exact e3 q hq hqf
theorem zge (h:∀ p∈scope.names,p.2=.free→∃ c,env.cells.lookup p.1=some c) :
  ∃ cl,closureFor scope env=pure cl∧(∀ y c,cl.lookup y=some c→env.cells.lookup y=some c)∧∀ p∈scope.names,p.2=.free→∃ c,cl.lookup p.1=some c:=by
 refine hold fun z k_=>?_;obtain⟨cl,e1,e2,e3,_⟩:=zhL scope.names [] h (by simp)
 refine k_ ?_;refine⟨cl,?_,e2,e3⟩;exact(congrArg (fun t:Sem (List (Str × Addr))=>t >>= fun cs=>pure cs) e1).trans (pure_bind _ _)
section
variable {am:Amb}{π:List Addr}{h:Heap}
theorem ExcAt.held (e:ExcAt am h c a):ExcAt (am.hold l) h c a:=e
theorem SR.held (hl:h.get? l=none) (e:SR am π h v x):SR (am.hold l) π h v x:=by
 rcases e with e|⟨c,a,h1,h2,h3,h4⟩
 ·exact .inl (e.held hl)
 ·exact .inr ⟨c,a,h1,h2,h3,h4⟩
theorem ER.held (hl:h.get? l=none) (e:ER am cx ρ π h):ER (am.hold l) cx ρ π h :=
 ⟨e.ns,e.locOff,e.cellOff,e.apart,fun x i v h1 h2 h3 h4=>let ⟨v',h5,h6⟩:=e.var x i v h1 h2 h3 h4;⟨v',h5,h6.held hl⟩⟩
theorem HR.freed {sk:List Env}{Hc:H}{h':Heap}{C:Addr}(hr:HR am sk π Hc h) (hC:C∈am.res) (hB:am.B.get? C=none) (hπ:C ∉ π) (p:Poke C h h') (ho:∃ o,h'.get? C=some o∧∀ us,o.data≠.fields us):HR am sk π Hc h':=by
 refine⟨fun b o e=>p b o (fun q=>by subst q;rw[hB] at e;cases e) (hr.base b o e),zbg (fun b o h1 h2=>p b o h1 h2) ho hr.frames,hr.len,hr.nodup,fun a ha=>?_,hr.off,fun i c a h1 h2=>?_⟩
 ·by_cases hq:a=C
  ·subst hq;exact ho
  ·obtain⟨o,h1,h2⟩:=hr.res a ha
   exact⟨o,p a o hq h1,h2⟩
 ·have hne:a≠C:=fun q=>hπ (q ▸ zby h2)
  obtain⟨o,xs,e0,e1,e2,e3⟩:=hr.cell i c a h1 h2;exact⟨o,xs,p _ _ hne e0,e1,e2,e3.free fun b o hb e=>p b o (fun q=>hb (q ▸ hC)) e⟩
theorem HR.out {sk:List Env}{Hc:H}{h':Heap}{C:Addr}(hr:HR (am.hold C) sk π Hc h) (hC:C ∉ am.res) (hB:am.B.get? C=none) (hπ:C ∉ π) (hF:C ∉ Fs sk) (p:Poke C h h'):HR am sk π Hc h':=by
 have fr:∀ {st:List Env},h.FunFrames am.B st→(∀ a∈Fs st,a≠C)→h'.FunFrames am.B st:=by
  intro st
  induction st with
  |nil=>intro _ _;trivial
  |cons e st ih =>
   rintro⟨h1,⟨L,o,h2,h3,h4,h5⟩,h6⟩ hn
   refine⟨h1,⟨L,o,h2,h3,p L o (hn L ?_) h4,h5⟩,ih h6 fun a ha=>hn a ?_⟩
   ·simp[h2]
   ·simp only[Fs,filterMap_cons,h2,zN];exact .inr ha
 refine⟨fun b o e=>p b o (fun q=>by subst q;have e':am.B.get? b=some o:=e;rw[hB] at e';cases e') (hr.base b o e),fr hr.frames (fun a ha q=>hF (q ▸ ha)),hr.len,hr.nodup,fun a ha=>?_,hr.off,fun i c a h1 h2=>?_⟩
 ·obtain⟨o,h1,h2⟩:=hr.res a (zY _ ha)
  exact⟨o,p a o (fun q=>hC (q ▸ ha)) h1,h2⟩
 ·have hne:a≠C:=fun q=>hπ (q ▸ zby h2)
  obtain⟨o,xs,e0,e1,e2,e3⟩:=hr.cell i c a h1 h2;exact⟨o,xs,p _ _ hne e0,e1,e2,(e3.free fun b o hb e=>p b o (fun q=>hb (q ▸ zZ)) e).reserve.2⟩
theorem PL.at (pl:PL h l xs) (k:∀ o,h.get? l=some o→h'.get? l=some o):PL h' l xs:=let ⟨o,n,ho,r⟩:=pl;⟨o,n,k o ho,r⟩
theorem Ns.at {l:Addr}{m:Str→Option Value}{h':Heap}(hn:h.Ns l m) (k:∀ o,h.get? l=some o→h'.get? l=some o):h'.Ns l m:=let ⟨o,es,ep,ho,r⟩:=hn;⟨o,es,ep,k o ho,r⟩
theorem Ns.nf {m:Str→Option Value}(hn:h.Ns l m):∃ o,h.get? l=some o∧∀ us,o.data≠.fields us:=let ⟨o,es,ep,ho,hd,_⟩:=hn;⟨o,ho,fun us q=>by rw[hd] at q;cases q⟩
theorem PL.nf (pl:PL h l xs):∃ o,h.get? l=some o∧∀ us,o.data≠.fields us:=let ⟨o,n,ho,_,_,hd⟩:=pl;⟨o,ho,fun us q=>by rw[hd] at q;cases q⟩
structure ScC (c:Ck) (x:Str) (scope:Scope):Prop where
 kind:scope.kind=.function
 cell:∀ p∈scope.names,p.2≠.cell
 loc:∀ p∈scope.names,p.2=.local→(p.1=x∨p.1=(".0":Str))∧scope.names.lookup p.1=some .local
 free:∀ p∈scope.names,p.2=.free→c.names.lookup p.1=some .cell∨c.names.lookup p.1=some .free
 xl:scope.names.lookup x=some .local
 ctx:c.ctx.lookup (".0":Str)=none
theorem nor {α:Type} [BEq α] [LawfulBEq α] {a b:α}{c:Bool}(h:(a != b||c)=true) (e:a=b):c=true:=(Bool.or_eq_true_iff.mp h).resolve_left fun z=>bne_iff_ne.mp z e
theorem or2 {α:Type} [BEq α] [LawfulBEq α] {x y a b:α}(h:(x == a||y == b)=true):x=a∨y=b:=(Bool.or_eq_true_iff.mp h).imp eq_of_beq eq_of_beq
theorem ziB {c:Ck}{x:Str}{scope:Scope}(h:zc4 c x scope=true):ScC c x scope :=
 have a:=List.all_eq_true.mp (ar (al (al (al h))))
 ⟨eq_of_beq (al (al (al (al h)))),fun p hp=>bne_iff_ne.mp (ar (a p hp)),fun p hp e=>have z:=nor (al (al (a p hp))) e;⟨or2 (al z),eq_of_beq (ar z)⟩,
  fun p hp e=>or2 (nor (by rw[←Bool.or_assoc];exact ar (al (a p hp))) e),eq_of_beq (ar (al (al h))),eq_of_beq (ar h)⟩
theorem zoe {c:Ck}{cx:Cx}{ρ:List V}{x:Str}{i:Nat}{scope:Scope}{cl:List (Str × Addr)}{C:Addr}{m:Str→Option Value}{v:V}{v':Value}(e:ER am cx ρ π h) (hkf:cx.env.scope.kind=.function) (hnames:cx.env.scope.names=c.names) (hctx:cx.ctx=c.ctx) (hs:ScC c x scope)
  (hi:c.ctx.all (fun p=>p.2 != i)=true) (hcl1:∀ y d,cl.lookup y=some d→cx.env.cells.lookup y=some d) (hcl2:∀ p∈scope.names,p.2=.free→∃ d,cl.lookup p.1=some d) (hC:C ∉ π) (hn:h.Ns C m) (hm:m x=some v') (hv:VR am π h v v') :
  ER am ⟨compEnvC scope cl C cx.env,cx.sk,(x,i)::cx.ctx⟩ (ρ.set i v) π h:=by
 refine⟨⟨m,hn⟩,hC,fun y d hd=>?_,fun y z d h1 h2=>e.apart y z d (hcl1 _ _ h1) (hcl1 _ _ h2),fun y j w h1 h2 h3 h4=>?_⟩
 ·refine hold fun t k_=>?_
  obtain⟨a1,_,u,a3⟩:=e.cellOff y d (hcl1 y d hd);refine k_ ?_;refine⟨a1,fun q=>?_,u,a3⟩;have hq:d=C:=q;subst hq;refine hold fun t k_=>?_;obtain⟨o,es,ep,ho,hd',_⟩:=hn;refine k_ ?_;obtain⟨o2,ho2,hd2⟩:=a3;rw[ho] at ho2;cases ho2;rw[hd'] at hd2;cases hd2
 ·have hkind:∀ y,Env.kindOf (compEnvC scope cl C cx.env) y=(scope.names.lookup y).map fun k=>if(k == .free&&c.names.lookup y == some .cell)=true then .cell else k:=by
   intro y;show(relabel scope cx.env).names.lookup y=_;rw[za7 hkf,zcs,hnames]
  by_cases hy:y=x
  ·subst hy
   rw[lookup_cons] at h1;simp only[beq_self_eq_true,Option.some.injEq] at h1;subst h1;have hlt:i < ρ.length:=by have:=(List.getElem?_eq_some_iff.mp h2).1;simpa using this
   rw[List.getElem?_set_self hlt] at h2
   cases h2
   exact⟨v',.inl ⟨by rw[hkind,hs.xl];rfl,m,hn,hm⟩,.inl hv⟩
  ·have hb:(y == x)=false:=beq_eq_false_iff_ne.mpr hy
   have h1':c.ctx.lookup y=some j:=by rw[lookup_cons,hb] at h1;rw[←hctx];exact h1
   have hj:j≠i:=by
    have:=zar h1';simp only[all_eq_true,bne_iff_ne,ne_eq] at hi;exact hi _ this
   rw[List.getElem?_set_ne (Ne.symm hj)] at h2;unfold Vis at h4;simp only[hkind] at h4
   cases hl:scope.names.lookup y with
   |none=>rw[hl] at h4;simp at h4
   |some k =>
    have hmem:=zar hl
    by_cases hkl:k=.local
    ·subst hkl
     rcases(hs.loc _ hmem rfl).1 with q|q
     ·exact absurd q hy
     ·simp only at q;rw[q,hs.ctx] at h1';cases h1'
    ·by_cases hkf':k=.free
     ·subst hkf'
      obtain⟨d,hd⟩:=hcl2 _ hmem rfl;have hcell:=hcl1 y d hd;have hout:cx.env.kindOf y=some .cell∨cx.env.kindOf y=some .free:=by
       unfold Env.kindOf;rw[hnames];exact hs.free _ hmem rfl
      obtain⟨u,h5,h6⟩:=e.var y j w (by rw[hctx];exact h1') h2 h3 (by unfold Vis;rcases hout with q|q;exact .inr (.inl q);exact .inr (.inr q))
      refine⟨u,.inr ⟨?_,d,hd,?_⟩,h6⟩
      ·rw[hkind,hl];simp only[Option.map_some];split<;>simp
      ·rcases h5 with⟨q,_⟩|⟨_,d',h7,h8⟩
       ·rcases hout with q'|q'<;>rw[q'] at q<;>cases q
       ·rw[hcell] at h7;cases h7;exact h8
     ·rw[hl] at h4
      have hkc:k≠.cell:=hs.cell _ hmem;have hb2:(k == NameKind.free)=false:=by simpa using hkf'
      simp only[Option.map_some,hb2,Bool.false_and,Bool.false_eq_true,if_false,Option.some.injEq] at h4
      rcases h4 with q|q|q
      ·exact absurd q hkl
      ·exact absurd q hkc
      ·exact absurd q hkf'
end
structure LoopEnd (am:Amb) (sk:List Env) (π:List Addr) (s:Shared) (rs:List V) (Hf:H) (D C:Addr) (s':Shared):Prop where
 freshD:s.heap.get? D=none
 freshC:s.heap.get? C=none
 ne:D≠C
 resD:D ∉ am.res
 resC:C ∉ am.res
 baseD:am.B.get? D=none
 baseC:am.B.get? C=none
 fsD:D ∉ Fs sk
 fsC:C ∉ Fs sk
 rest:∃ π' xs m,Step (Fs sk) π s π' s'∧HR ((am.hold D).hold C) sk π' Hf s'.heap∧PL s'.heap D xs∧VRs ((am.hold D).hold C) π' s'.heap rs xs∧s'.heap.Ns C m∧D ∉ π'∧C ∉ π'
section
variable {am:Amb}{n:Nat}{F:Fn}{c:Ck}
def CJ (am:Amb) (n:Nat) (F:Fn) (c:Ck) (cond:Option PE) (ifs:List Expr):Prop:=∀ {cx:Cx}{ρ:List V}{A:Around}{res π:List Addr}{Hc:H}{s:Shared},Base am n true F c cx ρ A→St (am.at res) true cx ρ π Hc A s →
 JAt (am.at res) cx.sk A (forIn ifs true fun c r=>if r=true then do let ok ← isTrue c cx.env (eval c cx.env);pure (ForInStep.yield ok) else pure (ForInStep.yield r)) (tr (evC true F ρ cond Hc)) BR π s
theorem zou:CJ am n F c none []:=fun {cx ρ A res π Hc s} B st=>by
 simp only[zrM,zrL];exact .inr (wpAny_tests_nil (OkP.here st.hr rfl))
theorem zot (h:TJ am n true F c e x):CJ am n F c (some e) [x]:=fun {cx ρ A res π Hc s} B st=>by
 simp only[zrM,zrL];exact(h B st).rule fun Q E h=>wpAny_tests_one h
theorem noErr {am:Amb}{sk:List Env}{β:Type}{π:List Addr}{s:Shared}{b:β}{Hc:H}{x:Value}{s':Shared}{P:Prop}(h:ErP am sk π s (.ok b Hc) x s'):P:=by
 obtain⟨_,_,_,_,_,_,h,_⟩:=h;cases h
theorem JAt.okAt {am:Amb}{sk:List Env}{A:Around}{α β:Type}{Rel:List Addr→Heap→β→α→Prop}{π:List Addr}{s:Shared}{m:Sem α}{r:R β}{b:β}{Hc:H}{Q:α→Shared→Prop}{E:Value→Shared→Prop}(h:JAt am sk A m r Rel π s) (hr:r=.ok b Hc)
  (k:∀ a π' s',Step (Fs sk) π s π' s'→HR am sk π' Hc s'.heap→Rel π' s'.heap b a→Q a s'):wpAny am.M A m Q E s:=by
 subst hr
 rcases h with h|h
 ·cases h
 ·refine yV h (fun a s' h=>?_) fun e s' h=>noErr h
  refine hold fun z k_=>?_;obtain⟨b',H',π',h1,h2,h3,h4⟩:=h;refine k_ ?_
  cases h1
  exact k a π' s' h2 h3 h4
theorem zf0 {h:Heap}{a I:Addr}{o:Obj}{us:Array Value}(h1:∃ o,h.get? a=some o∧∀ us,o.data≠.fields us) (h2:h.get? I=some o) (h3:o.data=.fields us):a≠I:=fun q=>by
 subst q;obtain⟨o',h4,h5⟩:=h1;rw[h2] at h4;cases h4
 exact h5 us h3
theorem zh4 {Q:Value→Shared→Prop}{E:Value→Shared→Prop}(pl:PL s.heap l xs) (hz:xs.length≤1000000)
  (h:PL (s.heap.update l (Obj.mapSeq (·.push y))) l (xs++[y])→Poke l s.heap (s.heap.update l (Obj.mapSeq (·.push y)))→Q .none { s with heap:=s.heap.update l (Obj.mapSeq (·.push y)) }) :
  wpAny am.M A (PySem.call (.builtin "list.append") [.ref l,y]) Q E s:=by
 refine hold fun z k_=>?_;obtain⟨o,n,ho,hcl,hdi,hd⟩:=id pl;refine k_ ?_;refine wpAny_call_entry slot_list_append pl.is.typeIs entry_list_append ?_ (args_list_append _ _);show wpAny _ _ (updateSeq l (·.push y) >>= fun z=>ret .none) _ _ s;refine yX ?_;refine wpAny_updateSeq ho hd (yW ⟨.none,rfl,?_⟩) (hz:=by rw[size_toArray];exact zaw hz)
 have pl':=pl.update (·.push y);exact h (by simpa using pl') fun b o h1 h2=>(Heap.SameBut.update ..).extBut b o h1 h2
theorem zeG {fe fc:V→H→R V}(e:compL w fe fc [] h=.ok ws Hf):w.ok h=true∧ws=[]∧h=Hf:=by
 simp only[zeH,zeI] at e
 split at e
 ·cases e;exact⟨by assumption,rfl,rfl⟩
 ·cases e
theorem zdI {fe fc:V→H→R V}(e:compL w fe fc (v::vs) h=.ok ws Hf) :
  w.ok h=true∧∃ tb h3,tr (fc v h)=.ok tb h3∧(tb=false→compL w fe fc vs h3=.ok ws Hf)∧(tb=true→∃ x h4 ws',fe v h3=.ok x h4∧compL w fe fc vs h4=.ok ws' Hf∧ws=x::ws'):=by
 simp only[zeH,zeI] at e
 split at e
 ·refine⟨by assumption,?_⟩
  cases hcd:fc v h with
  |bad=>rw[hcd] at e;cases e
  |err _ _=>rw[hcd] at e;cases e
  |ok bv h3 =>
   rw[hcd] at e;simp only[R.bind_ok] at e
   cases htb:truthy bv with
   |none=>rw[htb] at e;cases e
   |some tb =>
    rw[htb] at e;refine⟨tb,h3,by simp[tr,htb],?_⟩
    cases tb with
    |false=>exact⟨fun z=>e,fun q=>absurd q (by simp)⟩
    |true =>
     refine⟨fun q=>absurd q (by simp),fun z=>?_⟩
     dsimp only at e
     cases hel:fe v h3 with
     |bad=>rw[hel] at e;cases e
     |err _ _=>rw[hel] at e;cases e
     |ok x h4 =>
      rw[hel] at e;simp only[R.bind_ok] at e
      cases hrest:compL w fe fc vs h4 with
      |bad=>rw[hrest] at e;cases e
      |err _ _=>rw[hrest] at e;cases e
      |ok ws' h5=>rw[hrest] at e;simp only[R.bind_ok] at e;cases e;exact⟨x,h4,ws',rfl,hrest,rfl⟩
 ·cases e
structure CS (am:Amb) (sk:List Env) (π:List Addr) (s:Shared) (Sx:Nat→List Addr→Heap→Prop) (D C:Addr) (j:Nat) (π':List Addr) (H':H) (us:List V) (xs:List Value) (m:Str→Option Value) (s':Shared):Prop where
 st:Step (Fs sk) π s π' s'
 hr:HR am sk π' H' s'.heap
 sx:Sx j π' s'.heap
 pl:PL s'.heap D xs
 vr:VRs am π' s'.heap us xs
 ns:s'.heap.Ns C m
 dp:D ∉ π'
 cp:C ∉ π'
theorem CS.step {am:Amb}{sk:List Env}{A:Around}{I:Addr}{wt:Watch}{vs:List V}{π:List Addr}{s:Shared}{Sx:Nat→List Addr→Heap→Prop}{D C:Addr}{j:Nat}{π':List Addr}{H':H}{us:List V}{xs:List Value}{m:Str→Option Value}{s':Shared}(x:CS am sk π s Sx D C j π' H' us xs m s') (It:Iter am sk A I wt vs Sx) (fsD:D ∉ Fs sk) (fsC:C ∉ Fs sk)
  {π2:List Addr}{H2:H}{s2:Shared}(h:Step (Fs sk) π' s' π2 s2) (hr:HR am sk π2 H2 s2.heap):CS am sk π s Sx D C j π2 H2 us xs m s2 :=
 ⟨x.st.trans h,hr,It.stable _ _ _ _ _ x.sx h,x.pl.at fun o e=>h.ext.keep D o e x.dp fsD,x.vr.step h,Ns.at x.ns fun o e=>h.ext.keep C o e x.cp fsC,by obtain⟨o,ho,_⟩:=x.pl.nf;exact h.notin ho x.dp,by obtain⟨o,ho,_⟩:=Ns.nf x.ns;exact h.notin ho x.cp⟩
inductive CompInv (am:Amb) (sk:List Env) (π:List Addr) (s:Shared) (Sx:Nat→List Addr→Heap→Prop) (D C:Addr) (wt:Watch) (fe fc:V→H→R V) (vs rs:List V) (Hf:H) (k:Nat) (s':Shared):Prop
 |mk (j:Nat) (π':List Addr) (H':H) (us:List V) (xsD:List Value) (m:Str→Option Value) (ws:List V) (e:k=vs.length+1 - j) (hj:j≤vs.length) (cs:CS am sk π s Sx D C j π' H' us xsD m s') (hc:compL wt fe fc (vs.drop j) H'=.ok ws Hf) (hrs:us++ws=rs)
theorem zjS {elt:PE}{i:Nat}{cond:Option PE}{e iter:Expr}{x:Str}{px pos:Pos}{ifs:List Expr}{scope:Scope}{cl:List (Str × Addr)}{cx:Cx}{ρ:List V}{A:Around}{res π π1:List Addr}{Hc H1 Hf:H}{s s1:Shared}{vs rs:List V}{wt:Watch}{itv:Value}
  {RR:Value→Addr→Result→Shared→Prop}{E:Value→Shared→Prop}
  (B:Base am n true F c cx ρ A) (st:St (am.at res) true cx ρ π Hc A s) (hs1:Step (Fs cx.sk) π s π1 s1) (hr1:HR (am.at res) cx.sk π1 H1 s1.heap) (hit:ItR (am.at res) cx.sk A s.heap π1 s1.heap (vs,wt) itv)
  (hsc:ScC c x scope) (hi:c.ctx.all (fun p=>p.2 != i)=true) (helt:EJ am n true F (c.inner x i scope) elt e) (hcond:CJ am n F (c.inner x i scope) cond ifs)
  (hcl1:∀ y d,cl.lookup y=some d→cx.env.cells.lookup y=some d) (hcl2:∀ p∈scope.names,p.2=.free→∃ d,cl.lookup p.1=some d)
  (hcomp:compL wt (fun v h=>evE true F (ρ.set i v) elt h) (fun v h=>evC true F (ρ.set i v) cond h) vs H1=.ok rs Hf) (hlen:rs.length≤1000000)
  (hRR:∀ D C s',LoopEnd (am.at res) cx.sk π s rs Hf D C s'→RR (.ref D) C (.ok .next) s') :
  wpAny am.M A (newList []) (fun acc s₃=>wpAny am.M A (newFunctionEnv scope cx.env.globals cl [] cx.env.qual none .none (some cx.env)) (fun cenv s₄ =>
   codeAny am.M A (.compStart (.ListComp e [⟨.Name x px,iter,ifs,0⟩] scope pos) 0 itv acc { cenv with scope:=relabel scope cx.env }) (RR acc cenv.locals) s₄) E s₃) E s1:=by
 refine hold fun z k_=>?_;obtain⟨I,hI0,hIB,hItD⟩:=hit;refine k_ ?_;have hcell:=hsc.cell;refine wpAny_newObj_type (wpAny_newFunctionEnv hcell (by intro y hy;simp at hy) (fun h₁ hns₁ hsb₁=>?_) hsc.kind)
 dsimp only at hns₁ hsb₁ ⊢
 generalize hH2:s1.heap.push { cls:=.type "list",dict:=none,data:=.seq ([]:List Value).toArray }=H2 at hns₁ hsb₁ ⊢
 generalize hD:s1.heap.objs.size=D at *
 generalize hC:H2.objs.size=C at *
 have hCD:C=D+1:=by rw[←hC,← hH2,Heap.size_push,hD]
 have hDC:D≠C:=by rw[hCD];exact Nat.ne_of_lt (Nat.lt_succ_self D)
 have freshD1:s1.heap.get? D=none:=by rw[←hD];exact zaj _
 have freshC1:s1.heap.get? C=none:=by
  cases hq:s1.heap.get? C with
  |none=>rfl
  |some o=>have h3:C < s1.heap.objs.size:=Heap.lt_size hq;rw[hD,hCD] at h3;exact absurd h3 (Nat.not_lt.mpr (Nat.le_succ _))
 have k1:∀ b o,s1.heap.get? b=some o→h₁.get? b=some o:=fun b o hb =>
  hsb₁.extBut b o (zdT freshC1 hb) (Heap.get?_push_of_some _ (hH2 ▸ Heap.get?_push_of_some _ hb))
 have fresh0:∀ a,s1.heap.get? a=none→s.heap.get? a=none:=fun a ha=>by
  cases hq:s.heap.get? a with
  |none=>rfl
  |some o=>obtain⟨o',h6⟩:=hs1.ext.alive a o hq;rw[ha] at h6;cases h6
 have plD:PL h₁ D []:=by
  have h2:H2.get? D=some { cls:=.type "list",dict:=none,data:=.seq ([]:List Value).toArray }:=by rw[←hH2,← hD];exact Heap.get?_push_size _ rfl
  exact⟨_,0,hsb₁.extBut D _ hDC (Heap.get?_push_of_some _ h2),rfl,rfl,rfl⟩
 let am':Amb:=((am.at res).hold D).hold C
 have hr2:HR am' cx.sk π1 H1 h₁:=(hr1.held (h':=h₁) freshD1 k1 plD.nf |> fun z=>by
  have a1:HR ((am.at res).hold D) cx.sk π1 H1 H2:=hr1.held freshD1 (fun b o hb=>hH2 ▸ Heap.get?_push_of_some _ hb) (by
   have h2:H2.get? D=some { cls:=.type "list",dict:=none,data:=.seq ([]:List Value).toArray }:=by rw[←hH2,← hD];exact Heap.get?_push_size _ rfl
   exact⟨_,h2,fun us q=>by cases q⟩)
  have hCn:H2.get? C=none:=by rw[←hC];exact zaj _
  exact a1.held hCn (fun b o hb=>hsb₁.extBut b o (zdT hCn hb) (Heap.get?_push_of_some _ hb)) (Ns.nf hns₁))
 obtain⟨Sx,It,hSx⟩:=hItD (C::D::res) h₁ (fun a ha=>by
  rcases zN.mp ha with rfl|ha
  ·exact .inr freshC1
  ·rcases zN.mp ha with rfl|ha
   ·exact .inr freshD1
   ·exact .inl ha) k1
 refine hold fun z k_=>?_;obtain⟨hI1,hI2,oI,usI,hIo,hId⟩:=It.own 0 π1 h₁ hSx;refine k_ ?_;have cellsOk:∀ v,(∀ c,v≠.exc c)→Base am n true F (c.inner x i scope) ⟨compEnvC scope cl C cx.env,cx.sk,(x,i)::cx.ctx⟩ (ρ.set i v) A:=fun v hv =>
  ⟨B.ok,B.fn,⟨by show(x,i)::cx.ctx=(x,i)::c.ctx;rw[B.ck.ctx],by show(relabel scope cx.env).names=relab c.names scope.names;rw[za7 B.cxk.kind,B.ck.names],B.ck.fns,B.ck.nums⟩,
   ⟨fun y hy=>by
     have hk:Env.kindOf (compEnvC scope cl C cx.env) y=(scope.names.lookup y).map fun k=>if(k == .free&&c.names.lookup y == some .cell)=true then .cell else k:=by
      show(relabel scope cx.env).names.lookup y=_;rw[za7 B.cxk.kind,zcs,B.ck.names]
     rw[hk] at hy
     cases hl:scope.names.lookup y with
     |none=>rw[hl] at hy;simp at hy
     |some k =>
      by_cases hf:k=.free
      ·subst hf;exact hcl2 _ (zar hl) rfl
      ·have hb2:(k == NameKind.free)=false:=by simpa using hf
       rw[hl] at hy;simp only[Option.map_some,hb2,Bool.false_and,Bool.false_eq_true,if_false,Option.some.injEq] at hy
       rcases hy with q|q
       ·exact absurd q (hcell _ (zar hl))
       ·exact absurd q hf,
    hsc.kind,B.cxk.globals,B.cxk.builtins,B.cxk.top⟩,B.as,fun z=>(B.ne rfl).set hv⟩
 have resD:D ∉ (am.at res).res:=zaQ hr1 freshD1;have resC:C ∉ (am.at res).res:=zaQ hr1 freshC1;have fsD:D ∉ Fs cx.sk:=zbZ hr1 freshD1;have fsC:C ∉ Fs cx.sk:=zbZ hr1 freshC1;have baseD:(am.at res).B.get? D=none:=zdt hr1 freshD1;have baseC:(am.at res).B.get? C=none:=zdt hr1 freshC1;have er0:ER am' cx ρ π s.heap:=(st.er.held (fresh0 D freshD1)).held (fresh0 C freshC1);have hxk:Env.kindOf (compEnvC scope cl C cx.env) x=some .local:=lookup_relabel_local hsc.xl
 have hp:((compEnvC scope cl C cx.env).scope.kind == .class||((compEnvC scope cl C cx.env).scope.kind == .module&&(compEnvC scope cl C cx.env).locals != (compEnvC scope cl C cx.env).globals))=false:=by
  simp[compEnvC,relabel,hsc.kind]
 have loop:∀ s₃:Shared,s₃={ s1 with heap:=h₁,toks:=s1.toks+([]:List (Str × Value)).length } →
   codeAny am.M A (.compLoop (.ListComp e [⟨.Name x px,iter,ifs,0⟩] scope pos) 0 (.ref I) (.ref D) (compEnvC scope cl C cx.env)) (RR (.ref D) C) s₃:=by
  rintro s₃ rfl
  refine hold fun z k_=>?_;obtain⟨Inv,toInv,ofInv⟩:∃ Inv:Nat→Shared→Prop,(∀ k s',CompInv am' cx.sk π s Sx D C wt (fun v h=>evE true F (ρ.set i v) elt h) (fun v h=>evC true F (ρ.set i v) cond h) vs rs Hf k s'→Inv k s')∧(∀ k s',Inv k s'→CompInv am' cx.sk π s Sx D C wt (fun v h=>evE true F (ρ.set i v) elt h) (fun v h=>evC true F (ρ.set i v) cond h) vs rs Hf k s'):=⟨_,fun z z h=>h,fun z z h=>h⟩
  refine k_ ?_;refine codeAny_compLoop_tests Inv ?_ (vs.length+1)
   (toInv _ _ ⟨0,π1,H1,[],[],_,rs,rfl,Nat.zero_le _,⟨hs1.trans (Step.keeps k1),hr2,hSx,plD,rfl,hns₁,zaU hr1 freshD1,zaU hr1 freshC1⟩,by simpa using hcomp,rfl⟩)
  intro k s' hi_;refine hold fun z k_=>?_;obtain⟨j,π',H',us,xsD,m,ws,rfl,hj,⟨hS,hR,hX,hP,hV,hN,hDπ,hCπ⟩,hc,hrs⟩:=ofInv k s' hi_;refine k_ ?_;refine hold fun z k_=>?_;obtain⟨i1,i2,oJ,uJ,hoJ,hdJ⟩:=It.own j π' s'.heap hX;refine k_ ?_;have hDI:D≠I:=zf0 hP.nf hoJ hdJ;have hCI:C≠I:=zf0 (Ns.nf hN) hoJ hdJ;refine hold fun z k_=>?_
  cases hv:vs[j]? with
  |none =>
   refine k_ ?_;have hjl:vs.length≤j:=by simpa using hv
   have hj':j=vs.length:=Nat.le_antisymm hj hjl;rw[List.drop_of_length_le hjl] at hc;refine hold fun z k_=>?_;obtain⟨hw,e1,e2⟩:=zeG hc;refine k_ ?_;refine It.done π' _ s' _ _ (hj' ▸ hX) hR hw fun h' tk p=>?_;refine hRR D C _ ⟨fresh0 D freshD1,fresh0 C freshC1,hDC,resD,resC,baseD,baseC,fsD,fsC,π',xsD,m,hS.poke hI0 p,e2 ▸ hR.poke p hoJ hdJ hIB,hP.at fun o e=>p D o hDI e,?_,Ns.at hN fun o e=>p C o hCI e,hDπ,hCπ⟩
   rw[←hrs,e1,append_nil];exact hV.upto (p.slots hoJ hdJ)
  |some v =>
   refine k_ ?_;have hjl:j < vs.length:=(List.getElem?_eq_some_iff.mp hv).1;have hdrop:vs.drop j=v::vs.drop (j+1):=by
    rw[List.drop_eq_getElem_cons hjl]
    congr 1
    exact(List.getElem?_eq_some_iff.mp hv).2
   rw[hdrop] at hc;refine hold fun z k_=>?_;obtain⟨hw,tb,h3,htr,hc0,hc1⟩:=zdI hc;refine k_ ?_;refine It.item j π' H' s' v _ _ hX hR hw hv fun x' h' tk p hvx hX'=>?_;dsimp only;have hN':h'.Ns C m:=Ns.at hN fun o e=>p C o hCI e;refine wpAny_assign_Name (wpAny_storeName_local hxk hN' (fun h₂ hn₂ hs₂=>?_) hp);have p2:Poke C h' h₂:=fun b o hb e=>hs₂.extBut b o hb e;have hCr:C∈am'.res:=zZ
   have hDr:D∈am'.res:=zY _ zZ;have f2:∀ b o,b ∉ am'.res→h'.get? b=some o→h₂.get? b=some o:=fun b o hb e=>p2 b o (fun q=>hb (q ▸ hCr)) e;have hR2:HR am' cx.sk π' H' h₂:=(hR.poke p hoJ hdJ hIB).freed hCr baseC hCπ p2 (Ns.nf hn₂);have c2:CS am' cx.sk π s Sx D C (j+1) π' H' us xsD _ { s' with heap:=h₂,toks:=tk+1 }:=⟨(hS.poke (tk:=tk) hI0 p).poke (fresh0 C freshC1) p2,hR2,It.free _ _ _ _ hX' f2,(hP.at fun o e=>p D o hDI e).at fun o e=>p2 D o hDC e,(hV.upto (p.slots hoJ hdJ)).free f2,hn₂,hDπ,hCπ⟩
   have hvx2:VR am' π' h₂ v x':=hvx.free f2;have er:ER am' ⟨compEnvC scope cl C cx.env,cx.sk,(x,i)::cx.ctx⟩ (ρ.set i v) π' h₂ :=
    zoe (er0.step c2.st) B.cxk.kind B.ck.names B.ck.ctx hsc hi hcl1 hcl2 hCπ hn₂ (by simp) hvx2
   have stI:St am' true ⟨compEnvC scope cl C cx.env,cx.sk,(x,i)::cx.ctx⟩ (ρ.set i v) π' H' A { s' with heap:=h₂,toks:=tk+1 }:=⟨hR2,er,st.hd⟩
   have BI:=cellsOk v hvx.noexc;refine JAt.okAt (am:=am') (hcond (res:=C::D::res) BI stI) htr fun a π2 s3 hS3 hR3 hb=>?_;unfold BR at hb;subst hb;have c3:=c2.step It fsD fsC hS3 hR3
   cases tb with
   |false =>
    rw[zR (by simp)]
    exact⟨_,Nat.sub_lt_sub_left (Nat.lt_succ_of_lt hjl) (Nat.lt_succ_self j),toInv _ _ ⟨j+1,π2,h3,us,xsD,_,ws,rfl,hjl,c3,hc0 rfl,hrs⟩⟩
   |true =>
    rw[zT rfl];obtain⟨w,h4,ws',hel,hrest,rfl⟩:=hc1 rfl;refine JAt.okAt (am:=am') (helt (res:=C::D::res) BI (stI.step hS3 hR3)) hel fun y π3 s4 hS4 hR4 hvy=>?_;have c4:=c3.step It fsD fsC hS4 hR4;have hxl2:xsD.length≤1000000:=by
     rw[c4.vr.len];refine zX ?_ hlen;rw[←hrs,zQ];exact Nat.le_add_right ..
    refine zh4 c4.pl hxl2 fun pl' p5=>?_;have f5:∀ b o,b ∉ am'.res→s4.heap.get? b=some o→(s4.heap.update D (Obj.mapSeq (·.push y))).get? b=some o:=fun b o hb e=>p5 b o (fun q=>hb (q ▸ hDr)) e;exact⟨_,Nat.sub_lt_sub_left (Nat.lt_succ_of_lt hjl) (Nat.lt_succ_self j),toInv _ _ ⟨j+1,π3,h4,us++[w],xsD++[y],_,ws',rfl,hjl,⟨c4.st.poke (tk:=s4.toks) (fresh0 D freshD1) p5,c4.hr.freed hDr baseD c4.dp p5 pl'.nf,It.free _ _ _ _ c4.sx f5,pl',(c4.vr.append (.single hvy)).free f5,Ns.at c4.ns fun o e=>p5 C o (Ne.symm hDC) e,c4.dp,c4.cp⟩,hrest,by rw[←hrs];simp⟩⟩
 exact codeAny_compStart_list (loop _ rfl) (It.self 0 π1 _ _ _ hSx (loop _ rfl))
end
theorem LoopEnd.fr {am:Amb}{sk:List Env}{π:List Addr}{s:Shared}{rs:List V}{Hf:H}{D C:Addr}{s':Shared}(e:LoopEnd am sk π s rs Hf D C s') (hlen:rs.length≤1000000){h':Heap}{tk:Nat}(p:Poke C s'.heap h') :
  FrP am sk π s (.ok (.l rs) Hf) (.ref D) { s' with heap:=h',toks:=tk }:=by
 refine hold fun y k_=>?_;obtain⟨π',xs,m,h1,h2,h3,h4,h5,h6,h7⟩:=e.rest;refine k_ ?_;have hCr:C∈((am.hold D).hold C).res:=zZ;refine⟨rs,Hf,π',D,xs,rfl,rfl,hlen,e.freshD,⟨h6,e.fsD,e.resD,e.baseD⟩,h1.poke e.freshC p,?_,h3.at fun o q=>p D o e.ne q,?_⟩
 ·refine h2.out ?_ e.baseC h7 e.fsC p
  simp only[Amb.hold,zN,not_or];exact⟨Ne.symm e.ne,e.resC⟩
 ·exact(h4.free fun b o hb q=>p b o (fun z=>hb (z ▸ hCr)) q).reserve.2
theorem zgB (h:isSet iter=false) (env:Env) (x:Value):foldedSetIterable iter env x=pure x:=by
 cases iter<;>first|rfl|exact noB h.symm
section
variable {am:Amb}{n:Nat}{q:Bool}{F:Fn}{c:Ck}
noncomputable def itemsR (F:Fn) (ρ:List V) (elt:PE) (i:Nat) (it:PIt) (cond:Option PE) (Hc:H):R (List V):=(evIt true F ρ it Hc).bind fun vs h =>
 match compL vs.2 (fun v h=>evE true F (ρ.set i v) elt h) (fun v h=>evC true F (ρ.set i v) cond h) vs.1 h with
 |.ok r h=>if r.length≤1000000 then .ok r h else .bad
 |_=>.bad
theorem zlh {ρ:List V}{elt:PE}{i:Nat}{it:PIt}{cond:Option PE}{Hc H1:H}{vs:List V}{wt:Watch}(hb:itemsR F ρ elt i it cond Hc≠.bad) (e:evIt true F ρ it Hc=.ok (vs,wt) H1) :
  ∃ rs Hf,compL wt (fun v h=>evE true F (ρ.set i v) elt h) (fun v h=>evC true F (ρ.set i v) cond h) vs H1=.ok rs Hf∧rs.length≤1000000∧itemsR F ρ elt i it cond Hc=.ok rs Hf:=by
 have sh:itemsR F ρ elt i it cond Hc=match compL wt (fun v h=>evE true F (ρ.set i v) elt h) (fun v h=>evC true F (ρ.set i v) cond h) vs H1 with
  |.ok r h=>if r.length≤1000000 then .ok r h else .bad
  |_=>.bad:=by unfold itemsR;rw[e];rfl
 rw[sh] at hb ⊢
 cases hc:compL wt (fun v h=>evE true F (ρ.set i v) elt h) (fun v h=>evC true F (ρ.set i v) cond h) vs H1 with
 |bad=>rw[hc] at hb;exact absurd rfl hb
 |err _ _=>rw[hc] at hb;exact absurd rfl hb
 |ok rs Hf =>
  rw[hc] at hb;dsimp only at *
  by_cases hl:rs.length≤1000000
  ·exact⟨rs,Hf,rfl,hl,zT hl⟩
  ·rw[zR hl] at hb;exact absurd rfl hb
theorem za4 {ρ:List V}{elt:PE}{i:Nat}{it:PIt}{cond:Option PE}{Hc:H}:evE true F ρ (.comp elt i it cond) Hc=(itemsR F ρ elt i it cond Hc).bind fun rs h=>.ok (.l rs) h:=by
 rw[zpg,zR (by decide)]
 unfold itemsR
 cases evIt true F ρ it Hc with
 |ok b h =>
  rw[R.bind_ok,R.bind_ok]
  cases compL b.2 (fun v h=>evE true F (ρ.set i v) elt h) (fun v h=>evC true F (ρ.set i v) cond h) b.1 h with
  |ok r h =>
   dsimp only;unfold mkL
   by_cases hl:r.length≤1000000
   ·rw[zT hl,zT hl];rfl
   ·rw[zR hl,zR hl];rfl
  |_=>rfl
 |_=>rfl
theorem zg3 {elt:PE}{i:Nat}{it:PIt}{cond:Option PE}{e iter:Expr}{x:Str}{px pos pos':Pos}{ifs:List Expr}{scope:Scope}(hset:isSet iter=false) (hsc:zc4 c x scope=true) (hi:c.ctx.all (fun p=>p.2 != i)=true)
  (hit:ItJ am n F c it iter) (helt:EJ am n true F (c.inner x i scope) elt e) (hcond:CJ am n F (c.inner x i scope) cond ifs)
  {cx:Cx}{ρ:List V}{A:Around}{res π:List Addr}{Hc:H}{s:Shared}(B:Base am n true F c cx ρ A) (st:St (am.at res) true cx ρ π Hc A s) :
  itemsR F ρ elt i it cond Hc=.bad∨∀ {use:Option (Value→Sem Unit)}{Q:Value→Shared→Prop}{E:Value→Shared→Prop},
   (∀ c' H' y s',itemsR F ρ elt i it cond Hc=.err c' H'→ErP (am.at res) cx.sk π s (.err c' H':R V) y s'→E y s') →
   (∀ rs Hf D C s',itemsR F ρ elt i it cond Hc=.ok rs Hf→rs.length≤1000000→LoopEnd (am.at res) cx.sk π s rs Hf D C s'→compPost am.M A E use Q (.ref D) C (.ok .next) s') →
   wpAny am.M A (comprehension (.ListComp e [⟨.Name x px,iter,ifs,0⟩] scope pos) scope cx.env pos' (newList []) false (eval iter cx.env) use) Q E s:=by
 by_cases hb:itemsR F ρ elt i it cond Hc=.bad
 ·exact .inl hb
 refine .inr fun {use Q E} he hq=>?_;have hs:=ziB hsc;refine hold fun z k_=>?_;obtain⟨cl,hclos,hcl1,hcl2⟩:=zge (scope:=scope) (env:=cx.env) (fun p hp hf=>B.cxk.clos p.1 (by
  unfold Env.kindOf;rw[B.ck.names];exact hs.free p hp hf))
 refine k_ ?_;have erp:∀ y s',ErP (am.at res) cx.sk π s (evIt true F ρ it Hc) y s'→E y s':=fun y s' h=>by
  obtain⟨c',H'',π',e',C,fl,hh,r2,r3,r4,r5,r6⟩:=h;exact he c' H'' y s' (by unfold itemsR;rw[hh];rfl) ⟨c',H'',π',e',C,fl,rfl,r2,r3,r4,r5,r6⟩
 rcases hit B st with hI|hI
 ·exact absurd (by unfold itemsR;rw[hI];rfl) hb
 refine wpAny_comprehension_free (use:=use) rfl (zgB hset cx.env) hclos hs.kind (fun y hy hl=>(hs.loc y hy hl).2) (yV hI (fun xv s₁ h₁=>yV h₁ (fun itv s₂ h₂=>?_) erp) erp);refine hold fun z k_=>?_;obtain⟨⟨vs,wt⟩,H1,π1,e1,e2,e3,e4⟩:=h₂;obtain⟨rs,Hf,e5,e6,e7⟩:=zlh hb e1;refine k_ ?_;exact zjS (RR:=fun acc C=>compPost am.M A E use Q acc C) B st e2 e3 e4 hs hi helt hcond hcl1 hcl2 e5 e6 fun D C s' le=>hq rs Hf D C s' e7 e6 le
theorem zob {elt:PE}{i:Nat}{it:PIt}{cond:Option PE}{e iter:Expr}{x:Str}{px pos:Pos}{ifs:List Expr}{scope:Scope}(hset:isSet iter=false) (hsc:zc4 c x scope=true) (hi:c.ctx.all (fun p=>p.2 != i)=true)
  (hit:q=true→ItJ am n F c it iter) (helt:q=true→EJ am n true F (c.inner x i scope) elt e) (hcond:q=true→CJ am n F (c.inner x i scope) cond ifs) :
  FJ am n q F c (.comp elt i it cond) (.ListComp e [⟨.Name x px,iter,ifs,0⟩] scope pos):=fun {cx ρ A res π Hc s} B st=>by
 cases q with
 |false=>exact .inl (by rw[zpg,zT (by decide)])
 |true =>
  rcases zg3 (px:=px) (pos:=pos) (pos':=firstIterPos [⟨.Name x px,iter,ifs,0⟩] pos) hset hsc hi (fun B st=>hit rfl B st) (fun B st=>helt rfl B st) (fun B st=>hcond rfl B st) B st with h|h
  ·exact .inl (by rw[za4,h];rfl)
  ·refine .inr (h (use:=none) (fun c' H' y s' e z=>by rw[za4,e];exact z) fun rs Hf D C s' e hl le=>?_)
   refine hold fun u k_=>?_;obtain⟨π',xs,m,_,_,_,_,h5,_⟩:=le.rest;refine k_ ?_;refine⟨m,h5,fun h' sb=>?_⟩;rw[za4,e];exact le.fr hl (tk:=s'.toks) fun b o hb q=>sb.extBut b o hb q
theorem zfP {h h':Heap}{C:Addr}(e:zcp h C) (k:∀ b o,h.get? b=some o→h'.get? b=some o):zcp h' C:=by
 refine hold fun z k_=>?_;obtain⟨nm,qn,N,bs,bm,hdct,sn,sub,ab,col,dd,k0,k1,k2,k3,k5,mN,r1,r2,r3,r4⟩:=e;refine k_ ?_;exact⟨nm,qn,N,bs,bm,hdct,sn,sub,ab,col,dd,k0,k1,k2,k3,k5,mN,k _ _ r1,zbT k r2,r3,r4.keeps k⟩
theorem zjD {prog:Program}{w:World}{A:Around}{E:Value→Shared→Prop}{Q:Option Value→Shared→Prop}{s:Shared}{K:Frag}{x D:Addr}{ox:Obj}(X:K.In s.heap) (I:InstAt s.heap x ox D none) (R:zcp s.heap D)
  (hga:findIn K (.ref D) "__getattribute__"=some (some (.builtin "BaseException.__getattribute__"))) (hgh:findIn K (.ref D) "__getattr__"=some none)
  (hf:findObj K D none "__class__"=some (.bind (.builtin "getset_descriptor.__get__") (.builtin "object.__class__"))) (hm:mroIn K D (.type "object")=some true)
  (h:Q (some (.ref D)) { s with toks:=s.toks+1 }):wpAny (model prog w) A (getAttr? (.ref x) "__class__") Q E s:=by
 refine hold fun z k_=>?_;obtain⟨hh,g,d,t,os⟩:=s;refine k_ ?_;refine hold fun z k_=>?_;obtain⟨nm,qn,N,bs,bm,hdct,sn,sub,ab,col,dd,k0,k1,k2,k3,k5,mN,r1,r2,r3,r4⟩:=R;refine k_ ?_;have L0:=I.type (M:=model prog w);have L1:=looks_findIn (M:=model prog w) X hga;have L2:=looks_findIn (M:=model prog w) X hgh;have L3:=looks_find (M:=model prog w) X I hf;have f3:=F.attrBase_ValueError.ga.bind (.ref x);unfold getAttr? getAttrBy? getAttrBy
 refine yX (wpAny_mkText (yX (wpAny_attempt (yU (yX (L0.at (yX (L1.at ?_))))))));have hx2:(Value.builtin "BaseException.__getattribute__" == Value.builtin "object.__getattribute__")=false:=by decide +kernel
 dsimp only;rw[zR (by rw[hx2];simp)]
 unfold getAttrByItsOwn hookBefore;refine yX ?_;rw[zT (show onTheHeap (Value.ref D)=true from rfl)];refine L2.at ?_;refine yX (wpAny_attempt (yU ?_));unfold callGetattribute;rw[zR (by simp)]
 unfold boundAndCalled;rw[f3];refine yX (yW ?_);refine wpAny_call (codeAny_call_builtin F.attrBase_ValueError.ga.plain F.entry_bexc_ga (wpAny_check_ga_own F.attrBase_ValueError r1 r4 I.1 I.2 ?_));unfold Builtin.«object.__getattribute__»
 refine yX (wpAny_of_eq (a:=(.ref x,[.str (Str.ofString "__class__") t])) rfl ?_);dsimp only;refine yX (wpAny_of_eq (a:=Str.ofString "__class__") rfl ?_);refine yX (L0.at (yX (L3.at ?_)));dsimp only;unfold Builtin.ObjectAttr.bindTo;dsimp only;refine yX (yU (wpAny_call (class_get (s:=⟨hh,g,d,t+1,os⟩) (ox:=ox) (od:=none) X I hm ?_)));refine yW ?_
 exact handed_on rfl (yW h)
set_option tactic.hygienic true in
theorem zdY {K:Frag}{D:Addr}(hc:(clsIn K D).isSome=true):∃ c d cd sl,K.lookup D=some ⟨c,d,.cls cd,sl⟩:=by
 unfold clsIn at hc
 split at hc
 ·rename_i ho;exact⟨_,_,_,_,ho⟩
 ·cases hc
theorem zlc {K:Frag}{x D:Addr}{ox:Obj}(hg:findIn K (.ref D) "__getattribute__"=some (some (.builtin "BaseException.__getattribute__"))∧findIn K (.ref D) "__getattr__"=some none) (hc:(clsIn K D).isSome=true) (ha:findIn K (.ref D) "__class__"=some (some (.builtin "object.__class__")))
  (hn:specialIn K (.builtin "object.__class__") "__get__"=some (some (.builtin "getset_descriptor.__get__"))) (htk:takesIn K (.builtin "object.__class__")=some true) (hm:mroIn K D (.type "object")=some true) :
  KitX K (.ref x) (.ref D) (fun h=>InstAt h x ox D none∧zcp h D) where
 ty:=fun y y y I=>I.1.type
 it:=fun y y X y=>by
  obtain⟨_,_,_,_,ho⟩:=zdY hc;intro A' Q' E' s' k q;unfold isType loadHead;exact yX (wpAny_loadPart (k _ _ (X _ _ ho)) (yW q))
 ne:=fun h tp dd its n sl X htp=>by
  refine Bool.eq_false_iff.mpr fun q=>?_;have e:D=tp:=Value.ref.inj (beq_iff_eq.mp q);subst e;obtain⟨_,_,_,_,ho⟩:=zdY hc;have z:=(X _ _ ho).symm.trans htp
  cases z
 ca:=fun {prog w A E Q s} X I k=>by
  have hf:findObj K D none "__class__"=some (.bind (.builtin "getset_descriptor.__get__") (.builtin "object.__class__")):=by
   obtain⟨cd,hc⟩:=Option.isSome_iff_exists.mp hc;unfold findObj;rw[hc,Option.bind_some,ha,Option.bind_some];show((specialIn K (.builtin "object.__class__") "__get__").bind _)=_;rw[hn,Option.bind_some];show((takesIn K (.builtin "object.__class__")).bind _)=_;rw[htk];rfl
  exact zjD X I.1 I.2 hg.1 hg.2 hf hm k
set_option tactic.hygienic true in
theorem zlB {i:Nat}{t:Ty}{x:Str}{y:Expr}{p p' p2:Pos}(hx:c.glob "isinstance"=true) (hv:c.var x i=true) (hk:ckTy c t y=true) :
  EJ am n q F c (.isexc i t) (.Call (.Name "isinstance" p) [.Name x p2,y] [] p'):=fun {cx ρ A res π Hc s} B st=>by
 simp -iota only[zq5]
 cases hρ:ρ[i]? with
 |none=>exact .inl rfl
 |some v =>
  cases v with
  |exc d =>
   simp only
   cases hb:isExc d t with
   |none=>exact .inl rfl
   |some b =>
    refine .inr (zaC (v:=.builtin "isinstance") B st.hr hx (zcx (by kernel_rfl)) (by
     intro z hz;rcases zN.mp hz with rfl|hz
     ·rfl
     ·exact zgr (c:=c) (ts:=[t]) (xs:=[y]) (yK.2 ⟨hk,rfl⟩) z hz) (spl2 (zhZ B st hv hρ (by simp) fun v' hs=>?_)))
    rcases hs with hs|⟨d',a,h1,rfl,h3,C,o,vs,h4,h5,h6,h7,h8,h9⟩
    ·exact hs.elim
    cases h1
    unfold isExc at hb
    split at hb
    ·rename_i hd
     have hdm:d∈zad:=by simpa using hd
     obtain⟨C',X⟩:=B.ok.exc d hdm;have hCC:C'=C:=by have:=X.name.symm.trans h4;cases this;rfl
     subst hCC;have Z:=zlc (x:=a) (ox:=o) X.get X.cls X.find X.spec X.takes X.mro;have I:InstAt s.heap a o C' none∧zcp s.heap C':=⟨⟨h5,h6.1,by unfold notCls;rw[h7],by rw[h6.2];trivial⟩,zfP (B.ok.rs d hdm C' X.name) st.hr.base⟩
     obtain⟨pz,rfl,hk'⟩:=zeJ hk
     clear hk
     have hk:=hk'
     cases t with
     |valueError =>
      cases hb
      exact zmO B st.hr hk (zcx (by kernel_rfl)) (kia_one Z (B.ok.K.keeps st.hr.base) I X.val (by simp) fun tk=>OkP.tok st.hr rfl)
     |own d2 =>
      simp only at hb
      split at hb
      ·rename_i hd2
       cases hb
       have hdm2:d2∈zad:=by simpa using hd2
       obtain⟨D,Y⟩:=B.ok.exc d2 hdm2;exact zb9 B st.hr hk Y.name (kia_one Z (B.ok.K.keeps st.hr.base) I (B.ok.sub d hdm d2 hdm2 C' D X.name Y.name) (by simp) fun tk=>OkP.tok st.hr rfl)
      ·cases hb
     |_=>cases hb
    ·cases hb
  |_=>exact .inl rfl
theorem zlD (hx:c.glob (Str.ofString f)=true) (hf:f∈c.fns) (hv:c.var x i=true) :
  EJ am n q F c (.callX f i) (.Call (.Name (Str.ofString f) p) [.Name x p2] [] p'):=fun {cx ρ A res π Hc s} B st=>by
 simp -iota only[zq4]
 cases hρ:ρ[i]? with
 |none=>exact .inl rfl
 |some v =>
  cases v with
  |exc d =>
   obtain⟨a,fa⟩:=B.ck.fns f hf;refine hold fun y k_=>?_;obtain⟨ga,o,fd,ho,hd⟩:=id fa;refine k_ ?_;have hq:q=false:=by
    cases q with
    |false=>rfl
    |true=>exact absurd rfl ((B.ne rfl) _ (mem_of_getElem? hρ) d)
   simp only;have J:∀ v',SR (am.at res) π s.heap (.exc d) v'→JAt (am.at res) cx.sk A (PySem.call (.ref a) [v'] []) (Mine.pcall Hc (F q f [.exc d] Hc)) (VR (am.at res)) π s:=fun v' hs=>by
    rcases hs with hs|⟨d',b,h1,rfl,h3,h4⟩
    ·exact hs.elim
    cases h1
    exact JAt.pcall st.hr (B.fn.call res q f a _ _ cx.sk A π Hc s fa B.as st.hr st.hd (.inr ⟨hq,d,b,rfl,rfl,h3,h4⟩))
   by_cases hbad:Mine.pcall Hc (F q f [.exc d] Hc)=.bad
   ·exact .inl hbad
   ·refine .inr (wpAny_Call_Name_kw (zb9 B st.hr hx ga ?_))
    rw[zae _ (fun z hz=>by rw[zK.mp hz];rfl)]
    refine Calls.callWith_function (o:=o) (fd:=fd) (Calls.evalArgs_plain (spl1 (zhZ B st hv hρ (by simp) fun v' hs=>⟨⟨st.hr.base a o ho,hd⟩,?_⟩)))
    rcases J v' hs with h|h
    ·exact absurd h hbad
    ·exact h
  |_=>exact .inl rfl
end
section
variable {am:Amb}{n:Nat}{F:Fn}
def PJ (am:Amb) (n:Nat) (q:Bool) (F:Fn) (c:Ck) (e:PE) (x:Expr):Prop:=EJ am n q F c e x∧TJ am n q F c e x
theorem EJ.both (h:EJ am n q F c e x) (hp:zbR x=true):PJ am n q F c e x:=⟨h,h.test hp⟩
def OJ (am:Amb) (n:Nat) (q:Bool) (F:Fn) (c:Ck) (e:PE) (x:Expr):Prop:=freshE e=true→EJ am n q F c (.own e) x∧zbR x=true
theorem zlp (h:freshE (.bf f a)=true):f=.list∨f=.listRev:=by
 cases f<;>first|exact .inl rfl|exact .inr rfl|exact noB h
def XJ (am:Amb) (n:Nat) (q:Bool) (F:Fn) (c:Ck) (e:PE) (x:Expr):Prop:=PJ am n q F c e x∧OJ am n q F c e x
theorem zpJ   (h:ckE c (.none) x=true):XJ am n q F c (.none) x:=by
 refine za3 (G:=XJ am n q F c (.none)) h fun k p y=>?_;exact⟨EJ.both zog rfl,fun z=>by cases z⟩
theorem zpP  (h:ckE c (.bool b) x=true):XJ am n q F c (.bool b) x:=by
 refine za3 (G:=XJ am n q F c (.bool b)) h fun k p y=>?_;exact⟨EJ.both zok rfl,fun z=>by cases z⟩
theorem zrl  (h:ckE c (.int i) x=true):XJ am n q F c (.int i) x:=by
 refine za3 (G:=XJ am n q F c (.int i)) h fun k p y=>?_;exact⟨EJ.both zmy rfl,fun z=>by cases z⟩
theorem zrg  (h:ckE c (.str t) x=true):XJ am n q F c (.str t) x:=by
 refine za3 (G:=XJ am n q F c (.str t)) h fun k p y=>?_;exact⟨EJ.both zqa rfl,fun z=>by cases z⟩
theorem zre  (h:ckE c (.v i) x=true):XJ am n q F c (.v i) x:=by
 refine zba (G:=XJ am n q F c (.v i)) h fun y p hh=>?_;exact⟨EJ.both (zp8 hh) rfl,fun z=>by cases z⟩
theorem zpL  (h:ckE c (.glob g i) x=true):XJ am n q F c (.glob g i) x:=by
 refine zbw (G:=XJ am n q F c (.glob g i)) (al h) fun p y=>?_;exact⟨EJ.both (zoh (al (ar h)) (by simpa using ar (ar h))) rfl,fun z=>by cases z⟩
theorem zrp (Ia:∀ y,ckE c a y=true→XJ am n q F c a y) (Ib:∀ y,ckE c b y=true→XJ am n q F c b y) (h:ckE c (.bin op a b) x=true):XJ am n q F c (.bin op a b) x:=by
 refine zoA (G:=XJ am n q F c (.bin op a b)) h fun l r p hh=>?_;have ha:=(Ia _ (al hh)).1;have hb:=(Ib _ (ar hh)).1;refine⟨EJ.both (zqh (zW rfl) ha.1 hb.1) rfl,fun z=>?_⟩
 cases op with
 |mul=>exact⟨znB ha.1 hb.1,rfl⟩
 |add=>exact⟨znC ha.1 hb.1,rfl⟩
 |_=>cases z
theorem zrk  (h:ckE c (.neg i) x=true):XJ am n q F c (.neg i) x:=by
 refine zl5 (G:=XJ am n q F c (.neg i)) h fun y p hh=>?_;refine za3 (G:=fun y=>XJ am n q F c (.neg i) (.UnaryOp .USub y p)) hh fun k p' u=>?_;exact⟨EJ.both zqd rfl,fun z=>by cases z⟩
theorem zrj (Ia:∀ y,ckE c a y=true→XJ am n q F c a y) (h:ckE c (.not a) x=true):XJ am n q F c (.not a) x:=by
 refine zl5 (G:=XJ am n q F c (.not a)) h fun y p hh=>?_;have ha:=(Ia _ hh).1;exact⟨⟨zqc ha.1,zoR ha.2⟩,fun z=>by cases z⟩
theorem zrq (Ies:∀ ys,ckEs c es ys=true→AllJ am n q F c es ys) (h:ckE c (.and es) x=true):XJ am n q F c (.and es) x:=by
 refine zg7 (G:=XJ am n q F c (.and es)) h fun ys p hh=>?_;have ha:=Ies _ hh;exact⟨⟨zqi ha,zoT ha⟩,fun z=>by cases z⟩
theorem zr4 (Ies:∀ ys,ckEs c es ys=true→AllJ am n q F c es ys) (h:ckE c (.or es) x=true):XJ am n q F c (.or es) x:=by
 refine zg7 (G:=XJ am n q F c (.or es)) h fun ys p hh=>?_;have ha:=Ies _ hh;exact⟨⟨zrv ha,zqS ha⟩,fun z=>by cases z⟩
theorem zro {q:Bool}{c:Ck}{op:Cop}{a b:PE}{x:Expr}(Ia:∀ y,ckE c a y=true→XJ am n q F c a y) (Ib:∀ y,ckE c b y=true→XJ am n q F c b y) (h:ckE c (.cmp op a b) x=true):XJ am n q F c (.cmp op a b) x:=by
 refine zjV (G:=XJ am n q F c (.cmp op a b)) h fun l os rs p hh=>?_;refine zan (G:=fun os=>XJ am n q F c (.cmp op a b) (.Compare l os rs p)) hh fun o hh=>?_;refine zan (G:=fun rs=>XJ am n q F c (.cmp op a b) (.Compare l [o] rs p)) hh fun r hh=>?_;have ha:=(Ia _ (al (ar hh))).1;have hb:=(Ib _ (al (ar (ar hh)))).1;have hs:=nt (ar (ar (ar hh)));exact⟨⟨zqg (al hh) hs ha.1 hb.1,zoS (al hh) hs ha.1 hb.1⟩,fun z=>by cases z⟩
theorem zpN {q:Bool}{c:Ck}{o1 o2:Cop}{a b d:PE}{x:Expr}(Ia:∀ y,ckE c a y=true→XJ am n q F c a y) (Ib:∀ y,ckE c b y=true→XJ am n q F c b y) (Id:∀ y,ckE c d y=true→XJ am n q F c d y) (h:ckE c (.cmp2 o1 o2 a b d) x=true):XJ am n q F c (.cmp2 o1 o2 a b d) x:=by
 refine zjV (G:=XJ am n q F c (.cmp2 o1 o2 a b d)) h fun l os rs p hh=>?_;refine zbl (G:=fun os=>XJ am n q F c (.cmp2 o1 o2 a b d) (.Compare l os rs p)) hh fun u1 u2 hh=>?_;refine zbl (G:=fun rs=>XJ am n q F c (.cmp2 o1 o2 a b d) (.Compare l [u1,u2] rs p)) hh fun r1 r2 hh=>?_;have g1:=al hh;have hh:=ar hh;have g2:=al hh;have hh:=ar hh;have ha:=(Ia _ (al hh)).1;have hh:=ar hh;have hb:=(Ib _ (al hh)).1
 have hh:=ar hh;have hd:=(Id _ (al hh)).1;have hs:=nt (ar hh);exact⟨⟨zoi g1 g2 hs ha.1 hb.1 hd.1,zm1 g1 g2 hs ha.1 hb.1 hd.1⟩,fun z=>by cases z⟩
theorem zpK (Ies:∀ ys,ckEs c es ys=true→AllJ am n q F c es ys) (h:ckE c (.list es) x=true):XJ am n q F c (.list es) x:=by
 refine zk7 (G:=XJ am n q F c (.list es)) h fun xs p hh=>?_;have ha:=Ies _ hh;exact⟨EJ.both (FJ.ej (zjB ha)) rfl,fun z=>⟨FJ.own (zjB ha),rfl⟩⟩
theorem zrf (Ies:∀ ys,ckEs c es ys=true→AllJ am n q F c es ys) (h:ckE c (.tup es) x=true):XJ am n q F c (.tup es) x:=by
 refine zib (G:=XJ am n q F c (.tup es)) h fun xs k p hh=>?_;exact⟨EJ.both (zp9 (Ies _ hh)) rfl,fun z=>by cases z⟩
theorem zrm (Ia:∀ y,ckE c a y=true→XJ am n q F c a y) (Ii:∀ y,ckE c i y=true→XJ am n q F c i y) (h:ckE c (.idx a i) x=true):XJ am n q F c (.idx a i) x:=by
 refine zd8 (G:=XJ am n q F c (.idx a i)) h fun v s p hh=>?_;exact⟨EJ.both (zqe (Ia _ (al hh)).1.1 (Ii _ (ar hh)).1.1) rfl,fun z=>by cases z⟩
theorem zrh (Ia:∀ y,ckE c a y=true→XJ am n q F c a y) (h:ckE c (.rev a) x=true):XJ am n q F c (.rev a) x:=by
 refine zd8 (G:=XJ am n q F c (.rev a)) h fun v s p hh=>?_;refine zeU (G:=fun s=>XJ am n q F c (.rev a) (.Subscript v s p)) hh fun l u d p' hh=>?_;refine zbU (G:=fun d=>XJ am n q F c (.rev a) (.Subscript v (.Slice l u d p') p)) (al hh) ?_;refine zbU (G:=fun u=>XJ am n q F c (.rev a) (.Subscript v (.Slice l u none p') p)) (al (ar hh)) ?_;refine zaS (G:=fun l=>XJ am n q F c (.rev a) (.Subscript v (.Slice l none none p') p)) (ar (ar (ar hh))) fun e he=>?_
 refine za3 (G:=fun e=>XJ am n q F c (.rev a) (.Subscript v (.Slice (some e) none none p') p)) he fun k pc w=>?_;exact⟨EJ.both (zof (Ia _ (al (ar (ar hh)))).1.1) rfl,fun z=>by cases z⟩
theorem znW {q:Bool}{c:Ck}{a:PE}{lo hi:Option PE}{x:Expr}(Ia:∀ y,ckE c a y=true→XJ am n q F c a y) (Ilo:∀ y,ckO c lo y=true→OptJ am n q F c lo y) (Ihi:∀ y,ckO c hi y=true→OptJ am n q F c hi y) (h:ckE c (.slice a lo hi) x=true):XJ am n q F c (.slice a lo hi) x:=by
 refine zd8 (G:=XJ am n q F c (.slice a lo hi)) h fun v s p hh=>?_;refine zeU (G:=fun s=>XJ am n q F c (.slice a lo hi) (.Subscript v s p)) hh fun l u d p' hh=>?_;refine zbU (G:=fun d=>XJ am n q F c (.slice a lo hi) (.Subscript v (.Slice l u d p') p)) (al hh) ?_;have ha:=(Ia _ (al (ar hh))).1;have hl:=Ilo _ (al (ar (ar hh)));have hu:=Ihi _ (ar (ar (ar hh)));exact⟨EJ.both (FJ.ej (zgT ha.1 hl hu)) rfl,fun z=>⟨FJ.own (zgT ha.1 hl hu),rfl⟩⟩
theorem zlf {q:Bool}{c:Ck}{a:PE}{ts:List Ty}{x:Expr}(Ia:∀ y,ckE c a y=true→XJ am n q F c a y) (h:ckE c (.isinst a ts) x=true):XJ am n q F c (.isinst a ts) x:=by
 refine zay (G:=XJ am n q F c (.isinst a ts)) h fun xs p p' hh=>?_;refine zbl (G:=fun xs=>XJ am n q F c (.isinst a ts) (.Call (.Name "isinstance" p) xs [] p')) hh fun y t hh=>?_;have h1:=al hh;have h2:=al (ar hh);have ha:=(Ia _ h2).1;have h3:=al (ar (ar hh));refine⟨EJ.both ?_ rfl,fun z=>by cases z⟩
 refine zan (G:=fun ts=>ts.all tyPl=true→EJ am n q F c (.isinst a ts) (.Call (.Name "isinstance" p) [y,t] [] p')) (ar (ar (ar hh))) (fun u h4 h3=>?_) h3;exact zjJ h1 (al h3) h4 (zaz h2) ha.1
theorem znY {q:Bool}{c:Ck}{i:Nat}{t:Ty}{x:Expr}  (h:ckE c (.isexc i t) x=true):XJ am n q F c (.isexc i t) x:=by
 refine zay (G:=XJ am n q F c (.isexc i t)) h fun xs p p' hh=>?_;refine zbl (G:=fun xs=>XJ am n q F c (.isexc i t) (.Call (.Name "isinstance" p) xs [] p')) hh fun y t' hh=>?_;refine zba (G:=fun y=>XJ am n q F c (.isexc i t) (.Call (.Name "isinstance" p) [y,t'] [] p')) (al (ar hh)) fun z p2 h2=>?_;exact⟨EJ.both (zlB (al hh) h2 (ar (ar hh))) rfl,fun z=>by cases z⟩
theorem zn0 {q:Bool}{c:Ck}{f:String}{i:Nat}{x:Expr}  (h:ckE c (.callX f i) x=true):XJ am n q F c (.callX f i) x:=by
 refine zay (G:=XJ am n q F c (.callX f i)) h fun xs p p' hh=>?_;refine zan (G:=fun xs=>XJ am n q F c (.callX f i) (.Call (.Name (Str.ofString f) p) xs [] p')) hh fun y hh=>?_;refine zba (G:=fun y=>XJ am n q F c (.callX f i) (.Call (.Name (Str.ofString f) p) [y] [] p')) (ar (ar hh)) fun z p2 h3=>?_;exact⟨EJ.both (zlD (al hh) (List.contains_iff_mem.mp (al (ar hh))) h3) rfl,fun z=>by cases z⟩
theorem zr5 {q:Bool}{c:Ck}{f:Bf}{a:PE}{x:Expr}(Ia:∀ y,ckE c a y=true→XJ am n q F c a y) (h:ckE c (.bf f a) x=true):XJ am n q F c (.bf f a) x:=by
 refine zay (G:=XJ am n q F c (.bf f a)) h fun xs p p' hh=>?_;refine zan (G:=fun xs=>XJ am n q F c (.bf f a) (.Call (.Name (bfName f) p) xs [] p')) hh fun y hh=>?_;have h1:=al hh;have h2:=ar hh
 by_cases hr:f=.listRev
 ·subst hr
  cases h2
 ·have h2':ckE c a y=true:=by cases f<;>first|exact h2|(exact absurd rfl hr)|(cases h2)
  have ha:=(Ia _ h2').1;refine⟨EJ.both (zrw hr h1 (zaz h2') ha.1) rfl,fun z=>?_⟩
  rcases zlp z with hf|hf
  ·subst hf
   exact⟨FJ.own (zjC h1 (zaz h2') ha.1),rfl⟩
  ·exact(hr hf).elim
theorem zpM {q:Bool}{c:Ck}{elt:PE}{i:Nat}{it:PIt}{cond:Option PE}{x:Expr}(Ielt:∀ c y,ckE c elt y=true→XJ am n true F c elt y) (Iit:∀ y,ckIt c it y=true→ItJ am n F c it y) (Icond:∀ c ys,ckC c cond ys=true→CJ am n F c cond ys) (h:ckE c (.comp elt i it cond) x=true):XJ am n q F c (.comp elt i it cond) x:=by
 refine zmn (G:=XJ am n q F c (.comp elt i it cond)) h fun e gs sc p hh=>?_;refine zjs (G:=fun gs=>XJ am n q F c (.comp elt i it cond) (.ListComp e gs sc p)) hh fun y iter ifs p' hh=>?_;have f:FJ am n q F c (.comp elt i it cond) (.ListComp e [⟨.Name y p',iter,ifs,0⟩] sc p):=fun {cx ρ A res π Hc s}=>by
  have h1:=al hh;have hh:=ar hh;have h2:=nt (al hh);have hh:=ar hh;have h3:=al hh;have hh:=ar hh;have h4:=al hh;have hh:=ar hh;exact zob (q:=q) h2 h3 h4 (fun z=>Iit _ h1) (fun z=>(Ielt _ _ (al hh)).1.1) (fun z=>Icond _ _ (ar hh))
 exact⟨EJ.both (FJ.ej (fun {cx ρ A res π Hc s}=>f)) rfl,fun z=>⟨FJ.own (fun {cx ρ A res π Hc s}=>f),rfl⟩⟩
theorem zpO (Iargs:∀ ys,ckEs c args ys=true→AllJ am n q F c args ys) (h:ckE c (.call k f args) x=true):XJ am n q F c (.call k f args) x:=by
 refine zay (G:=XJ am n q F c (.call k f args)) h fun xs p p' hh=>?_;have ha:=Iargs _ (al (ar (ar hh)))
 cases xs with
 |nil=>cases args with
  |nil=>exact noB (ar (ar (ar hh)))
  |cons _ _=>exact ha.elim
 |cons y ys=>exact⟨EJ.both (zoj (al hh) (List.contains_iff_mem.mp (al (ar hh))) ha) rfl,fun z=>by cases z⟩
theorem zlg {q:Bool}{c:Ck}{o a:PE}{x:Expr}(Io:∀ y,ckE c o y=true→XJ am n q F c o y) (Ia:∀ y,ckE c a y=true→XJ am n q F c a y) (h:ckE c (.append o a) x=true):XJ am n q F c (.append o a) x:=by
 refine zbx (G:=XJ am n q F c (.append o a)) h fun v xs p p' h2 hh=>?_;refine zan (G:=fun xs=>XJ am n q F c (.append o a) (.Call (.Attribute v "append" p) xs [] p')) hh fun y hh=>?_;exact⟨EJ.both (zjK (al hh) h2 (nt (ar (ar (ar hh)))) (Io _ (al (ar hh))).1.1 (Ia _ (al (ar (ar hh)))).1.1) rfl,fun z=>by cases z⟩
theorem zle (Io:∀ y,ckE c o y=true→XJ am n q F c o y) (Ia:∀ y,ckE c a y=true→XJ am n q F c a y) (h:ckE c (.remove o a) x=true):XJ am n q F c (.remove o a) x:=by
 refine zbx (G:=XJ am n q F c (.remove o a)) h fun v xs p p' h2 hh=>?_;refine zan (G:=fun xs=>XJ am n q F c (.remove o a) (.Call (.Attribute v "remove" p) xs [] p')) hh fun y hh=>?_;have h3:=ar hh;exact⟨EJ.both (zjI (al hh) h2 (nt (ar (ar h3))) (Io _ (al h3)).1.1 (Ia _ (al (ar h3))).1.1) rfl,fun z=>by cases z⟩
theorem znX (Io:∀ y,ckE c o y=true→XJ am n q F c o y) (Ia:∀ y,ckE c a y=true→XJ am n q F c a y) (h:ckE c (.popAt o a) x=true):XJ am n q F c (.popAt o a) x:=by
 refine zbx (G:=XJ am n q F c (.popAt o a)) h fun v xs p p' h2 hh=>?_;refine zan (G:=fun xs=>XJ am n q F c (.popAt o a) (.Call (.Attribute v "pop" p) xs [] p')) hh fun y hh=>?_;exact⟨EJ.both (zlA (al hh) h2 (nt (ar (ar (ar hh)))) (Io _ (al (ar hh))).1.1 (Ia _ (al (ar (ar hh)))).1.1) rfl,fun z=>by cases z⟩
theorem zld (Io:∀ y,ckE c o y=true→XJ am n q F c o y) (Ia:∀ y,ckE c a y=true→XJ am n q F c a y) (Id:∀ y,ckE c d y=true→XJ am n q F c d y) (h:ckE c (.setdef o a d) x=true):XJ am n q F c (.setdef o a d) x:=by
 refine zbx (G:=XJ am n q F c (.setdef o a d)) h fun v xs p p' h2 hh=>?_;refine zbl (G:=fun xs=>XJ am n q F c (.setdef o a d) (.Call (.Attribute v "setdefault" p) xs [] p')) hh fun y z hh=>?_;exact⟨EJ.both (zjH (al hh) h2 (nt (al (ar (ar (ar (ar hh)))))) (nt (ar (ar (ar (ar (ar hh)))))) (Io _ (al (ar hh))).1.1 (Ia _ (al (ar (ar hh)))).1.1 (Id _ (al (ar (ar (ar hh))))).1.1) rfl,fun z=>by cases z⟩
theorem zri (Io:∀ y,ckE c o y=true→XJ am n q F c o y) (h:ckE c (.pop o) x=true):XJ am n q F c (.pop o) x:=by
 refine zbx (G:=XJ am n q F c (.pop o)) h fun v xs p p' h2 hh=>?_;refine zaI (G:=fun xs=>XJ am n q F c (.pop o) (.Call (.Attribute v "pop" p) xs [] p')) (ar (ar hh)) ?_;exact⟨EJ.both (zqb (al hh) h2 (Io _ (al (ar hh))).1.1) rfl,fun z=>by cases z⟩
theorem zrn (Io:∀ y,ckE c o y=true→XJ am n q F c o y) (Ia:∀ y,ckE c a y=true→XJ am n q F c a y) (Id:∀ y,ckE c d y=true→XJ am n q F c d y) (h:ckE c (.get o a d) x=true):XJ am n q F c (.get o a d) x:=by
 refine zbx (G:=XJ am n q F c (.get o a d)) h fun v xs p p' h2 hh=>?_;refine zbl (G:=fun xs=>XJ am n q F c (.get o a d) (.Call (.Attribute v "get" p) xs [] p')) hh fun y z hh=>?_;exact⟨EJ.both (zqf (al hh) h2 (nt (al (ar (ar (ar (ar hh)))))) (nt (ar (ar (ar (ar (ar hh)))))) (Io _ (al (ar hh))).1.1 (Ia _ (al (ar (ar hh)))).1.1 (Id _ (al (ar (ar (ar hh))))).1.1) rfl,fun z=>by cases z⟩
theorem znZ (Ia:∀ y,ckE c a y=true→XJ am n q F c a y) (Ib:∀ y,ckE c b y=true→XJ am n q F c b y) (h:ckE c (.dict1 a b) x=true):XJ am n q F c (.dict1 a b) x:=by
 refine zgZ (G:=XJ am n q F c (.dict1 a b)) h fun ks vs p hh=>?_;refine zan (G:=fun ks=>XJ am n q F c (.dict1 a b) (.Dict ks vs p)) hh fun k hh=>?_;refine zaS (G:=fun k=>XJ am n q F c (.dict1 a b) (.Dict [k] vs p)) hh fun k hh=>?_;refine zan (G:=fun vs=>XJ am n q F c (.dict1 a b) (.Dict [some k] vs p)) hh fun v hh=>?_;exact⟨EJ.both (zlC (Ia _ (al hh)).1.1 (Ib _ (ar hh)).1.1) rfl,fun z=>by cases z⟩
theorem zje {q:Bool}{c:Ck}{x:Expr}(h:ckE c .newDict x=true):XJ am n q F c .newDict x:=by
 refine zgZ (G:=XJ am n q F c .newDict) h fun ks vs p hh=>?_;refine zaI (G:=fun ks=>XJ am n q F c .newDict (.Dict ks vs p)) (al hh) ?_;refine zaI (G:=fun vs=>XJ am n q F c .newDict (.Dict [] vs p)) (ar hh) ?_;exact⟨EJ.both zhH rfl,fun z=>by cases z⟩
mutual
theorem zac (q:Bool):∀ (c:Ck) (e:PE) (x:Expr),ckE c e x=true→XJ am n q F c e x
 |c,.none,x,h=>zpJ  h
 |c,.bool b,x,h=>zpP  h
 |c,.int i,x,h=>zrl  h
 |c,.str t,x,h=>zrg  h
 |c,.v i,x,h=>zre  h
 |c,.glob g i,x,h=>zpL  h
 |c,.bin op a b,x,h=>zrp (zac q c a) (zac q c b) h
 |c,.neg i,x,h=>zrk  h
 |c,.not a,x,h=>zrj (zac q c a) h
 |c,.and es,x,h=>zrq (zck q c es) h
 |c,.or es,x,h=>zr4 (zck q c es) h
 |c,.cmp op a b,x,h=>zro (zac q c a) (zac q c b) h
 |c,.cmp2 o1 o2 a b d,x,h=>zpN (zac q c a) (zac q c b) (zac q c d) h
 |c,.list es,x,h=>zpK (zck q c es) h
 |c,.tup es,x,h=>zrf (zck q c es) h
 |c,.idx a i,x,h=>zrm (zac q c a) (zac q c i) h
 |c,.slice a lo hi,x,h=>znW (zac q c a) (zmA q c lo) (zmA q c hi) h
 |c,.rev a,x,h=>zrh (zac q c a) h
 |c,.isinst a ts,x,h=>zlf (zac q c a) h
 |c,.isexc i t,x,h=>znY  h
 |c,.callX f i,x,h=>zn0  h
 |c,.bf f a,x,h=>zr5 (zac q c a) h
 |c,.comp elt i it cond,x,h=>zpM (fun c=>zac true c elt) (zgf c it) (fun c=>zmB c cond) h
 |c,.call k f args,x,h=>zpO (zck q c args) h
 |c,.own a,x,h=>by
  obtain⟨h0,h⟩:=yK.mp h;obtain⟨h1,h2⟩:=(zac q c a x h).2 h0;exact⟨h1.both h2,fun z=>by cases z⟩
 |c,.newDict,x,h=>zje h
 |c,.append o a,x,h=>zlg (zac q c o) (zac q c a) h
 |c,.remove o a,x,h=>zle (zac q c o) (zac q c a) h
 |c,.pop o,x,h=>zri (zac q c o) h
 |c,.popAt o a,x,h=>znX (zac q c o) (zac q c a) h
 |c,.get o a d,x,h=>zrn (zac q c o) (zac q c a) (zac q c d) h
 |c,.setdef o a d,x,h=>zld (zac q c o) (zac q c a) (zac q c d) h
 |c,.dict1 a b,x,h=>znZ (zac q c a) (zac q c b) h
theorem zck (q:Bool):∀ (c:Ck) (es:List PE) (xs:List Expr),ckEs c es xs=true→AllJ am n q F c es xs
 |c,[],xs,h=>zaI (G:=fun xs=>AllJ am n q F c [] xs) h trivial
 |c,e::es,xs,h=>by
  cases xs with
  |nil=>cases h
  |cons x xs =>
   have h:(!isStar x&&(ckE c e x&&ckEs c es xs))=true:=h;exact⟨⟨nt (al h),(zac q c e x (al (ar h))).1⟩,zck q c es xs (ar (ar h))⟩
theorem zmA (q:Bool):∀ (c:Ck) (e:Option PE) (x:Option Expr),ckO c e x=true→OptJ am n q F c e x
 |c,none,x,h=>zbU (G:=fun x=>OptJ am n q F c none x) h trivial
 |c,some e,x,h=>zaS (G:=fun x=>OptJ am n q F c (some e) x) h fun x h=>show EJ am n q F c e x from fun {cx ρ A res π Hc s}=>(zac q c e x h).1.1
theorem zmB:∀ (c:Ck) (e:Option PE) (xs:List Expr),ckC c e xs=true→CJ am n F c e xs
 |c,none,xs,h=>zaI (G:=fun xs=>CJ am n F c none xs) h zou
 |c,some e,xs,h=>zan (G:=fun xs=>CJ am n F c (some e) xs) h fun y h=>zot (zac true c e _ h).1.2
theorem zgf:∀ (c:Ck) (it:PIt) (x:Expr),ckIt c it x=true→ItJ am n F c it x
 |c,.seq e,x,h=>by
  have hp:=(zac true c e _ h).1;exact zpT hp.1
 |c,.range1 a,x,h=>by
  refine zay (G:=ItJ am n F c (.range1 a)) h fun xs p p' hh=>?_;refine zan (G:=fun xs=>ItJ am n F c (.range1 a) (.Call (.Name "range" p) xs [] p')) hh fun y hh=>?_;have hp:=(zac true c a _ (ar hh)).1;exact fun {cx ρ A res π Hc s}=>zjj (al hh) (zaz (ar hh)) hp.1
 |c,.range2 a b,x,h=>by
  refine zay (G:=ItJ am n F c (.range2 a b)) h fun xs p p' hh=>?_;refine zbl (G:=fun xs=>ItJ am n F c (.range2 a b) (.Call (.Name "range" p) xs [] p')) hh fun y y' hh=>?_;have hp:=(zac true c a _ (al (ar hh))).1;have hp2:=(zac true c b _ (ar (ar hh))).1;exact fun {cx ρ A res π Hc s}=>zji (al hh) (zaz (al (ar hh))) (zaz (ar (ar hh))) hp.1 hp2.1
 |c,.range3 a b d,x,h=>by
  refine zay (G:=ItJ am n F c (.range3 a b d)) h fun xs p p' hh=>?_;refine zie (G:=fun xs=>ItJ am n F c (.range3 a b d) (.Call (.Name "range" p) xs [] p')) hh fun y z w hh=>?_;have ha:=(zac true c a _ (al (ar hh))).1;have hb:=(zac true c b _ (al (ar (ar hh)))).1;have hd:=(zac true c d _ (ar (ar (ar hh)))).1;have hs:∀ e∈[y,z,w],isStar e=false:=List.forall_mem_cons.mpr ⟨zaz (al (ar hh)),List.forall_mem_cons.mpr ⟨zaz (al (ar (ar hh))),List.forall_mem_cons.mpr ⟨zaz (ar (ar (ar hh))),fun u h=>by cases h⟩⟩⟩
  exact fun {cx ρ A res π Hc s}=>zjh (al hh) hs ha.1 hb.1 hd.1
end
end
structure Frm (am:Amb) (cx:Cx) (outer:List Env) (s₀:Shared):Prop where
 top:cx.sk=cx.env::outer∧cx.env.frame=some cx.env.locals
 res:cx.env.locals∈am.res
 base:am.B.get? cx.env.locals=none
 fresh:s₀.heap.get? cx.env.locals=none
 cell:∀ y c,cx.env.cells.lookup y=some c→c∈am.res∧am.B.get? c=none∧s₀.heap.get? c=none
theorem Frm.fs (f:Frm am cx outer s₀):Fs cx.sk=cx.env.locals::Fs outer:=by
 obtain⟨h1,h2⟩:=f.top;rw[h1];simp[Fs,h2]
theorem Step.inn (f:Frm am cx outer s₀) (x:Step (Fs outer) π₀ s₀ π s) (y:Step (Fs cx.sk) π s π' s'):Step (Fs outer) π₀ s₀ π' s':=by
 rw[f.fs] at y;refine⟨?_,⟨fun a o e h1 h2=>?_,fun a o e h1=>?_,fun a o e=>?_⟩,?_⟩
 ·obtain⟨h',tk,e⟩:=x.same
  obtain⟨h'',tk',e'⟩:=y.same;exact⟨h'',tk',by rw[e',e]⟩
 ·refine y.ext.keep a o (x.ext.keep a o e h1 h2) (x.notin e h1) ?_
  rw[zN,not_or];exact⟨(fun q=>by subst q;rw[f.fresh] at e;cases e),h2⟩
 ·obtain⟨sl,h3⟩:=x.ext.slots a o e h1
  obtain⟨sl',h4⟩:=y.ext.slots a _ h3 (x.notin e h1);exact⟨sl',h4⟩
 ·obtain⟨o',h3⟩:=x.ext.alive a o e
  exact y.ext.alive a o' h3
 ·obtain⟨δ,rfl,hδ⟩:=x.grow
  obtain⟨δ',rfl,hδ'⟩:=y.grow;refine⟨δ++δ',by simp,fun a ha=>?_⟩
  rcases zP.mp ha with h1|h1
  ·exact hδ a h1
  ·cases hq:s₀.heap.get? a with
   |none=>rfl
   |some o =>
    obtain⟨o',h3⟩:=x.ext.alive a o hq;have:=hδ' a h1;rw[h3] at this;cases this
theorem zbr (f:Frm am cx outer s₀) (x:Step (Fs outer) π₀ s₀ π s):(ground outer π₀ s₀.heap).StaysIn (ground cx.sk π s.heap):=by
 intro b o e;have h1:=of_hideAll _ e;have hn:b ∉ π₀++Fs outer:=fun hm=>by rw[hideAll_none _ hm] at e;cases e
 rw[zP,not_or] at hn;refine hideAll_get _ (x.ext.keep b o h1 hn.1 hn.2) ?_;rw[zP,not_or,f.fs,zN,not_or];exact⟨x.notin h1 hn.1,(fun q=>by subst q;rw[f.fresh] at h1;cases h1),hn.2⟩
def FlR (am:Amb) (π:List Addr) (h:Heap):Fl→Flow→Prop
 |.next,f=>f=.next
 |.ret v,f=>∃ x,f=.ret x∧VR am π h v x
inductive SOk (am:Amb) (cx:Cx) (outer:List Env) (q:Bool) (A:Around) (π₀:List Addr) (s₀:Shared) (G:List Addr→Shared→Prop) (r:RS) (f:Flow) (s':Shared):Prop
 |mk (fl:Fl) (ρ':List V) (H':H) (π':List Addr) (h1:r=.ok fl ρ' H') (h2:Step (Fs outer) π₀ s₀ π' s') (h3:St am q cx ρ' π' H' A s') (h4:q=true→NoExc ρ') (h5:FlR am π' s'.heap fl f) (h6:G π' s')
inductive SEr (am:Amb) (cx:Cx) (outer:List Env) (q:Bool) (A:Around) (π₀:List Addr) (s₀:Shared) (r:RS) (x:Value) (s':Shared):Prop
 |mk (c:String) (ρ':List V) (H':H) (π':List Addr) (e C:Addr) (fl:Option Value) (h1:r=.err c ρ' H') (h2:x=.ref e) (h3:am.mg (Str.ofString c)=some (.ref C)) (h4:Step (Fs outer) π₀ s₀ π' s') (h5:St am q cx ρ' π' H' A s') (h6:q=true→NoExc ρ') (h7:XAt (ground outer π₀ s₀.heap) s'.heap e (.ref C) fl)
noncomputable def SP (am:Amb) (cx:Cx) (outer:List Env) (q:Bool) (A:Around) (π₀:List Addr) (s₀:Shared) (G:List Addr→Shared→Prop) (T:PT Flow) (r:RS) (s:Shared):Prop :=
 r=.bad∨T (SOk am cx outer q A π₀ s₀ G r) (SEr am cx outer q A π₀ s₀ r) s
section
variable {am:Amb}{n:Nat}{q:Bool}{F:Fn}{c:Ck}{cx:Cx}{ρ:List V}{A:Around}{res:List Addr}{outer:List Env}{π₀:List Addr}{s₀:Shared}{G:List Addr→Shared→Prop}{π:List Addr}{Hc:H}{s:Shared}
structure Stm (am:Amb) (n:Nat) (q:Bool) (F:Fn) (c:Ck) (cx:Cx) (A:Around) (res:List Addr) (outer:List Env) (π₀:List Addr) (s₀:Shared) (G:List Addr→Shared→Prop) (ρ:List V) (π:List Addr) (Hc:H) (s:Shared):Prop where
 b:Base am n q F c cx ρ A
 f:Frm (am.at res) cx outer s₀
 go:Step (Fs outer) π₀ s₀ π s
 st:St (am.at res) q cx ρ π Hc A s
 low:am.B.StaysIn (ground outer π₀ s₀.heap)
 g:G π s
 gk:∀ π s π' s',G π s→Mv res (Fs cx.sk) π s π' s'→G π' s'
theorem Base.set (b:Base am n q F c cx ρ A) (h:q=true→NoExc ρ'):Base am n q F c cx ρ' A:=⟨b.ok,b.fn,b.ck,b.cxk,b.as,h⟩
theorem Stm.step (x:Stm am n q F c cx A res outer π₀ s₀ G ρ π Hc s) (y:Step (Fs cx.sk) π s π' s') (hr:HR (am.at res) cx.sk π' H' s'.heap):Stm am n q F c cx A res outer π₀ s₀ G ρ π' H' s' :=
 ⟨x.b,x.f,x.go.inn x.f y,x.st.step y hr,x.low,x.gk _ _ _ _ x.g (.of y),x.gk⟩
theorem sbindT {α β:Type}{T0:PT α}(hT0:PT.Mono T0){r:R β}{Rel:List Addr→Heap→β→α→Prop}{g:β→H→RS}{T:α→PT Flow}(x:Stm am n q F c cx A res outer π₀ s₀ G ρ π Hc s) (h1:JT (am.at res) cx.sk T0 r Rel π s)
  (h2:∀ a b H' π' s',r=.ok b H'→Stm am n q F c cx A res outer π₀ s₀ G ρ π' H' s'→Rel π' s'.heap b a→SP (am.at res) cx outer q A π₀ s₀ G (T a) (g b H') s') :
  SP (am.at res) cx outer q A π₀ s₀ G (fun Q E s=>T0 (fun a s₁=>T a Q E s₁) E s) (r.st ρ g) s:=by
 rcases h1 with rfl|h1
 ·exact .inl rfl
 ·cases r with
  |bad=>exact .inl rfl
  |err d H' =>
   refine .inr (hT0 _ _ _ _ _ (fun a s' h=>?_) (fun e s' h=>?_) h1)
   ·obtain⟨_,_,_,h,_⟩:=h;cases h
   ·refine hold fun z k_=>?_
    obtain⟨c',H'',π',e',C,fl,h,h2,h3,h4,h5,h6⟩:=h;refine k_ ?_
    cases h
    have y:=x.step h4 h5;exact⟨d,ρ,H',π',e',C,fl,rfl,h2,h3,y.go,y.st,x.b.ne,h6.mono (zbr x.f x.go)⟩
  |ok b H' =>
   by_cases hb:g b H'=.bad
   ·exact .inl hb
   ·refine .inr (hT0 _ _ _ _ _ (fun a s' h=>?_) (fun e s' h=>?_) h1)
    ·refine hold fun z k_=>?_
     obtain⟨b',H'',π',h,h3,h4,h5⟩:=h;refine k_ ?_
     cases h
     rcases h2 a b H' π' s' rfl (x.step h3 h4) h5 with h6|h6
     ·exact absurd h6 hb
     ·exact h6
    ·obtain⟨_,_,_,_,_,_,h,_⟩:=h;cases h
theorem sbind {α β:Type}{m:Sem α}{r:R β}{Rel:List Addr→Heap→β→α→Prop}{g:β→H→RS}{T:α→PT Flow}(x:Stm am n q F c cx A res outer π₀ s₀ G ρ π Hc s) (h1:JAt (am.at res) cx.sk A m r Rel π s)
  (h2:∀ a b H' π' s',r=.ok b H'→Stm am n q F c cx A res outer π₀ s₀ G ρ π' H' s'→Rel π' s'.heap b a→SP (am.at res) cx outer q A π₀ s₀ G (T a) (g b H') s') :
  SP (am.at res) cx outer q A π₀ s₀ G (fun Q E s=>wpAny am.M A m (fun a s₁=>T a Q E s₁) E s) (r.st ρ g) s :=
 sbindT (PT.wp _ _) x h1 h2
theorem SP.rule (h:SP am cx outer q A π₀ s₀ G T r s) (k:∀ Q E,T Q E s→T' Q E s):SP am cx outer q A π₀ s₀ G T' r s:=by
 rcases h with h|h
 ·exact .inl h
 ·exact .inr (k _ _ h)
theorem ER.setLocal {am:Amb}{cx:Cx}{ρ:List V}{π:List Addr}{h h':Heap}{v:Str}{i:Nat}{w:V}{xo:Option Value}{m:Str→Option Value}(er:ER am cx ρ π h) (hm:h.Ns cx.env.locals m) (hn':h'.Ns cx.env.locals (fun y=>if y=v then xo else m y)) (p:Poke cx.env.locals h h') (hres:cx.env.locals∈am.res)
  (hv:cx.ctx.lookup v=some i) (hkl:cx.env.kindOf v=some .local) (uniq:∀ z,cx.ctx.lookup z=some i→z=v) (hw:w≠.uu→∃ xv,xo=some xv∧SR am π h' w xv):ER am cx (ρ.set i w) π h':=by
 have hlt:∀ u,(ρ.set i w)[i]?=some u→u=w:=fun u hu=>by
  have hl:i < ρ.length:=by have:=(List.getElem?_eq_some_iff.mp hu).1;simpa using this
  rw[List.getElem?_set_self hl] at hu;cases hu;rfl
 refine⟨⟨_,hn'⟩,er.locOff,fun z d hd=>?_,er.apart,fun z j u e1 e2 e3 e4=>?_⟩
 ·refine hold fun t k_=>?_
  obtain⟨a1,a2,u,o,ho,r⟩:=er.cellOff z d hd;refine k_ ?_;exact⟨a1,a2,u,o,p d o a2 ho,r⟩
 ·by_cases hj:j=i
  ·subst hj
   have:=uniq z e1;subst this;have:=hlt u e2;subst this;obtain⟨xv,rfl,hs⟩:=hw e3;exact⟨xv,.inl ⟨hkl,_,hn',by simp⟩,hs⟩
  ·have hz:z≠v:=fun q=>by subst q;rw[hv] at e1;cases e1;exact hj rfl
   rw[List.getElem?_set_ne (Ne.symm hj)] at e2;obtain⟨x',e5,e6⟩:=er.var z j u e1 e2 e3 e4;refine⟨x',?_,?_⟩
   ·rcases e5 with⟨k,m',e7,e8⟩|⟨k,d,e7,o,ho,r⟩
    ·refine .inl ⟨k,_,hn',?_⟩
     have hmm:m z=m' z:=by
      refine hold fun t k_=>?_;obtain⟨o1,es1,ep1,a1,a2,a3,a4⟩:=hm;refine k_ ?_;refine hold fun t k_=>?_;obtain⟨o2,es2,ep2,b1,b2,b3,b4⟩:=e7;refine k_ ?_;rw[a1] at b1;cases b1;rw[a2] at b2;cases b2
      rw[←a4 z,← b4 z]
     simp only[hz,if_false];rw[hmm];exact e8
    ·exact .inr ⟨k,d,e7,o,p d o (er.cellOff z d e7).2.1 ho,r⟩
   ·rcases e6 with e6|⟨d,a,f1,f2,f3,C',o,vs,g1,g2,g3,g4,g5⟩
    ·exact .inl (e6.free fun b o hb z=>p b o (fun q=>hb (q ▸ hres)) z)
    ·exact .inr ⟨d,a,f1,f2,f3,C',o,vs,g1,p a o (fun q=>(zf0 (Ns.nf hm) g2 g4) q.symm) g2,g3,g4,g5⟩
theorem zgJ {c:Ck}{cx:Cx}{v:Str}{i:Nat}(ck:CkR am c cx) (h1:c.ctx.lookup v=some i) (hinj:(c.ctx.map (·.2)).Nodup):∀ z,cx.ctx.lookup z=some i→z=v:=by
 intro z hz;rw[ck.ctx] at hz;have a1:=zar hz;have a2:=zar h1;have:∀ (l:List (Str × Nat)),(l.map (·.2)).Nodup→(z,i)∈l→(v,i)∈l→z=v:=by
  intro l
  induction l with
  |nil=>intro _ h _;simp at h
  |cons p l ih =>
   intro hn hz hy;rw[yY,yZ] at hn
   rcases zN.mp hz with hz1|hz2
   ·rcases zN.mp hy with hy1|hy2
    ·rw[←hz1] at hy1;cases hy1;rfl
    ·exact absurd (yQ.mpr ⟨(v,i),hy2,by rw[←hz1]⟩:p.2∈l.map (·.2)) hn.1
   ·rcases zN.mp hy with hy1|hy2
    ·exact absurd (yQ.mpr ⟨(z,i),hz2,by rw[←hy1]⟩:p.2∈l.map (·.2)) hn.1
    ·exact ih hn.2 hz2 hy2
 exact this _ hinj a1 a2
set_option tactic.hygienic true in
theorem zb6 (x:Stm am n q F c cx A res outer π₀ s₀ G ρ π Hc s){y:Str}{i:Nat}{v:V}{xv:Value}(hv:VR (am.at res) π s.heap v xv) (hy:c.var y i=true) (hk:c.names.lookup y≠some .free) (hinj:(c.ctx.map (·.2)).Nodup){Q:Unit→Shared→Prop}{E:Value→Shared→Prop}
  (h:∀ s',Stm am n q F c cx A res outer π₀ s₀ G (ρ.set i v) π Hc s'→(∀ C,s₀.heap.get? C=none→C≠cx.env.locals→(∀ z d,cx.env.cells.lookup z=some d→d≠C)→∀ o,s.heap.get? C=some o→s'.heap.get? C=some o)→(∀ b o,b ∉ (am.at res).res→s.heap.get? b=some o→s'.heap.get? b=some o)→Q () s') :
  wpAny am.M A (storeName cx.env y xv) Q E s:=by
 unfold Ck.var at hy;simp only[Bool.and_eq_true,beq_iff_eq,Bool.not_eq_true'] at hy;refine hold fun t k_=>?_;obtain⟨⟨⟨h1,h2⟩,h3⟩,h4⟩:=hy;refine k_ ?_;have ne':q=true→NoExc (ρ.set i v):=fun hq=>(x.b.ne hq).set hv.noexc;have uniq:=zgJ x.b.ck h1 hinj;have excOff:∀ {d:String}{a C:Addr}{h':Heap},ExcAt (am.at res) s.heap d a→(∃ o,s.heap.get? C=some o∧∀ us,o.data≠.fields us)→Poke C s.heap h'→ExcAt (am.at res) h' d a:=by
  intro d a C h' e hC p;refine hold fun t k_=>?_;obtain⟨C',o,vs,e1,e2,e3,e4,e5,e6⟩:=e;refine k_ ?_;exact⟨C',o,vs,e1,p a o (fun q=>(zf0 hC e2 e4) q.symm) e2,e3,e4,e5,e6⟩
 have hdOff:∀ {C:Addr}{h':Heap},(∃ o,s.heap.get? C=some o∧∀ us,o.data≠.fields us)→Poke C s.heap h'→Hd q A π (Fs cx.sk) h':=by
  intro C h' hC p;have e:=x.st.hd;unfold Hd at e ⊢
  split
  ·rename_i hq;rw[zT hq] at e;exact e
  ·rename_i hq
   rw[zR hq] at e;refine hold fun t k_=>?_;obtain⟨he,o,vs,e1,e2,e3,e4,e5,e6⟩:=e;refine k_ ?_;exact⟨he,o,vs,e1,e2,e3,p he o (fun q=>(zf0 hC e4 e5) q.symm) e4,e5,e6⟩
 have main:∀ (C:Addr) (h':Heap) (tk:Nat),C∈(am.at res).res→(am.at res).B.get? C=none→C ∉ π→s₀.heap.get? C=none→(∃ o,s.heap.get? C=some o∧∀ us,o.data≠.fields us)→(∃ o,h'.get? C=some o∧∀ us,o.data≠.fields us)→Poke C s.heap h' →
   ER (am.at res) cx (ρ.set i v) π h'→Stm am n q F c cx A res outer π₀ s₀ G (ρ.set i v) π Hc { s with heap:=h',toks:=tk }:=by
  intro C h' tk c1 c2 c3 c4 c5 c6 p er;exact⟨x.b.set ne',x.f,x.go.poke c4 p,⟨x.st.hr.freed c1 c2 c3 p c6,er,hdOff c5 p⟩,x.low,x.gk _ _ _ _ x.g (Mv.poke (.of (Step.refl _ _ _)) (.inl ⟨c1,let ⟨o,ho,_⟩:=c6;⟨o,ho⟩⟩) p),x.gk⟩
 have srOff:∀ {C:Addr}{h':Heap}{w:V}{u:Value},C∈(am.at res).res→(∃ o,s.heap.get? C=some o∧∀ us,o.data≠.fields us)→Poke C s.heap h'→SR (am.at res) π s.heap w u→SR (am.at res) π h' w u:=by
  intro C h' w u c1 c5 p e
  rcases e with e|⟨d,a,e1,e2,e3,e4⟩
  ·exact .inl (e.free fun b o hb z=>p b o (fun q=>hb (q ▸ c1)) z)
  ·exact .inr ⟨d,a,e1,e2,e3,excOff e4 c5 p⟩
 have hvis:cx.env.kindOf y=some .local∨cx.env.kindOf y=some .cell:=by
  rw[zdj x.b.ck];unfold zfz at h2;simp only[Bool.or_eq_true,beq_iff_eq] at h2
  rcases h2 with(h2|h2)|h2
  ·exact .inl h2
  ·exact .inr h2
  ·exact absurd h2 hk
 have hlt:∀ w,(ρ.set i v)[i]?=some w→w=v:=fun w hw=>by
  have hl:i < ρ.length:=by have:=(List.getElem?_eq_some_iff.mp hw).1;simpa using this
  rw[List.getElem?_set_self hl] at hw;cases hw;rfl
 have er:=x.st.er
 rcases hvis with hkl|hkc
 ·obtain⟨m,hm⟩:=er.ns
  refine wpAny_storeName_local hkl hm (fun h' hn' sb=>?_) (by simp[x.b.cxk.kind])
  have p:Poke cx.env.locals s.heap h':=fun b o hb e=>sb.extBut b o hb e;exact h _ (main cx.env.locals h' (s.toks+1) x.f.res x.f.base er.locOff x.f.fresh (Ns.nf hm) (Ns.nf hn') p (ER.setLocal (am:=am.at res) er hm hn' p x.f.res (by rw[x.b.ck.ctx];exact h1) hkl uniq fun t=>⟨xv,rfl,.inl (hv.free fun b o hb z=>p b o (fun q=>hb (q ▸ x.f.res)) z)⟩)) (fun C t hC t o ho=>p C o hC ho) (fun b o hb e=>p b o (fun q=>hb (q ▸ x.f.res)) e)
 ·obtain⟨d,hd⟩:=x.b.cxk.clos y (.inl hkc)
  refine hold fun t k_=>?_;obtain⟨a1,a2,u,hcell⟩:=er.cellOff y d hd;refine k_ ?_;obtain⟨f1,f2,f3⟩:=x.f.cell y d hd;have nfc:∀ {h:Heap}{u:Option Value},h.IsCell d u→∃ o,h.get? d=some o∧∀ us,o.data≠.fields us:=fun {h u} hc=>let ⟨o,ho,hdd⟩:=hc;⟨o,ho,fun us q=>by rw[hdd] at q;cases q⟩
  refine wpAny_storeName_cell x.b.cxk.kind hkc hd hcell fun h' hc' sb=>?_;have p:Poke d s.heap h':=fun b o hb e=>sb.extBut b o hb e;refine h _ (main d h' s.toks f1 f2 a1 f3 (nfc hcell) (nfc hc') p ?_) (fun C t t hC o ho=>p C o (fun q=>hC y d hd q.symm) ho) (fun b o hb e=>p b o (fun q=>hb (q ▸ f1)) e);obtain⟨m,hm⟩:=er.ns;refine⟨⟨m,Ns.at hm fun o e=>p _ o (Ne.symm a2) e⟩,er.locOff,fun z d' hd'=>?_,er.apart,fun z j w e1 e2 e3 e4=>?_⟩
  ·refine hold fun t k_=>?_
   obtain⟨b1,b2,u',o,ho,r⟩:=er.cellOff z d' hd';refine k_ ?_
   by_cases hdd:d'=d
   ·subst hdd;exact⟨b1,b2,_,hc'⟩
   ·exact⟨b1,b2,u',o,p d' o hdd ho,r⟩
  ·by_cases hj:j=i
   ·subst hj
    have:=uniq z e1;subst this;have:=hlt w e2;subst this;exact⟨xv,.inr ⟨.inl hkc,d,hd,hc'⟩,.inl (hv.free fun b o hb z=>p b o (fun q=>hb (q ▸ f1)) z)⟩
   ·have hz:z≠y:=fun q=>by
     subst q;rw[x.b.ck.ctx,h1] at e1;cases e1;exact hj rfl
    rw[List.getElem?_set_ne (Ne.symm hj)] at e2;obtain⟨u',e5,e6⟩:=er.var z j w e1 e2 e3 e4;refine⟨u',?_,srOff f1 (nfc hcell) p e6⟩
    rcases e5 with⟨k,m',e7,e8⟩|⟨k,d',e7,o,ho,r⟩
    ·exact .inl ⟨k,m',Ns.at e7 fun o e=>p _ o (Ne.symm a2) e,e8⟩
    ·have hdd:d'≠d:=fun q=>hz (er.apart z y d (q ▸ e7) hd)
     exact .inr ⟨k,d',e7,o,p d' o hdd ho,r⟩
end
theorem zh9 {am am':Amb}(k:∀ a,a∈am'.res→a∈am.res){π:List Addr}{h:Heap}:Via am am' π π h h:=⟨fun a o ho z h1 h2=>⟨⟨o.slots,ho⟩,h1,fun q=>h2 (k a q)⟩,fun z z e=>e⟩
theorem VR.sub {am am':Amb}(k:∀ a,a∈am'.res→a∈am.res){π:List Addr}{h:Heap}{v:V}{y:Value}(e:VR am π h v y):VR am' π h v y:=e.via (zh9 k)
theorem VRs.sub {am am':Amb}(k:∀ a,a∈am'.res→a∈am.res){π:List Addr}{h:Heap}{vs:List V}{ys:List Value}(e:VRs am π h vs ys):VRs am' π h vs ys:=e.via (zh9 k)
theorem HR.sub {am:Amb}{r r':List Addr}(k:∀ a,a∈r'→a∈r){sk:List Env}{π:List Addr}{Hc:H}{h:Heap}(x:HR (am.at r) sk π Hc h):HR (am.at r') sk π Hc h :=
 ⟨x.base,x.frames,x.len,x.nodup,fun a ha=>x.res a (k a ha),x.off,fun i c a h1 h2=>by
  obtain⟨o,xs,e0,e1,e2,e3⟩:=x.cell i c a h1 h2;exact⟨o,xs,e0,e1,e2,e3.sub k⟩⟩
section
variable {am:Amb}{n:Nat}{q:Bool}{F:Fn}{c:Ck}
def SJ (am:Amb) (n:Nat) (q:Bool) (F:Fn) (c:Ck) (p:PS) (x:Stmt):Prop:=∀ ⦃cx:Cx⦄ ⦃ρ:List V⦄ ⦃A:Around⦄ ⦃res:List Addr⦄ ⦃outer:List Env⦄ ⦃π₀:List Addr⦄ ⦃s₀:Shared⦄ ⦃G:List Addr→Shared→Prop⦄ ⦃π:List Addr⦄ ⦃Hc:H⦄ ⦃s:Shared⦄,
 Stm am n q F c cx A res outer π₀ s₀ G ρ π Hc s→SP (am.at res) cx outer q A π₀ s₀ G (fun Q E s=>wpAny am.M A (exec x cx.env) Q E s) (exS q F p ρ Hc) s
def SsJ (am:Amb) (n:Nat) (q:Bool) (F:Fn) (c:Ck) (ps:List PS) (xs:List Stmt):Prop:=∀ ⦃cx:Cx⦄ ⦃ρ:List V⦄ ⦃A:Around⦄ ⦃res:List Addr⦄ ⦃outer:List Env⦄ ⦃π₀:List Addr⦄ ⦃s₀:Shared⦄ ⦃G:List Addr→Shared→Prop⦄ ⦃π:List Addr⦄ ⦃Hc:H⦄ ⦃s:Shared⦄,
 Stm am n q F c cx A res outer π₀ s₀ G ρ π Hc s→SP (am.at res) cx outer q A π₀ s₀ G (fun Q E s=>wpAny am.M A (execs xs cx.env) Q E s) (exSs q F ps ρ Hc) s
theorem SOk.here {G:List Addr→Shared→Prop}(x:Stm am n q F c cx A res outer π₀ s₀ G ρ π Hc s):SOk (am.at res) cx outer q A π₀ s₀ G (.ok .next ρ Hc) .next s :=
 ⟨.next,ρ,Hc,π,rfl,x.go,x.st,x.b.ne,rfl,x.g⟩
theorem zl7:SsJ am n q F c [] []:=fun cx ρ A res outer π₀ s₀ G π Hc s x=>by
 simp only[zqW,znp];exact .inr (wpAny_execs_nil (SOk.here x))
theorem ziw {G:List Addr→Shared→Prop}(x:Stm am n q F c cx A res outer π₀ s₀ G ρ π Hc s)
  (h1:SP (am.at res) cx outer q A π₀ s₀ G (fun Q E s=>wpAny am.M A (exec y cx.env) Q E s) (exS q F p ρ Hc) s)
  (h2:∀ ρ' π' H' s',Stm am n q F c cx A res outer π₀ s₀ G ρ' π' H' s'→SP (am.at res) cx outer q A π₀ s₀ G (fun Q E s=>wpAny am.M A (execs ys cx.env) Q E s) (exSs q F ps ρ' H') s') :
  SP (am.at res) cx outer q A π₀ s₀ G (fun Q E s=>wpAny am.M A (execs (y::ys) cx.env) Q E s) (exSs q F (p::ps) ρ Hc) s:=by
 rw[znp]
 rcases h1 with h|h
 ·exact .inl (by rw[h];rfl)
 ·cases hr:exS q F p ρ Hc with
  |bad=>exact .inl rfl
  |err d ρ' H' =>
   rw[hr] at h;refine .inr (wpAny_execs_cons (yV h (fun f s' z=>?_) fun e s' z=>z));obtain⟨_,_,_,_,z,_⟩:=z;cases z
  |ok fl ρ' H' =>
   rw[hr] at h
   cases fl with
   |ret v =>
    refine .inr (wpAny_execs_cons (yV h (fun f s' z=>?_) fun e s' z=>z));refine hold fun u k_=>?_;obtain⟨fl,ρ2,H2,π2,z1,z2,z3,z4,z5,zg⟩:=z;refine k_ ?_
    cases z1
    obtain⟨xv,rfl,z6⟩:=z5;exact⟨_,_,_,_,rfl,z2,z3,z4,⟨xv,rfl,z6⟩,zg⟩
   |next =>
    rw[RS.then_next]
    by_cases hb:exSs q F ps ρ' H'=.bad
    ·exact .inl hb
    ·refine .inr (wpAny_execs_cons (yV h (fun f s' z=>?_) fun e s' z=>?_))
     ·refine hold fun u k_=>?_
      obtain⟨fl,ρ2,H2,π2,z1,z2,z3,z4,z5,zg⟩:=z;refine k_ ?_
      cases z1
      cases z5
      rcases h2 ρ' π2 H' s' ⟨x.b.set z4,x.f,z2,z3,x.low,zg,x.gk⟩ with h3|h3
      ·exact absurd h3 hb
      ·exact h3
     ·obtain⟨_,_,_,_,_,_,_,z,_⟩:=z;cases z
theorem zm7 (h1:SJ am n q F c p y) (h2:SsJ am n q F c ps ys):SsJ am n q F c (p::ps) (y::ys):=fun cx ρ A res outer π₀ s₀ G π Hc s x=>ziw x (h1 x) fun z z z z x'=>h2 x'
theorem zo4:SJ am n q F c .pass (.Pass p):=fun cx ρ A res outer π₀ s₀ G π Hc s x=>by
 simp -iota only[zqZ];exact .inr (wpAny_Pass (SOk.here x))
theorem zqU {e:PE}{y:Expr}{p:Pos}(h:EJ am n q F c e y):SJ am n q F c (.ret e) (.Return (some y) p):=fun cx ρ A res outer π₀ s₀ G π Hc s x=>by
 simp -iota only[zrF];refine SP.rule (T:=fun Q E s=>wpAny am.M A (eval y cx.env) (fun v s₁=>Q (.ret v) s₁) E s) (sbind x (h x.b x.st) fun a b H' π' s' z x' hv=>.inr ⟨.ret b,ρ,H',π',rfl,x'.go,x'.st,x'.b.ne,⟨a,rfl,hv⟩,x'.g⟩) fun Q E h=>wpAny_Return_some h
theorem zrR {t:PE}{a b:List PS}{y:Expr}{ys zs:List Stmt}{p:Pos}(ht:TJ am n q F c t y) (ha:SsJ am n q F c a ys) (hb:SsJ am n q F c b zs):SJ am n q F c (.ifs t a b) (.If y ys zs p):=fun cx ρ A res outer π₀ s₀ G π Hc s x=>by
 have e:exS q F (.ifs t a b) ρ Hc=(tr (evE q F ρ t Hc)).st ρ fun v h=>if v then exSs q F a ρ h else exSs q F b ρ h:=by
  simp -iota only[zrT]
  cases evE q F ρ t Hc with
  |ok v h =>
   simp only[tr,R.bind_ok,R.st_ok]
   cases truthy v with
   |none=>rfl
   |some u=>cases u<;>rfl
  |_=>rfl
 rw[e];refine SP.rule (T:=fun Q E s=>wpAny am.M A (isTrue y cx.env (eval y cx.env)) (fun v s₁=>if v then wpAny am.M A (execs ys cx.env) Q E s₁ else wpAny am.M A (execs zs cx.env) Q E s₁) E s) (sbind x (ht x.b x.st) fun v b' H' π' s' z x' hv=>?_) fun Q E h=>wpAny_If h;unfold BR at hv;subst hv
 cases b' with
 |true=>exact ha x'
 |false=>exact hb x'
theorem zdc (h:CxOK cx):interactive cx.env=false:=by
 unfold interactive;simp[h.kind]
noncomputable def isCall (e:Expr):Bool:=@Expr.casesOn (fun z=>Bool) e (fun z z z=>false) (fun z z z=>false) (fun z z z z=>false) (fun z z z=>false) (fun z z z z=>false) (fun z z z z=>false) (fun z z z=>false) (fun z z z=>false) (fun z z z z=>false) (fun z z z z=>false) (fun z z z z z=>false) (fun z z z z=>false) (fun z z=>false) (fun z z=>false) (fun z z=>false) (fun z z z z=>false) (fun z z z z=>true) (fun z z z z=>false) (fun z z=>false) (fun z z z=>false) (fun z z z=>false) (fun z z z=>false) (fun z z=>false) (fun z z=>false) (fun z z=>false) (fun z z z=>false) (fun z z z z=>false)
theorem zo6 {e:PE}{y:Expr}{p:Pos}(hc:isCall y=true) (h:EJ am n q F c e y):SJ am n q F c (.expr e) (.Expr y p):=fun cx ρ A res outer π₀ s₀ G π Hc s x=>by
 simp -iota only[zrU];exact SP.rule (T:=fun Q E s=>wpAny am.M A (eval y cx.env) (fun z s₁=>Q .next s₁) E s) (sbind x (h x.b x.st) fun a b H' π' s' z x' hv=>.inr (SOk.here x')) fun Q E h=>wpAny_Expr_any h (zdc x.b.cxk) (by cases y<;>first|rfl|exact noB hc)
noncomputable def isComp (e:Expr):Bool:=@Expr.casesOn (fun z=>Bool) e (fun z z z=>false) (fun z z z=>false) (fun z z z z=>false) (fun z z z=>false) (fun z z z z=>false) (fun z z z z=>false) (fun z z z=>false) (fun z z z=>false) (fun z z z z=>true) (fun z z z z=>true) (fun z z z z z=>true) (fun z z z z=>false) (fun z z=>false) (fun z z=>false) (fun z z=>false) (fun z z z z=>false) (fun z z z z=>false) (fun z z z z=>false) (fun z z=>false) (fun z z z=>false) (fun z z z=>false) (fun z z z=>false) (fun z z=>false) (fun z z=>false) (fun z z=>false) (fun z z z=>false) (fun z z z z=>false)
theorem zcU (h:isComp y=false) (t:Option Expr) (l:Nat) (env:Env):swapsWith y t l env=pure false:=by
 cases y<;>first|rfl|exact noB h.symm
theorem zc5 {i:Nat}{e:PE}{y:Expr}{v:Str}{p p':Pos}(hv:c.var v i=true) (hk:c.names.lookup v≠some .free) (hinj:(c.ctx.map (·.2)).Nodup) (h:EJ am n q F c e y)
  {cx:Cx}{ρ:List V}{A:Around}{res:List Addr}{outer:List Env}{π₀:List Addr}{s₀:Shared}{G:List Addr→Shared→Prop}{π:List Addr}{Hc:H}{s:Shared}(x:Stm am n q F c cx A res outer π₀ s₀ G ρ π Hc s) (hs:swapsWith y (some (.Name v p')) p.line cx.env=pure false) :
  SP (am.at res) cx outer q A π₀ s₀ G (fun Q E s=>wpAny am.M A (exec (.Assign [.Name v p'] y p) cx.env) Q E s) (exS q F (.asg i e) ρ Hc) s:=by
 simp -iota only[zqY];refine SP.rule (T:=fun Q E s=>wpAny am.M A (eval y cx.env) (fun w s₁=>wpAny am.M A (storeName cx.env v w) (fun z=>Q .next) E s₁) E s) (sbind x (h x.b x.st) fun a b H' π' s' z x' hw=>?_) fun Q E h=>wpAny_Assign_Name h hs;exact .inr (zb6 x' hw hv hk hinj fun s'' x'' z z=>SOk.here x'')
end
section
variable {am:Amb}{A:Around}{s:Shared}
theorem zkE {Q:Unit→Shared→Prop}{E:Value→Shared→Prop}(pl:PL s.heap l xs) (hz:xs.length≤1000000) (hj:place xs.length k=some j)
  (h:Q () { s with heap:=s.heap.update l (Obj.mapSeq (·.setIfInBounds j v)) }):wpAny am.M A (setItem (.ref l) (.int k t) v) Q E s:=by
 refine hold fun z k_=>?_;obtain⟨o,n,ho,_,_,hd⟩:=id pl;obtain⟨h1,h2⟩:=zcE hj;refine k_ ?_;have hl:=pl.is.typeIs;have hx:(List.toArray xs)[j]?=some xs[j]:=by simp[h1]
 unfold setItem;refine yU ?_;refine yX (wpAny_sequenceKey hl (by decide) ?_)
 refine yX (wpAny_callSpecial?_slot (name:=Str.ofString "__setitem__") hl slot_list_setitem
  (wpAny_call_entry slot_list_setitem hl entry_list_setitem ?_ (args_list_setitem _ _ _)))
 show wpAny _ _ (Builtin.List.listSubscript? (.int k t) >>= _) _ _ s;refine yX (wpAny_listSubscript_int (by unfold Builtin.List.listFitsIndex;simp only[Bool.and_eq_true,decide_eq_true_eq];omega) ?_)
 rcases h2 with rfl|⟨h2,h3,h4⟩
 ·show wpAny _ _ ((seqItemAt l j >>= fun r=>pure (r.map (j,·))) >>= _) _ _ s
  refine yX (yX (wpAny_seqItemAt ho hd (yW ?_)));rw[hx];exact yX (wpAny_setSeqItemAt ho hd (yW ⟨.none,rfl,yW h⟩))
 ·have hidx:seqIndex? k xs.length=some j:=by rw[seqIndex_neg h2 h4,h3]
  obtain⟨i,rfl⟩:∃ i:Nat,k=Int.negSucc i:=by
   cases k with
   |ofNat n=>exact absurd h2 (Int.not_lt.mpr (Int.natCast_nonneg n))
   |negSucc n=>exact⟨n,rfl⟩
  show wpAny _ _ ((Builtin.List.listItems (.ref l) >>= fun xs=>pure ((seqIndex? (Int.negSucc i) xs.size).bind fun i=>xs[i]?.map (i,·))) >>= _) _ _ s;refine yX (yX ?_);show wpAny _ _ (seqItems? (.ref l) >>= _) _ _ s;refine yX (wpAny_seqItems ho hd (yW (yW ?_)));rw[size_toArray,hidx,Option.bind_some,hx];exact yX (wpAny_setSeqItemAt ho hd (yW ⟨.none,rfl,yW h⟩))
theorem zmM {sk:List Env}{π:List Addr}{Hc:H}{a b c:V}{x y w:Value}{H':H}{Q:Unit→Shared→Prop}{E:Value→Shared→Prop}(hr:HR am sk π Hc s.heap) (ha:VR am π s.heap a x) (hb:VR am π s.heap b y) (hc:VR am π s.heap c w) (he:lcell Hc a=true) (hs:seti Hc a b c=some H')
  (h:∀ s',Step (Fs sk) π s π s'→HR am sk π H' s'.heap→Q () s'):wpAny am.M A (setItem x y w) Q E s:=by
 refine hold fun z k_=>?_;obtain⟨i,l,vs,xs,rfl,rfl,hi,hH,pl,hz,hv⟩:=zbd hr ha he;refine k_ ?_;simp only[seti,hH] at hs
 cases b with
 |int k =>
  simp only at hs;obtain⟨j,hj,rfl⟩:=Option.map_eq_some_iff.mp hs;obtain⟨t,rfl⟩:=hb;have e:=hv.len;refine zkE pl (by omega) (by rw[e];exact hj) ?_
  have pl':=pl.update (·.setIfInBounds j w);have hp:=HR.put (tk:=s.toks) hr hi (vs:=vs.set j c) (by simpa using hz) (xs:=xs.set j w) (h':=s.heap.update l (Obj.mapSeq (·.setIfInBounds j w))) (fun b o h1 h2=>(Heap.SameBut.update ..).extBut b o h1 h2) (by simpa using pl') (hv.set j hc)
  exact h _ hp.1 hp.2
 |_=>cases hs
theorem zhm (hc:lcell h a=false) (hd:dcell h a=false):seti h a b c=Option.none:=by
 cases a with
 |ref r =>
  simp only[lcell] at hc;simp only[dcell] at hd;simp only[seti]
  cases hq:h[r]? with
  |none=>rfl
  |some k =>
   rw[hq] at hc
   cases k with
   |list vs=>cases hc
   |dict es=>rw[hq] at hd;cases hd
 |_=>rfl
end
section
variable {am:Amb}{n:Nat}{q:Bool}{F:Fn}{c:Ck}
theorem PT.wpv {α γ:Type}(M:Model) (m:Sem α) (f:α→γ):PT.Mono (fun(Q:γ→Shared→Prop) E s=>wpAny M A m (fun a s₁=>Q (f a) s₁) E s):=fun z z z z z h1 h2 h=>yV h (fun a s x=>h1 _ _ x) h2
theorem zit (y a b:Expr) (p:Pos) (l:Nat) (env:Env):swapsWith y (some (.Subscript a b p)) l env=pure false:=by cases y<;>rfl
theorem zkF {o i e:PE}{yo yi y:Expr}{p tp:Pos}(ho:EJ am n q F c o yo) (hi:EJ am n q F c i yi) (he:EJ am n q F c e y):SJ am n q F c (.setIdx o i e) (.Assign [.Subscript yo yi tp] y p):=fun cx ρ A res outer π₀ s₀ G π Hc s x=>by
 have shape:exS q F (.setIdx o i e) ρ Hc=((evE q F ρ e Hc).bind fun v h=>(evE q F ρ o h).bind fun x h=>(evE q F ρ i h).bind fun y h=>R.ok (v,x,y) h).st ρ fun t h=>match seti h t.2.1 t.2.2 t.1 with
   |some h=>.ok .next ρ h
   |Option.none=>.bad:=by
  rw[zqX]
  cases evE q F ρ e Hc with
  |ok v h =>
   simp only[R.st_ok,R.bind_ok]
   cases evE q F ρ o h with
   |ok v h =>
    simp only[R.st_ok,R.bind_ok]
    cases evE q F ρ i h<;>rfl
   |_=>rfl
  |_=>rfl
 rw[shape];refine SP.rule (T:=fun Q E s=>wpAny am.M A (eval y cx.env) (fun v s₁=>wpAny am.M A (eval yo cx.env) (fun ov s₂=>wpAny am.M A (eval yi cx.env) (fun iv s₃=>wpAny am.M A (setItem ov iv v) (fun z=>Q .next) E s₃) E s₂) E s₁) E s)
  (sbindT (T0:=fun Q E s=>wpAny am.M A (eval y cx.env) (fun v s₁=>wpAny am.M A (eval yo cx.env) (fun ov s₂=>wpAny am.M A (eval yi cx.env) (fun iv s₃=>Q (v,ov,iv) s₃) E s₂) E s₁) E s) (T:=fun t Q E s=>wpAny am.M A (setItem t.2.1 t.2.2 t.1) (fun z=>Q .next) E s) (PT.seq _ _ fun z=>PT.seq _ _ fun z=>PT.wpv _ _ _) x
   (Rel:=fun π h (b:V × V × V) (t:Value × Value × Value)=>VR (am.at res) π h b.1 t.1∧VR (am.at res) π h b.2.1 t.2.1∧VR (am.at res) π h b.2.2 t.2.2)
   (JT.bind (fun z=>PT.seq _ _ fun z=>PT.wpv _ _ _) (he x.b x.st) fun v b H1 π1 s1 z hs1 hr1 hv1=>JT.bind (fun z=>PT.wpv _ _ _) (ho x.b (x.st.step hs1 hr1)) fun ov b2 H2 π2 s2 z hs2 hr2 hv2 =>
    JT.bind (T:=fun iv Q E s=>Q (v,ov,iv) s) (fun z z z z z z h z y=>h _ _ y) (hi x.b ((x.st.step hs1 hr1).step hs2 hr2)) fun iv b3 H3 π3 s3 z hs3 hr3 hv3 =>
    .inr (OkP.here hr3 ⟨(hv1.step hs2).step hs3,hv2.step hs3,hv3⟩)) fun t b H' π' s' z x' hw=>?_) fun Q E h=>wpAny_Assign_Subscript h (zit _ _ _ _ _ _)
 obtain⟨h1,h2,h3⟩:=hw
 cases hl:lcell H' b.2.1 with
 |false =>
  cases hd:dcell H' b.2.1 with
  |false=>rw[zhm hl hd];exact .inl rfl
  |true =>
   cases hs:seti H' b.2.1 b.2.2 b.1 with
   |none=>exact .inl rfl
   |some H2=>exact .inr (zmN (am:=am.at res) x'.b.as x'.st.hr h2 h3 h1 hd hs fun s2 hs2 hr2=>SOk.here (x'.step hs2 hr2))
 |true =>
  cases hs:seti H' b.2.1 b.2.2 b.1 with
  |none=>exact .inl rfl
  |some H2=>exact .inr (zmM (am:=am.at res) x'.st.hr h2 h3 h1 hl hs fun s2 hs2 hr2=>SOk.here (x'.step hs2 hr2))
end
noncomputable def ckTg (c:Ck):List Nat→List Expr→Bool
 |[],ts=>ts.isEmpty
 |i::is,ts=>(match ts with|t::ts=>(xName t fun v=>c.var v i&&c.names.lookup v != some .free)&&ckTg c is ts|[]=>false)
section
variable {am:Amb}{n:Nat}{q:Bool}{F:Fn}{c:Ck}
theorem zig (h:ckTg c (i::is) ts=true):∃ v p ts',ts=.Name v p::ts'∧c.var v i=true∧c.names.lookup v≠some .free∧ckTg c is ts'=true:=by
 cases ts with
 |nil=>cases h
 |cons t ts =>
  have h:((xName t fun v=>c.var v i&&c.names.lookup v != some .free)&&ckTg c is ts)=true:=h;exact zba (G:=fun t=>∃ v p ts',t::ts=.Name v p::ts'∧c.var v i=true∧c.names.lookup v≠some .free∧ckTg c is ts'=true) (al h) fun v p h1=>⟨v,p,ts,rfl,al h1,bne_iff_ne.mp (ar h1),ar h⟩
theorem zif (h:ckTg c is ts=true):(assignEach ts env).length=is.length∧(assignEach ts env).findIdx? (·.1)=none:=by
 induction is generalizing ts with
 |nil=>cases ts with
  |nil=>exact⟨rfl,rfl⟩
  |cons _ _=>exact noB h
 |cons i is ih =>
  obtain⟨v,p,ts',rfl,_,_,h4⟩:=zig h;obtain⟨a,b⟩:=ih h4;refine⟨congrArg (·+1) a,?_⟩;show List.findIdx? (·.1) ((false,assign (.Name v p) env)::assignEach ts' env)=none;rw[List.findIdx?_cons,b];rfl
theorem zhn (h:setAll ρ is vs=some ρ'):is.length=vs.length:=by
 induction is generalizing vs ρ with
 |nil=>cases vs with
  |nil=>rfl
  |cons _ _=>exact no h
 |cons i is ih=>cases vs with
  |nil=>exact no h
  |cons v vs=>exact congrArg (·+1) (ih h)
variable {cx:Cx}{A:Around}{res:List Addr}{outer:List Env}{π₀:List Addr}{s₀:Shared}{G:List Addr→Shared→Prop}{π:List Addr}{Hc:H}
theorem zhU (hinj:(c.ctx.map (·.2)).Nodup){Q:Unit→Shared→Prop}{E:Value→Shared→Prop}(hQ:∀ s',Stm am n q F c cx A res outer π₀ s₀ G ρ' π Hc s'→Q () s')
  (h:ckTg c is ts=true) (X:Stm am n q F c cx A res outer π₀ s₀ G ρ π Hc s) (hv:VRs (am.at res) π s.heap vs xs) (hs:setAll ρ is vs=some ρ') :
   wpAny am.M A (assignInOrder ((assignEach ts cx.env).map (·.2)) xs) Q E s:=by
 induction is generalizing ts vs xs ρ s with
 |nil=>cases vs with
  |cons _ _=>exact no hs
  |nil =>
   cases hs
   cases ts with
   |nil=>exact yW (hQ s X)
   |cons _ _=>exact noB h
 |cons i is ih=>cases vs with
  |nil=>exact no hs
  |cons v vs =>
   obtain⟨x,xs',rfl,hx,hr⟩:=hv;obtain⟨y,p,ts',rfl,h1,h2,h3⟩:=zig h;show wpAny am.M A (do holding xs' (assign (.Name y p) cx.env x);assignInOrder ((assignEach ts' cx.env).map (·.2)) xs') Q E s
   refine yX (yU (wpAny_assign_Name (zb6 X hx h1 h2 hinj fun s' X' z hk=>?_)));exact ih h3 X' (hr.free hk) hs
theorem zo8 (hc:isComp y=false) (ht:y.ctorIdx≠25) (hts:ckTg c is ts=true) (hinj:(c.ctx.map (·.2)).Nodup) (h:EJ am n true F c e y) :
  SJ am n true F c (.asgT is e) (.Assign [.Tuple ts k tp] y p):=fun cx ρ A res outer π₀ s₀ G π Hc s x=>by
 have hs:swapsWithSole [.Tuple ts k tp] y p.line cx.env=pure false:=(rfl:_=swapsWith y (some (.Tuple ts k tp)) p.line cx.env).trans (zcU hc _ _ _);have hw:swappedStores [.Tuple ts k tp] y cx.env=pure none:=by
  cases y<;>first|rfl|exact absurd rfl ht
 refine SP.rule (T:=fun Q E s=>wpAny am.M A (eval y cx.env) (fun w s₁=>wpAny am.M A (assign (.Tuple ts k tp) cx.env w) (fun u=>Q .next) E s₁) E s)
  (r:=(evE true F ρ e Hc).st ρ fun v h=>match v with
   |.tup vs=>(match setAll ρ is vs with
    |some ρ=>.ok .next ρ h
    |Option.none=>.bad)
   |_=>.bad) (sbind x (h x.b x.st) fun a b H' π' s' u x' hw=>?_) fun Q E h=>Assign_Tuple h hs hw
 cases b with
 |tup vs =>
  dsimp only
  cases hse:setAll ρ is vs with
  |none=>exact .inl rfl
  |some ρ' =>
   obtain⟨t,xs,rfl,_,htu,_,hvr⟩:=hw;refine .inr (wpAny_assign_Tuple x'.st.hd htu ?_ (zif hts).2 fun h' hb=>?_)
   ·rw[(zif hts).1,zhn hse,size_toArray,hvr.len]
   ·have kk:∀ b o,s'.heap.get? b=some o→h'.get? b=some o:=fun b o e=>hb b o (Nat.ne_of_lt (Heap.lt_size e)) e
    have y:=x'.step (s':={ s' with heap:=h' }) (Step.keeps kk) (x'.st.hr.keeps kk)
    exact zhU hinj (fun s'' z=>SOk.here z) hts y (hvr.step (s':={ s' with heap:=h' }) (Step.keeps (Fs:=Fs cx.sk) kk)) hse
 |_=>exact .inl rfl
end
section
variable {am:Amb}{n:Nat}{q:Bool}{F:Fn}{c:Ck}
theorem SR.sub (k:∀ a,a∈am'.res→a∈am.res) (hmg:am'.mg=am.mg) (hB:am'.B=am.B) (e:SR am π h v x):SR am' π h v x:=by
 rcases e with e|⟨d,a,h1,h2,h3,C,o,vs,e1,e2⟩
 ·exact .inl (e.sub k)
 ·exact .inr ⟨d,a,h1,h2,h3,C,o,vs,by rw[hmg];exact e1,by rw[hB];exact e2⟩
theorem ER.sub (k:∀ a,a∈r'→a∈r) (e:ER (am.at r) cx ρ π h):ER (am.at r') cx ρ π h :=
 ⟨e.ns,e.locOff,e.cellOff,e.apart,fun x i v h1 h2 h3 h4=>let ⟨v',h5,h6⟩:=e.var x i v h1 h2 h3 h4;⟨v',h5,SR.sub (am:=am.at r) (am':=am.at r') k rfl rfl h6⟩⟩
theorem ER.poke {am:Amb}{cx:Cx}{ρ:List V}{π:List Addr}{h h':Heap}{C:Addr}(e:ER am cx ρ π h) (hC:C∈am.res) (p:Poke C h h') (hnf:∃ o,h.get? C=some o∧∀ us,o.data≠.fields us) (hl:cx.env.locals≠C) (hc:∀ z d,cx.env.cells.lookup z=some d→d≠C):ER am cx ρ π h':=by
 obtain⟨m,hm⟩:=e.ns;refine⟨⟨m,Ns.at hm fun o z=>p _ o hl z⟩,e.locOff,fun z d hd=>?_,e.apart,fun z j w e1 e2 e3 e4=>?_⟩
 ·refine hold fun y k_=>?_
  obtain⟨a1,a2,u,o,ho,r⟩:=e.cellOff z d hd;refine k_ ?_;exact⟨a1,a2,u,o,p d o (hc z d hd) ho,r⟩
 ·obtain⟨u,e5,e6⟩:=e.var z j w e1 e2 e3 e4
  refine⟨u,?_,?_⟩
  ·rcases e5 with⟨k,m',e7,e8⟩|⟨k,d,e7,o,ho,r⟩
   ·exact .inl ⟨k,m',Ns.at e7 fun o z=>p _ o hl z,e8⟩
   ·exact .inr ⟨k,d,e7,o,p d o (hc z d e7) ho,r⟩
  ·rcases e6 with e6|⟨d,a,f1,f2,f3,C',o,vs,g1,g2,g3,g4,g5⟩
   ·exact .inl (e6.free fun b o hb z=>p b o (fun q=>hb (q ▸ hC)) z)
   ·exact .inr ⟨d,a,f1,f2,f3,C',o,vs,g1,p a o (fun q=>(zf0 hnf g2 g4) q.symm) g2,g3,g4,g5⟩
theorem Mv.unhold {R Fs π π':List Addr}{s s':Shared}{C:Addr}(x:Mv (C::R) Fs π s π' s') (hC:s.heap.get? C=none):Mv R Fs π s π' s':=by
 have ne:∀ {b o},s.heap.get? b=some o→b ∉ R→b ∉ C::R:=fun {b o} e hb q=>by
  rcases zN.mp q with rfl|h
  ·rw[hC] at e;cases e
  ·exact hb h
 exact⟨x.same,fun a o e h1 h2 h3=>x.keep a o e h1 h2 (ne e h3),fun a o e h1 h3=>x.slots a o e h1 (ne e h3),x.alive,x.grow⟩
theorem zov {am:Amb}{sk:List Env}{π π1:List Addr}{s s':Shared}{vs:List V}{H1:H}{l:Addr}{xs:List Value}(h3:vs.length≤1000000) (h4:s.heap.get? l=none) (h5:l ∉ π1∧l ∉ Fs sk∧am.B.get? l=none) (h6:Step (Fs sk) π s π1 s') (h7:HR (am.hold l) sk π1 H1 s'.heap)
  (h8:PL s'.heap l xs) (h9:VRs (am.hold l) π1 s'.heap vs xs):Step (Fs sk) π s (π1++[l]) s'∧HR am sk (π1++[l]) (H1++[.list vs]) s'.heap∧VR am (π1++[l]) s'.heap (.ref H1.length) (.ref l):=by
 refine⟨⟨h6.same,h6.ext,?_⟩,⟨h7.base,h7.frames,by simp[h7.len],?_,h7.unhold.res,?_,?_⟩,?_⟩
 ·obtain⟨δ,rfl,hδ⟩:=h6.grow
  refine⟨δ++[l],by simp,fun a ha=>?_⟩
  rcases zP.mp ha with ha|ha
  ·exact hδ a ha
  ·rw[zK.mp ha];exact h4
 ·rw[nodup_append]
  exact⟨h7.nodup,by simp,fun a ha b hb=>by rw[zK.mp hb];exact fun q=>h5.1 (q ▸ ha)⟩
 ·intro a ha
  rcases zP.mp ha with ha|ha
  ·exact h7.off a ha
  ·rw[zK.mp ha];exact⟨h5.2.2,h5.2.1⟩
 ·intro i c a hi ha
  by_cases hlt:i < H1.length
  ·rw[List.getElem?_append_left hlt] at hi
   rw[List.getElem?_append_left (by rw[h7.len];exact hlt)] at ha
   obtain⟨o,ys,q0,q1,q2,q3⟩:=h7.cell i c a hi ha;exact⟨o,ys,q0,q1,q2,q3.reserve.1⟩
  ·have hi':i=H1.length:=zmx (by have:=(List.getElem?_eq_some_iff.mp hi).1;rw[zQ] at this;exact this) hlt
   subst hi';simp only[List.getElem?_concat_length,Option.some.injEq] at hi;rw[←h7.len] at ha;simp only[List.getElem?_concat_length,Option.some.injEq] at ha;subst hi ha;exact .ofList h8 h3 h9.reserve.1
 ·rw[zka]
  exact⟨l,rfl,by rw[←h7.len];simp⟩
noncomputable def asgFin (own:Bool) (i:Nat) (ρ:List V) (rs:List V) (Hf:H):RS:=if own then .ok .next (ρ.set i (.ref Hf.length)) (Hf++[.list rs]) else .ok .next (ρ.set i (.l rs)) Hf
theorem zj5 {F:Fn}{own:Bool}{i j:Nat}{elt:PE}{it:PIt}{cond:Option PE}{ρ:List V}{Hc:H}:exS true F (.asg i (if own then .own (.comp elt j it cond) else .comp elt j it cond)) ρ Hc=(itemsR F ρ elt j it cond Hc).st ρ fun rs h=>asgFin own i ρ rs h:=by
 cases own with
 |false =>
  show exS true F (.asg i (.comp elt j it cond)) ρ Hc=_;rw[zqY,za4]
  cases itemsR F ρ elt j it cond Hc<;>rfl
 |true =>
  show exS true F (.asg i (.own (.comp elt j it cond))) ρ Hc=_;rw[zqY,zkO,za4]
  cases itemsR F ρ elt j it cond Hc<;>rfl
theorem zho {i:Nat}{elt:PE}{j:Nat}{it:PIt}{cond:Option PE}{own:Bool}{e iter:Expr}{x:Str}{px pos p p':Pos}{ifs:List Expr}{scope:Scope}{v:Str}(hset:isSet iter=false) (hsc:zc4 c x scope=true) (hi:c.ctx.all (fun p=>p.2 != j)=true)
  (hit:ItJ am n F c it iter) (helt:EJ am n true F (c.inner x j scope) elt e) (hcond:CJ am n F (c.inner x j scope) cond ifs)
  (hv:c.var v i=true) (hk:c.names.lookup v≠some .free) (hinj:(c.ctx.map (·.2)).Nodup)
  {cx:Cx}{ρ:List V}{A:Around}{res:List Addr}{outer:List Env}{π₀:List Addr}{s₀:Shared}{G:List Addr→Shared→Prop}{π:List Addr}{Hc:H}{s:Shared}(X:Stm am n true F c cx A res outer π₀ s₀ G ρ π Hc s)
  (hs:swapsWith (.ListComp e [⟨.Name x px,iter,ifs,0⟩] scope pos) (some (.Name v p')) p.line cx.env=pure true) :
  SP (am.at res) cx outer true A π₀ s₀ G (fun Q E s=>wpAny am.M A (exec (.Assign [.Name v p'] (.ListComp e [⟨.Name x px,iter,ifs,0⟩] scope pos) p) cx.env) Q E s) (exS true F (.asg i (if own then .own (.comp elt j it cond) else .comp elt j it cond)) ρ Hc) s:=by
 have B:=X.b;rw[zj5]
 rcases zg3 (px:=px) (pos:=pos) (pos':=firstIterPos [⟨.Name x px,iter,ifs,0⟩] pos) hset hsc hi hit helt hcond B X.st with h|h
 ·exact .inl (by rw[h];rfl)
 ·refine .inr (zdK fun Q' E' kq ke=>?_)
  rw[exec_Assign_Name_used _ _ _ _ hs,arm_evalThenUse_ListComp];refine yX (wpAny_standAt (yX (yX ?_)));refine h (Q:=fun t s'=>wpAny am.M A (pure ():Sem Unit) (fun t s'=>wpAny am.M A (pure Flow.next:Sem Flow) Q' E' s') E' s') (use:=some (assign (.Name v p') cx.env)) (fun c' H' y s' ee z=>?_) fun rs Hf D C s' e7 e6 le=>?_
  ·refine ke y s' ?_
   refine hold fun t k_=>?_;obtain⟨c',H'',π',e',C,fl,hh,g2,g3,g4,g5,g6⟩:=z;refine k_ ?_
   cases hh
   have Y:=X.step g4 g5;exact⟨c',ρ,H',π',e',C,fl,by rw[ee];rfl,g2,g3,Y.go,Y.st,X.b.ne,g6.mono (zbr X.f X.go)⟩
  ·generalize hr:R.st (itemsR F ρ elt j it cond Hc) ρ (fun rs h=>asgFin own i ρ rs h)=r at kq ke
   have e7:r=asgFin own i ρ rs Hf:=by rw[←hr,e7];rfl
   refine hold fun t k_=>?_;obtain⟨π',xs,m,l1,l2,l3,l4,l5,l6,l7⟩:=le.rest;refine k_ ?_;show wpAny am.M A (assign (.Name v p') cx.env (.ref D)) _ _ s';have hs0C:s₀.heap.get? C=none:=by
    cases hq:s₀.heap.get? C with
    |none=>rfl
    |some o=>obtain⟨o',z⟩:=X.go.ext.alive C o hq;rw[le.freshC] at z;cases z
   have hDC:D ∉ (am.at (C::res)).res:=by simp only[Amb.at,zN,not_or];exact⟨le.ne,le.resD⟩
   have hR:HR (am.at (D::C::res)) cx.sk π' Hf s'.heap:=HR.sub (am:=am) (r:=C::D::res) (r':=D::C::res) (by intro a ha;simp only[zN] at ha ⊢;rcases ha with ha|ha|ha<;>simp[ha]) l2
   have hV:VRs ((am.at (C::res)).hold D) π' s'.heap rs xs:=VRs.sub (am':=(am.at (C::res)).hold D) (by intro a ha;simp only[Amb.hold,Amb.at,zN] at ha ⊢;rcases ha with ha|ha|ha<;>simp[ha]) l4
   have hok:∃ w H2 π2,r=.ok .next (ρ.set i w) H2∧Step (Fs cx.sk) π s π2 s'∧HR (am.at (C::res)) cx.sk π2 H2 s'.heap∧VR (am.at (C::res)) π2 s'.heap w (.ref D)∧C ∉ π2:=by
    cases own with
    |false =>
     refine⟨.l rs,Hf,π',by rw[e7];rfl,l1,HR.unhold (am:=am.at (C::res)) hR,?_,l7⟩
     exact⟨D,xs,rfl,⟨l6,hDC⟩,l3.is,e6,hV.reserve.2⟩
    |true =>
     have z:=zov (am:=am.at (C::res)) (s:=s) e6 le.freshD ⟨l6,le.fsD,le.baseD⟩ l1 hR l3 hV;refine⟨_,_,π'++[D],by rw[e7];rfl,z.1,z.2.1,z.2.2,?_⟩
     rw[zP,not_or,zK];exact⟨l7,Ne.symm le.ne⟩
   refine hold fun t k_=>?_;obtain⟨w,H2,π2,k2,k3,k4,k5,k6⟩:=hok;refine k_ ?_;have erC:ER (am.at (C::res)) cx ρ π2 s'.heap:=(X.st.er.held (l:=C) le.freshC).step k3;have Y:Stm am n true F c cx A (C::res) outer π₀ s₀ (fun π' s'=>Mv (C::res) (Fs cx.sk) π s π' s') ρ π2 H2 s' :=
    ⟨X.b,⟨X.f.top,zY _ X.f.res,X.f.base,X.f.fresh,fun z d hd=>let ⟨a1,a2,a3⟩:=X.f.cell z d hd;⟨zY _ a1,a2,a3⟩⟩,X.go.inn X.f k3,⟨k4,erC,X.st.hd.step k3⟩,X.low,.of k3,fun t t t t h m=>h.trans m⟩
   have hlC:cx.env.locals≠C:=fun q=>by
    obtain⟨m0,hm0⟩:=X.st.er.ns;obtain⟨o,ho⟩:=Heap.Ns.exist hm0;rw[q,le.freshC] at ho;cases ho
   have hcC:∀ z d,cx.env.cells.lookup z=some d→d≠C:=fun z d hd q=>by
    refine hold fun t k_=>?_;obtain⟨_,_,u,hu⟩:=X.st.er.cellOff z d hd;refine k_ ?_;obtain⟨o,ho⟩:=Heap.IsCell.exist hu;rw[q,le.freshC] at ho;cases ho
   refine wpAny_assign_Name (zb6 Y k5 hv hk hinj fun s'' Z hkeep t=>?_);refine⟨m,Ns.at l5 fun o ho=>hkeep C hs0C (Ne.symm hlC) hcC o ho,fun h' sb=>?_⟩;have p':Poke C s''.heap h':=fun b o hb e=>sb.extBut b o hb e;have l5':s''.heap.Ns C m:=Ns.at l5 fun o ho=>hkeep C hs0C (Ne.symm hlC) hcC o ho;refine yW (yW ?_);subst k2;refine kq _ _ ⟨.next,_,_,π2,rfl,Z.go.poke (tk:=s''.toks) hs0C p',⟨HR.out (am:=am.at res) Z.st.hr le.resC le.baseC k6 le.fsC p',?_,?_⟩,Z.b.ne,rfl,?_⟩
   ·exact ER.sub (am:=am) (r:=C::res) (fun a ha=>zY _ ha) (Z.st.er.poke (am:=am.at (C::res)) zZ p' (Ns.nf l5') hlC hcC)
   ·exact Z.st.hd
   ·refine X.gk _ _ _ _ X.g (Mv.poke (tk:=s''.toks) (Mv.unhold Z.g le.freshC) (.inr le.freshC) p')
end
section
variable {am:Amb}{n:Nat}{q:Bool}{F:Fn}{c:Ck}
theorem zcf (f:Frm am cx outer s₀) (hr:HR am cx.sk π Hc h):h.FunFrames (ground outer π₀ s₀.heap) cx.sk:=by
 have go:∀ l:List Env,(∀ a∈Fs l,(ground outer π₀ s₀.heap).get? a=none)→h.FunFrames am.B l→h.FunFrames (ground outer π₀ s₀.heap) l:=by
  intro l
  induction l with
  |nil=>intro _ _;trivial
  |cons e l ih =>
   intro hn q;obtain⟨h1,⟨L,o,h2,_,h4,h5⟩,h6⟩:=q;refine⟨h1,⟨L,o,h2,hn L (by simp[Fs,h2]),h4,h5⟩,ih (fun a ha=>hn a ?_) h6⟩
   simp only[Fs,filterMap_cons,h2,zN];exact .inr ha
 refine go _ (fun a ha=>?_) hr.frames;rw[f.fs] at ha
 rcases zN.mp ha with rfl|ha
 ·cases hq:(ground outer π₀ s₀.heap).get? cx.env.locals with
  |none=>rfl
  |some o=>have:=of_hideAll _ hq;rw[f.fresh] at this;cases this
 ·exact hideAll_none _ (zP.mpr (.inr ha))
theorem Step.touch (f:Frm am cx outer s₀) (x:Step (Fs outer) π₀ s₀ π s) (hr:HR am cx.sk π Hc s.heap) (t:Touch (ground outer π₀ s₀.heap) s.heap h'):Step (Fs outer) π₀ s₀ π { s with heap:=h' }:=by
 have frm:∀ a∈Fs outer,∃ o,s.heap.get? a=some o∧∀ us,o.data≠.fields us:=fun a ha=>(hr.frames.mem (show a∈Fs cx.sk by rw[f.fs];exact zY _ ha)).2
 have cel:∀ a∈π₀,∃ o,s.heap.get? a=some o∧∀ us,o.data≠.fields us:=fun a ha=>by
  obtain⟨δ,e,_⟩:=x.grow;obtain⟨i,hi,e1⟩:=getElem_of_mem (show a∈π by rw[e];exact zP.mpr (.inl ha))
  have h1:π[i]?=some a:=by rw[zM hi,e1]
  have h2:i < Hc.length:=by rw[←hr.len];exact hi
  exact(hr.cell i Hc[i] a (by simp[h2]) h1).obj
 have keep:∀ a o,s₀.heap.get? a=some o→a ∉ π₀→a ∉ Fs outer→h'.get? a=some o:=fun a o e h1 h2=>t.stays a o (hideAll_get _ e (by rw[zP,not_or];exact⟨h1,h2⟩))
 obtain⟨hh,tk,rfl⟩:=x.same;refine⟨⟨h',tk,rfl⟩,⟨keep,fun a o e h1=>?_,fun a o e=>?_⟩,x.grow⟩
 ·by_cases h2:a∈Fs outer
  ·obtain⟨sl,h3⟩:=x.ext.slots a o e h1
   obtain⟨o',h4,h5⟩:=frm a h2;rw[h3] at h4;cases h4
   obtain⟨sl',h6⟩:=t.slots a _ h3 h5;exact⟨sl',h6⟩
  ·exact⟨o.slots,keep a o e h1 h2⟩
 ·by_cases h1:a∈π₀
  ·obtain⟨o',h4,h5⟩:=cel a h1
   obtain⟨sl',h6⟩:=t.slots a _ h4 h5;exact⟨_,h6⟩
  ·by_cases h2:a∈Fs outer
   ·obtain⟨o',h4,h5⟩:=frm a h2
    obtain⟨sl',h6⟩:=t.slots a _ h4 h5;exact⟨_,h6⟩
   ·exact⟨o,keep a o e h1 h2⟩
theorem St.touch (x:St am true cx ρ π Hc A s) (ne:NoExc ρ) (low:am.B.StaysIn base) (t:Touch base s.heap h'):St am true cx ρ π Hc A { s with heap:=h' } :=
 ⟨x.hr.upto t.slots fun b o e=>t.stays b o (low b o e),x.er.upto t.slots ne,x.hd⟩
theorem SEr.back (f:Frm am cx outer s₀) (fr:A.frames=some cx.sk) (low:am.B.StaysIn (ground outer π₀ s₀.heap)) (h:SEr am cx outer true A π₀ s₀ r y s'){E':Value→Shared→Prop}(ke:∀ y s,SEr am cx outer true A π₀ s₀ r y s→E' y s) :
  notedBy am.M A cx.env (cameBackBy am.M A cx.env E') y s':=by
 refine hold fun z k_=>?_;obtain⟨d,ρ',H',π',e,C,fl,h1,rfl,h3,h4,h5,h6,h7⟩:=h;refine k_ ?_;rw[f.top.1] at fr;have fl':=zcf (π₀:=π₀) f h5.hr;rw[f.top.1] at fl';unfold notedBy;refine zhX fr fl' f.top.2 h7 fun h₁ x₁ t₁=>?_;have g1:=h4.touch f h5.hr t₁;have g2:=h5.touch (h6 rfl) low t₁;unfold cameBackBy;refine hold fun z k_=>?_;obtain⟨_,_,oe,vs,w1,w2,w3,w4,T,oT,ts,w5,w6,w7,w8,w9,w10⟩:=id x₁;refine k_ ?_
 refine yX (wpAny_field w1 w3 w5 ?_);rw[zR (by simp)]
 refine zcA (fr:=cx.env.frame) x₁ fun h₂ x₂ t₂=>?_;exact ke _ _ ⟨d,ρ',H',π',e,C,_,h1,rfl,h3,g1.touch f g2.hr t₂,g2.touch (h6 rfl) low t₂,h6,x₂⟩
theorem zlq {b:List V→V→Option (List V)}{body:List V→H→RS}:forL w b body [] ρ h=if w.ok h then .ok .next ρ h else .bad:=rfl
theorem zjx {b:List V→V→Option (List V)}{body:List V→H→RS}:forL w b body (v::vs) ρ h=if w.ok h then(match b ρ v with
   |some ρ'=>(body ρ' h).then fun ρ h=>forL w b body vs ρ h
   |none=>.bad) else .bad:=rfl
inductive ForInv (am:Amb) (cx:Cx) (outer:List Env) (A:Around) (π₀:List Addr) (s₀:Shared) (res π:List Addr) (s:Shared) (Sx:Nat→List Addr→Heap→Prop) (wt:Watch) (bi:List V→V→Option (List V)) (fb:List V→H→RS) (vs:List V) (r:RS) (k:Nat) (s':Shared):Prop
 |mk (j:Nat) (ρ':List V) (H':H) (π':List Addr) (e:k=vs.length - j) (hj:j≤vs.length) (ne:NoExc ρ') (g1:Step (Fs outer) π₀ s₀ π' s') (g2:St am true cx ρ' π' H' A s') (g3:Mv res (Fs cx.sk) π s π' s') (g4:Sx j π' s'.heap) (g5:forL wt bi fb (vs.drop j) ρ' H'=r)
theorem zo5 {i:Nat}{it:PIt}{body:List PS}{iter:Expr}{v:Str}{p p':Pos}{ys:List Stmt}(hset:isSet iter=false) (hit:ItJ am n F c it iter) (hbody:SsJ am n true F c body ys)
  (hv:c.var v i=true) (hk:c.names.lookup v≠some .free) (hinj:(c.ctx.map (·.2)).Nodup):SJ am n true F c (.for1 i it body) (.For (.Name v p') iter ys [] p):=fun cx ρ A res outer π₀ s₀ G π Hc s X=>by
 have B:=X.b;have shape:exS true F (.for1 i it body) ρ Hc=(evIt true F ρ it Hc).st ρ fun vs h=>forL vs.2 (bind1 i) (fun ρ h=>exSs true F body ρ h) vs.1 ρ h:=by
  rw[zrS];rw[zR (by simp)]
 rw[shape];have hI:=hit B X.st;have key:∀ (r:RS),r≠.bad→(∀ vs wt H1,evIt true F ρ it Hc=.ok (vs,wt) H1→forL wt (bind1 i) (fun ρ h=>exSs true F body ρ h) vs ρ H1=r) →
   (∀ c' H',evIt true F ρ it Hc=.err c' H'→r=.err c' ρ H')→evIt true F ρ it Hc≠.bad →
   SP (am.at res) cx outer true A π₀ s₀ G (fun Q E s=>wpAny am.M A (exec (.For (.Name v p') iter ys [] p) cx.env) Q E s) r s:=by
  intro r hrb h1 h2 h3
  rcases hI with hI|hI
  ·exact absurd hI h3
  ·refine .inr ?_
   have erp:∀ y s',ErP (am.at res) cx.sk π s (evIt true F ρ it Hc) y s'→SEr (am.at res) cx outer true A π₀ s₀ r y s':=fun y s' h=>by
    refine hold fun u k_=>?_;obtain⟨c',H'',π',e',C,fl,hh,g2,g3,g4,g5,g6⟩:=h;refine k_ ?_;have Y:=X.step g4 g5;exact⟨c',ρ,H'',π',e',C,fl,h2 c' H'' hh,g2,g3,Y.go,Y.st,X.b.ne,g6.mono (zbr X.f X.go)⟩
   refine zdK fun Q' E' kq ke=>?_
   replace erp:=fun y s' h=>ke y s' (erp y s' h)
   refine wpAny_For (yV hI (fun xv s₁ h₁=>yV h₁ (fun itv s₂ h₂=>?_) erp) erp) (zgB hset cx.env);refine hold fun u k_=>?_;obtain⟨⟨vs,wt⟩,H1,π1,e1,e2,e3,I,e5,e6,e8⟩:=h₂;obtain⟨Sx,IT,e7⟩:=e8 res _ (fun u h=>.inl h) (fun u u h=>h);refine k_ ?_;have e0:=h1 vs wt H1 e1;have fr:A.frames=some cx.sk:=B.as.frames;have back:∀ y s',SEr (am.at res) cx outer true A π₀ s₀ r y s'→notedBy am.M A cx.env (cameBackBy am.M A cx.env E') y s':=fun y s' h=>SEr.back X.f fr X.low h ke
   have hs0I:s₀.heap.get? I=none:=by
    cases hq:s₀.heap.get? I with
    |none=>rfl
    |some o=>obtain⟨o',z⟩:=X.go.ext.alive I o hq;rw[e5] at z;cases z
   have poke:∀ {ρ':List V}{π':List Addr}{H':H}{s':Shared}{h':Heap}{tk k:Nat},NoExc ρ'→Step (Fs outer) π₀ s₀ π' s'→St (am.at res) true cx ρ' π' H' A s'→Mv res (Fs cx.sk) π s π' s'→Sx k π' s'.heap→Poke I s'.heap h' →
     Step (Fs outer) π₀ s₀ π' { s' with heap:=h',toks:=tk }∧St (am.at res) true cx ρ' π' H' A { s' with heap:=h',toks:=tk }∧Mv res (Fs cx.sk) π s π' { s' with heap:=h',toks:=tk }:=by
    intro ρ' π' H' s' h' tk k ne g1 g2 g3 g4 pk;refine hold fun u k_=>?_;obtain⟨_,_,o,us,ho,hd⟩:=IT.own k π' _ g4;refine k_ ?_;exact⟨g1.poke hs0I pk,⟨g2.hr.poke pk ho hd e6,g2.er.upto (pk.slots ho hd) ne,g2.hd⟩,g3.poke (.inr e5) pk⟩
   refine hold fun u k_=>?_;obtain⟨Inv,toInv,ofInv⟩:∃ Inv:Nat→Shared→Prop,(∀ k s',ForInv (am.at res) cx outer A π₀ s₀ res π s Sx wt (bind1 i) (fun ρ h=>exSs true F body ρ h) vs r k s'→Inv k s')∧(∀ k s',Inv k s'→ForInv (am.at res) cx outer A π₀ s₀ res π s Sx wt (bind1 i) (fun ρ h=>exSs true F body ρ h) vs r k s'):=⟨_,fun u u h=>h,fun u u h=>h⟩;refine k_ ?_;refine codeAny_forLoop_any Inv
    (fun k s' hk'=>?_) vs.length (toInv _ _ ⟨0,ρ,H1,π1,rfl,Nat.zero_le _,B.ne rfl,X.go.inn X.f e2,X.st.step e2 e3,.of e2,e7,by simpa using e0⟩)
   refine hold fun u k_=>?_;obtain⟨j,ρ',H',π',rfl,hj,ne,g1,g2,g3,g4,g5⟩:=ofInv _ _ hk';refine k_ ?_
   rcases Nat.lt_or_ge j vs.length with hlt|hge
   ·have hdrop:vs.drop j=vs[j]::vs.drop (j+1):=List.drop_eq_getElem_cons hlt
    rw[hdrop,zjx] at g5
    by_cases hw:wt.ok H'=true
    ·rw[zT hw] at g5
     simp only[bind1] at g5;refine IT.item j π' H' s' vs[j] _ _ g4 g2.hr hw (by simp[hlt]) fun x h' tk pk hx hs'=>?_
     obtain⟨k1,k2,k3⟩:=poke (tk:=tk) ne g1 g2 g3 g4 pk;show wpAny am.M A (letOwnedTupleGo (.Name v p') (.ref I) x) _ _ _;refine wpAny_of_eq (a:=()) rfl ?_
     let G':List Addr→Shared→Prop:=fun π' s'=>Mv res (Fs cx.sk) π s π' s'∧Sx (j+1) π' s'.heap
     have Y:Stm am n true F c cx A res outer π₀ s₀ G' ρ' π' H' { s' with heap:=h',toks:=tk } :=
      ⟨B.set fun u=>ne,X.f,k1,k2,X.low,⟨k3,hs'⟩,fun u u u u h m=>⟨h.1.trans m,IT.move _ _ _ _ _ h.2 m⟩⟩
     refine wpAny_assign_Name (zb6 Y hx hv hk hinj fun s'' Z u u=>?_)
     rcases hbody Z with hb|hb
     ·rw[hb] at g5;exact absurd g5.symm hrb
     ·refine yV hb (fun fl s3 hs3=>?_) fun y s3 hs3=>?_
      ·refine hold fun u k_=>?_
       obtain⟨f',ρ2,H2,π2,z1,z2,z3,z4,z5,z6⟩:=hs3;refine k_ ?_;rw[z1] at g5
       cases f' with
       |next =>
        cases z5
        exact⟨vs.length - (j+1),Nat.sub_lt_sub_left hlt (Nat.lt_succ_self j),toInv _ _ ⟨j+1,ρ2,H2,π2,rfl,hlt,z4 rfl,z2,z3,z6.1,z6.2,by simpa using g5⟩⟩
       |ret w =>
        obtain⟨xv,rfl,hxv⟩:=z5;exact kq _ _ ⟨.ret w,ρ2,H2,π2,g5.symm,z2,z3,z4,⟨xv,rfl,hxv⟩,X.gk _ _ _ _ X.g z6.1⟩
      ·refine hold fun u k_=>?_
       obtain⟨d,ρ2,H2,π2,e',C,fl,z1,z2,z3,z4,z5,z6,z7⟩:=hs3;refine k_ ?_;rw[z1] at g5;exact back y s3 ⟨d,ρ2,H2,π2,e',C,fl,g5.symm,z2,z3,z4,z5,z6,z7⟩
    ·rw[zR hw] at g5;exact absurd g5.symm hrb
   ·have hje:j=vs.length:=Nat.le_antisymm hj hge
    subst hje;rw[drop_length,zlq] at g5
    by_cases hw:wt.ok H'=true
    ·rw[zT hw] at g5
     refine IT.done π' H' s' _ _ g4 g2.hr hw fun h' tk pk=>?_;obtain⟨k1,k2,k3⟩:=poke (tk:=tk) ne g1 g2 g3 g4 pk;refine wpAny_execs_nil ?_;exact kq _ _ ⟨.next,ρ',H',π',g5.symm,k1,k2,fun u=>ne,rfl,X.gk _ _ _ _ X.g k3⟩
    ·rw[zR hw] at g5;exact absurd g5.symm hrb
 cases hev:evIt true F ρ it Hc with
 |bad=>exact .inl rfl
 |err c' H'=>exact key _ (by simp[R.st]) (fun u u u z=>by rw[hev] at z;cases z) (fun u u z=>by rw[hev] at z;cases z;rfl) (by rw[hev];simp)
 |ok b H1 =>
  obtain⟨vs,wt⟩:=b;simp only[R.st_ok]
  by_cases hb:forL wt (bind1 i) (fun ρ h=>exSs true F body ρ h) vs ρ H1=.bad
  ·exact .inl hb
  ·refine key _ hb (fun vs' wt' H1' z=>?_) (fun u u z=>by rw[hev] at z;cases z) (by rw[hev];simp)
   rw[hev] at z;cases z;rfl
end
section
variable {am:Amb}{n:Nat}{F:Fn}{c:Ck}
inductive WhInv (am:Amb) (cx:Cx) (outer:List Env) (A:Around) (π₀:List Addr) (s₀:Shared) (res π:List Addr) (s:Shared) (f:Nat→List V→H→RS) (r:RS) (k:Nat) (s':Shared):Prop
 |mk (ρ':List V) (H':H) (π':List Addr) (ne:NoExc ρ') (g1:Step (Fs outer) π₀ s₀ π' s') (g2:St am true cx ρ' π' H' A s') (g3:Mv res (Fs cx.sk) π s π' s') (g5:f k ρ' H'=r)
theorem zfy (t:PE) (body:List PS) (k:Nat) (ρ:List V) (h:H):whileL (fun ρ h=>evE true F ρ t h) (fun ρ h=>exSs true F body ρ h) (k+1) ρ h =
  (tr (evE true F ρ t h)).st ρ fun b h=>if b then(exSs true F body ρ h).then fun ρ h=>whileL (fun ρ h=>evE true F ρ t h) (fun ρ h=>exSs true F body ρ h) k ρ h else .ok .next ρ h:=by
 rw[zkp]
 cases evE true F ρ t h with
 |ok v h =>
  simp only[tr,R.bind_ok,R.st_ok]
  cases truthy v with
  |none=>rfl
  |some u=>cases u<;>rfl
 |_=>rfl
theorem znf {t:PE}{body:List PS}{y:Expr}{ys:List Stmt}{p:Pos}(ht:TJ am n true F c t y) (hbody:SsJ am n true F c body ys):SJ am n true F c (.while t body) (.While y ys [] p):=fun cx ρ A res outer π₀ s₀ G π Hc s X=>by
 have B:=X.b;have shape:exS true F (.while t body) ρ Hc=whileL (fun ρ h=>evE true F ρ t h) (fun ρ h=>exSs true F body ρ h) turns ρ Hc:=by
  rw[zpb,zR (by decide)]
 rw[shape];generalize hr:whileL (fun ρ h=>evE true F ρ t h) (fun ρ h=>exSs true F body ρ h) turns ρ Hc=r
 by_cases hrb:r=.bad
 ·exact .inl hrb
 refine .inr (zdK fun Q' E' kq ke=>?_);have fr:A.frames=some cx.sk:=B.as.frames;have back:∀ y s',SEr (am.at res) cx outer true A π₀ s₀ r y s'→notedBy am.M A cx.env (cameBackBy am.M A cx.env E') y s':=fun y s' h=>SEr.back X.f fr X.low h ke;refine hold fun z k_=>?_;obtain⟨Inv,toInv,ofInv⟩:∃ Inv:Nat→Shared→Prop,(∀ k s',WhInv (am.at res) cx outer A π₀ s₀ res π s (whileL (fun ρ h=>evE true F ρ t h) (fun ρ h=>exSs true F body ρ h)) r k s'→Inv k s')∧(∀ k s',Inv k s'→WhInv (am.at res) cx outer A π₀ s₀ res π s (whileL (fun ρ h=>evE true F ρ t h) (fun ρ h=>exSs true F body ρ h)) r k s'):=⟨_,fun z z h=>h,fun z z h=>h⟩
 refine k_ ?_;refine wpAny_While (codeAny_whileLoop Inv (fun k s' hk=>?_) turns (toInv _ _ ⟨ρ,Hc,π,B.ne rfl,X.go,X.st,.of (Step.refl _ _ _),hr⟩));refine hold fun z k_=>?_;obtain⟨ρ',H',π',ne,g1,g2,g3,g5⟩:=ofInv _ _ hk;refine k_ ?_
 cases k with
 |zero=>exact absurd g5.symm hrb
 |succ k =>
  rw[zfy] at g5;have Y:Stm am n true F c cx A res outer π₀ s₀ (fun π' s'=>Mv res (Fs cx.sk) π s π' s') ρ' π' H' s':=⟨B.set fun z=>ne,X.f,g1,g2,X.low,g3,fun z z z z h m=>h.trans m⟩
  rcases ht Y.b Y.st with hb|hb
  ·rw[hb] at g5;exact absurd g5.symm hrb
  ·refine yV hb (fun b s2 h2=>?_) fun e s2 h2=>?_
   ·refine hold fun z k_=>?_
    obtain⟨b',H2,π2,e1,e2,e3,e4⟩:=h2;refine k_ ?_;unfold BR at e4;subst e4;rw[e1,R.st_ok] at g5;have Z:=Y.step e2 e3
    cases b' with
    |false =>
     rw[zR (by simp)] at g5 ⊢
     exact wpAny_execs_nil (kq _ _ ⟨.next,ρ',H2,π2,g5.symm,Z.go,Z.st,fun z=>ne,rfl,X.gk _ _ _ _ X.g Z.g⟩)
    |true =>
     rw[zT rfl] at g5 ⊢
     rcases hbody Z with hb|hb
     ·rw[hb] at g5;exact absurd g5.symm hrb
     ·refine yV hb (fun fl s3 hs3=>?_) fun y s3 hs3=>?_
      ·refine hold fun z k_=>?_
       obtain⟨f',ρ2,H2,π2,z1,z2,z3,z4,z5,z6⟩:=hs3;refine k_ ?_;rw[z1] at g5
       cases f' with
       |next =>
        cases z5
        exact⟨k,Nat.lt_succ_self k,toInv _ _ ⟨ρ2,H2,π2,z4 rfl,z2,z3,z6,g5⟩⟩
       |ret w =>
        obtain⟨xv,rfl,hxv⟩:=z5;exact kq _ _ ⟨.ret w,ρ2,H2,π2,g5.symm,z2,z3,z4,⟨xv,rfl,hxv⟩,X.gk _ _ _ _ X.g z6⟩
      ·refine hold fun z k_=>?_
       obtain⟨d,ρ2,H2,π2,e',C,fl,z1,z2,z3,z4,z5,z6,z7⟩:=hs3;refine k_ ?_;rw[z1] at g5;exact back y s3 ⟨d,ρ2,H2,π2,e',C,fl,g5.symm,z2,z3,z4,z5,z6,z7⟩
   ·refine hold fun z k_=>?_
    obtain⟨c',H2,π2,e',C,fl,e1,e2,e3,e4,e5,e6⟩:=h2;refine k_ ?_;rw[e1] at g5;have Z:=Y.step e4 e5;exact back e s2 ⟨c',ρ',H2,π2,e',C,fl,g5.symm,e2,e3,Z.go,Z.st,fun z=>ne,e6.mono (zbr X.f g1)⟩
end
theorem zhh {h h':Heap}{bmB tl:List Value}(T:OwnTail h bmB tl) (hk:∀ b o,h.get? b=some o→h'.get? b=some o):OwnTail h' bmB tl:=by
 induction T with
 |base=>exact .base
 |own h1 h2 h3 _ ih=>exact .own (hk _ _ h1) (zbT hk h2) h3 ih
section
variable {am:Amb}{n:Nat}{q:Bool}{F:Fn}{c:Ck}
theorem zng {d:String}{t:Str}{k:Nat}{np cpos pos p:Pos}(hd:d∈zad) (hg:c.glob (Str.ofString d)=true) :
  SJ am n q F c (.raise d) (.Raise (some (.Call (.Name (Str.ofString d) np) [.Constant (.str t) k p] [] cpos)) none pos):=fun cx ρ A res outer π₀ s₀ G π Hc s x=>by
 simp -iota only[zq0]
 cases q with
 |false=>exact .inl rfl
 |true =>
  rw[zR (by simp)]
  obtain⟨C,X⟩:=x.b.ok.exc d hd;refine hold fun u k_=>?_;obtain⟨nm,qn,N,bs,bm,hdct,sn,sub,ab,col,dd,k0,k1,k2,k3,k5,mN,r1,r2,r3,r4⟩:=x.b.ok.rs d hd C X.name;refine k_ ?_;have hpl:backTo cpos (starEach [.Constant (.str t) k p] cx.env)=zak [.Constant (.str t) k p] cx.env:=zae _ (fun z hz=>by rw[zK.mp hz];rfl) _
  have kb:=x.st.hr.base;refine .inr (wpAny_Raise_call_subT (C:=C) (nm:=nm) (q:=qn) (N:=N) (bs:=bs) (bm:=bm) (hdct:=hdct) (sn:=sn) (sub:=sub) (ab:=ab) (col:=col) (dd:=dd) (k0:=k0) (k1:=k1) (k2:=k2) (k3:=k3) (k5:=k5) _root_.PySem.F.excBase_ValueError (r4.tail.hasType (by decide)) x.st.hd (by rw[hpl];rfl) (r3 _ (.head _)) (zb9 x.b x.st.hr hg X.name ⟨rfl,?_⟩))
  rw[hpl];refine Calls.evalArgs_plain (spl1 (wpAny_Constant_str ⟨rfl,by simp;decide,kb _ _ r1,zbT kb r2,zhh r4.tail kb,fun h' e hm=>?_⟩))
  have y:Step (Fs cx.sk) π s π { s with heap:=h',toks:=s.toks+1 }:=.keeps hm.keeps
  have Y:=x.step y (x.st.hr.keeps hm.keeps);refine hold fun u k_=>?_;obtain⟨t',e1,e2,e3⟩:=hm.there;refine k_ ?_;have low:(ground outer π₀ s₀.heap).StaysIn s.heap:=fun b o e=>of_hideAll _ (zbr x.f x.go b o e);exact⟨d,ρ,Hc,π,e,C,none,rfl,rfl,X.name,Y.go,Y.st,x.b.ne,⟨fun b o e=>hm.keeps b o (low b o e),zal low hm.new,_,_,e1,⟨rfl,rfl⟩,rfl,rfl,rfl⟩⟩
theorem zno {am:Amb}{sk:List Env}{π:List Addr}{Hc:H}{h:Heap}(hr:HR am sk π Hc h){e:Addr}{o:Obj}{vs:Array Value}(ho:h.get? e=some o) (hd:o.data=.fields vs):e ∉ π∧e ∉ Fs sk:=by
 refine⟨fun hm=>?_,fun hm=>?_⟩
 ·obtain⟨i,hi,e1⟩:=getElem_of_mem hm
  have h1:π[i]?=some e:=by rw[zM hi,e1]
  have h2:i < Hc.length:=by rw[←hr.len];exact hi
  obtain⟨o',ho',hn⟩:=(hr.cell i Hc[i] e (by simp[h2]) h1).obj
  rw[ho] at ho';cases ho';exact hn vs hd
 ·refine hold fun z k_=>?_
  obtain⟨_,o',ho',hn⟩:=hr.frames.mem hm;refine k_ ?_;rw[ho] at ho';cases ho';exact hn vs hd
theorem zic:exS true F (.try body "RingError" i [.ret ex]) ρ Hc=(match exSs true F body ρ Hc with
  |.err d ρ' H'=>if zad.contains d then(match evE false F (ρ'.set i (.exc d)) ex H' with
   |.ok w H2=>.ok (.ret w) ((ρ'.set i (.exc d)).set i .uu) H2
   |_=>.bad) else .bad
  |r=>r):=by
 simp -iota only[zpa];rw[zR (by simp)]
 cases exSs true F body ρ Hc with
 |bad=>rfl
 |ok f ρ h=>rfl
 |err d ρ' H' =>
  by_cases hx:zad.contains d=true
  ·refine(zT (by rw[hx];rfl)).trans (Eq.trans ?_ (zT hx).symm)
   simp -iota only[znp,zrF]
   cases evE false F (ρ'.set i (.exc d)) ex H'<;>rfl
  ·exact(zR (by rw[Bool.eq_false_iff.2 hx];exact Bool.false_ne_true)).trans (zR hx).symm
theorem zhF (hv:c.var v i=true) (hkl:c.names.lookup v=some .local) (hinj:(c.ctx.map (·.2)).Nodup)
  (he:EJ am n false F c ex ey) (X:Stm am n true F c cx A res outer π₀ s₀ (fun t t=>True) ρ π Hc s1)
  (hC:am.mg (Str.ofString d)=some (.ref C)) (g1:Step (Fs outer) π₀ s₀ π' s) (g2:St (am.at res) true cx ρ' π' H' A s) (ne:NoExc ρ') (BF:∀ ρ,Base am n false F c cx ρ (A.mark (some (.ref e)))) (x₂:XAt (ground outer π₀ s₀.heap) s.heap e (.ref C) (some fl))
  (hev:evE false F (ρ'.set i (.exc d)) ex H'=.ok w H2){R:Except Value Flow→Shared→Prop}{Q':Flow→Shared→Prop}{E':Value→Shared→Prop}(kR:∀ f s₂,wpAny am.M A (do bindName cx.env v .none;unbindBehindTheSuite cx.env v hp) (fun t s₃=>Q' f s₃) E' s₂→R (.ok f) s₂)
  (kq:∀ a s,SOk (am.at res) cx outer true A π₀ s₀ (fun t t=>True) (.ok (.ret w) ((ρ'.set i (.exc d)).set i .uu) H2) a s→Q' a s) :
  codeAny am.M (A.mark (some (.ref e))) (.handlers (.ref e) [.ExceptHandler none (some v) [.Return (some ey) p4] hp] cx.env) R s:=by
 refine codeAny_handlers_suite_as (zcA (fr:=none) x₂ fun h₃ x₃ t₃=>?_);have g1:=g1.touch X.f g2.hr t₃;have g2:=g2.touch ne X.low t₃;unfold Ck.var at hv;simp only[Bool.and_eq_true,beq_iff_eq,Bool.not_eq_true'] at hv;refine hold fun t k_=>?_;obtain⟨⟨⟨hv1,hv2⟩,hv3⟩,hv4⟩:=hv;refine k_ ?_;have hkl':cx.env.kindOf v=some .local:=by rw[zdj X.b.ck];exact hkl
 have hctx:cx.ctx.lookup v=some i:=by rw[X.b.ck.ctx];exact hv1
 have uniq:=zgJ X.b.ck hv1 hinj;obtain⟨m,hm⟩:=g2.er.ns;refine wpAny_storeName_local hkl' hm (fun h₄ hn₄ sb₄=>?_) (by simp[X.b.cxk.kind])
 have p₄:Poke cx.env.locals h₃ h₄:=fun b o hb q=>sb₄.extBut b o hb q;refine hold fun t k_=>?_;obtain⟨st3,bn3,oe3,vs3,q1,q2,q3,q4,_⟩:=id x₃;refine k_ ?_;have off:=zno g2.hr q1 q3;have hel:e≠cx.env.locals:=fun q=>(zf0 (Ns.nf hm) q1 q3) q.symm;have hr4:HR (am.at res) cx.sk π' H' h₄:=g2.hr.freed X.f.res X.f.base g2.er.locOff p₄ (Ns.nf hn₄);have ex4:ExcAt (am.at res) h₄ d e:=⟨C,oe3,vs3,hC,p₄ e oe3 hel q1,q2,q3,q4,zal X.low bn3⟩
 have er4:ER (am.at res) cx (ρ'.set i (.exc d)) π' h₄:=ER.setLocal (am:=am.at res) g2.er hm hn₄ p₄ X.f.res hctx hkl' uniq (fun t=>⟨.ref e,rfl,.inr ⟨d,e,rfl,rfl,off.1,ex4⟩⟩);have hd4:Hd false (A.mark (some (.ref e))) π' (Fs cx.sk) h₄:=⟨e,oe3,vs3,rfl,off.1,off.2,p₄ e oe3 hel q1,q3,q4⟩;have g1:=g1.poke (tk:=s.toks+1) X.f.fresh p₄;have J:=he (BF (ρ'.set i (.exc d))) (s:={ s with heap:=h₄,toks:=s.toks+1 }) ⟨hr4,er4,hd4⟩
 rw[hev] at J
 rcases J with J|J
 ·cases J
 refine wpAny_execs_cons (wpAny_Return_some (yV J (fun xv s₅ z=>?_) fun y s₅ z=>?_))
 ·refine hold fun t k_=>?_
  obtain⟨b,H4,π5,z1,z2,z3,z4⟩:=z;refine k_ ?_
  cases z1
  have er5:=er4.step (s':=s₅) z2;obtain⟨m5,hm5⟩:=er5.ns;have g1:=g1.inn X.f z2;refine kR _ _ (wpAny_nameGoes_keeps hkl' hm5 (by simp[X.b.cxk.kind]) fun h₆ v₆ hn₆ sb₆=>?_)
  have p₆:Poke cx.env.locals s₅.heap h₆:=fun b o hb q=>sb₆.extBut b o hb q;have g1:=g1.poke (tk:=s₅.toks+1) X.f.fresh p₆;refine kq _ _ ⟨.ret w,_,_,π5,rfl,g1,⟨z3.freed X.f.res X.f.base er5.locOff p₆ (Ns.nf hn₆),ER.setLocal (am:=am.at res) er5 hm5 hn₆ p₆ X.f.res hctx hkl' uniq (fun q=>absurd rfl q),X.st.hd⟩,fun t=>?_,⟨xv,rfl,z4.free fun b o hb z=>p₆ b o (fun q=>hb (q ▸ X.f.res)) z⟩,trivial⟩;intro u hu k hk
  rw[set_set] at hu;exact ne.set (v:=.uu) (by simp) u hu k hk
 ·obtain⟨_,_,_,_,_,_,z,_⟩:=z;cases z
theorem zln (hg:c.glob (Str.ofString "RingError")=true) (hdm:d∈zad) (hv:c.var v i=true) (hkl:c.names.lookup v=some .local) (hinj:(c.ctx.map (·.2)).Nodup)
  (he:EJ am n false F c ex ey) (X:Stm am n true F c cx A res outer π₀ s₀ (fun z z=>True) ρ π Hc s1)
  (hC:am.mg (Str.ofString d)=some (.ref C)) (g1:Step (Fs outer) π₀ s₀ π' s) (g2:St (am.at res) true cx ρ' π' H' A s) (ne:NoExc ρ') (x₂:XAt (ground outer π₀ s₀.heap) s.heap e (.ref C) (some fl))
  (hev:evE false F (ρ'.set i (.exc d)) ex H'=.ok w H2){Q':Flow→Shared→Prop}{E':Value→Shared→Prop}
  (kq:∀ a s,SOk (am.at res) cx outer true A π₀ s₀ (fun z z=>True) (.ok (.ret w) ((ρ'.set i (.exc d)).set i .uu) H2) a s→Q' a s) :
  wpAny am.M A (handleBy (.ref e) cx.env [.ExceptHandler (some (.Name (Str.ofString "RingError") tp)) (some v) [.Return (some ey) p4] hp]) Q' E' s:=by
 obtain⟨D,XD⟩:=X.b.ok.exc "RingError" (by simp[zad])
 have AS':AS n cx.sk (A.mark (some (.ref e))):=⟨X.b.as.frames,X.b.as.depth,X.b.as.units⟩;have BF:∀ ρ,Base am n false F c cx ρ (A.mark (some (.ref e))):=fun ρ=>⟨X.b.ok,X.b.fn,X.b.ck,X.b.cxk,AS',fun q=>by cases q⟩
 refine wpAny_handleBy_cons (codeAny_handlers_test (zb9 (BF ρ') g2.hr hg XD.name ?_)) (by intro q;cases q)
 refine hold fun z k_=>?_;obtain⟨_,_,oe,vs,w1,w2,w3,w4,_⟩:=id x₂;refine k_ ?_;have LT:Looks am.M s.heap (typeOf (.ref e)) (.ref C):=by
  rw[←w2.1];exact(Looks.ld w1).andThen .now
 have XK:Frag.In am.K s.heap:=fun a o q=>g2.hr.base a o (X.b.ok.K a o q);refine(exm_one (M:=am.M) XK LT (X.b.ok.exm d hdm C D hC XD.name)) _ _ _ _ (fun z z q=>q) ?_;exact zhF hv hkl hinj he X hC g1 g2 ne BF x₂ hev (fun z z h=>h) kq
theorem zqT {body:List PS}{ys:List Stmt}{i:Nat}{ex:PE}{ey:Expr}{v:Str}{p p4 tp hp:Pos}(hbody:SsJ am n true F c body ys) (hg:c.glob (Str.ofString "RingError")=true) (hv:c.var v i=true) (hkl:c.names.lookup v=some .local) (hinj:(c.ctx.map (·.2)).Nodup)
  (he:EJ am n false F c ex ey){cx:Cx}{ρ:List V}{A:Around}{res:List Addr}{outer:List Env}{π₀:List Addr}{s₀:Shared}{π:List Addr}{Hc:H}{s:Shared}(X:Stm am n true F c cx A res outer π₀ s₀ (fun u u=>True) ρ π Hc s) :
  SP (am.at res) cx outer true A π₀ s₀ (fun u u=>True) (fun Q E s=>wpAny am.M A (exec (.Try ys [.ExceptHandler (some (.Name (Str.ofString "RingError") tp)) (some v) [.Return (some ey) p4] hp] [] [] p) cx.env) Q E s)
   (exS true F (.try body "RingError" i [.ret ex]) ρ Hc) s:=by
 rw[zic]
 rcases hbody X with hb|hb
 ·rw[hb];exact .inl rfl
 cases hr:exSs true F body ρ Hc with
 |bad=>exact .inl rfl
 |ok fl ρ' H' =>
  rw[hr] at hb;refine .inr (zdK fun Q' E' kq ke=>wpAny_Try_except (yV hb (fun g s' z=>?_) fun y s' z=>?_))
  ·replace kq:=kq g s' z
   obtain⟨fl',ρ2,H2,π2,z1,z2,z3,z4,z5,z6⟩:=z
   cases fl' with
   |next=>cases z5;exact wpAny_execs_nil kq
   |ret w=>obtain⟨xv,rfl,hxv⟩:=z5;exact kq
  ·obtain⟨_,_,_,_,_,_,_,z,_⟩:=z;cases z
 |err d ρ' H' =>
  rw[hr] at hb;simp only
  by_cases hdc:zad.contains d=true
  ·rw[zT hdc]
   have hdm:d∈zad:=by simpa using hdc
   cases hev:evE false F (ρ'.set i (.exc d)) ex H' with
   |bad=>exact .inl rfl
   |err _ _=>exact .inl rfl
   |ok w H2 =>
    simp only;refine .inr (zdK fun Q' E' kq u=>?_);refine wpAny_Try_except (yV hb (fun g s' z=>?_) fun y s' z=>?_)
    ·obtain⟨_,_,_,_,z,_⟩:=z;cases z
    refine hold fun u k_=>?_;obtain⟨d',ρ2,H3,π',e,C,fl,z1,rfl,hC,g1,g2,ne,x0⟩:=z;refine k_ ?_
    cases z1
    have fr:A.frames=some cx.sk:=X.b.as.frames;have ne:=ne rfl;have fr':A.frames=some (cx.env::outer):=by rw[←X.f.top.1];exact fr
    have fl':=zcf (π₀:=π₀) X.f g2.hr;rw[X.f.top.1] at fl';refine zhX fr' fl' X.f.top.2 x0 fun h₁ x₁ t₁=>?_;have g1:=g1.touch X.f g2.hr t₁;have g2:=g2.touch ne X.low t₁;refine zcA (fr:=none) x₁ fun h₂ x₂ t₂=>?_;have g1:=g1.touch X.f g2.hr t₂;have g2:=g2.touch ne X.low t₂;exact zln hg hdm hv hkl hinj he X hC g1 g2 ne x₂ hev kq
  ·rw[zR hdc];exact .inl rfl
end
noncomputable def yExpr (e:Stmt) (p:Expr→Bool):Bool:=dite (e.ctorIdx=24) (fun hc=>(@Stmt.Expr.elim (fun z=>Bool) e hc fun y z=>p y)) fun z=>false
theorem zlu {p:Expr→Bool}{G:Stmt→Prop}(h:yExpr e p=true) (k:∀ y q,p y=true→G (.Expr y q)):G e :=
 zaf h fun hc h=>@Stmt.Expr.elim (fun e=>∀ hc:e.ctorIdx=24,(@Stmt.Expr.elim (fun z=>Bool) e hc fun y z=>p y)=true→G e) e hc (fun y q z h=>k y q h) hc h
noncomputable def yAsg (e:Stmt) (p:List Expr→Expr→Bool):Bool:=dite (e.ctorIdx=5) (fun hc=>(@Stmt.Assign.elim (fun z=>Bool) e hc fun ts y z=>p ts y)) fun z=>false
theorem zgl {p:List Expr→Expr→Bool}{G:Stmt→Prop}(h:yAsg e p=true) (k:∀ ts y q,p ts y=true→G (.Assign ts y q)):G e :=
 zaf h fun hc h=>@Stmt.Assign.elim (fun e=>∀ hc:e.ctorIdx=5,(@Stmt.Assign.elim (fun z=>Bool) e hc fun ts y z=>p ts y)=true→G e) e hc (fun ts y q z h=>k ts y q h) hc h
noncomputable def yRet (e:Stmt) (p:Option Expr→Bool):Bool:=dite (e.ctorIdx=3) (fun hc=>(@Stmt.Return.elim (fun z=>Bool) e hc fun y z=>p y)) fun z=>false
theorem ziE {p:Option Expr→Bool}{G:Stmt→Prop}(h:yRet e p=true) (k:∀ y q,p y=true→G (.Return y q)):G e :=
 zaf h fun hc h=>@Stmt.Return.elim (fun e=>∀ hc:e.ctorIdx=3,(@Stmt.Return.elim (fun z=>Bool) e hc fun y z=>p y)=true→G e) e hc (fun y q z h=>k y q h) hc h
noncomputable def yIf (e:Stmt) (p:Expr→List Stmt→List Stmt→Bool):Bool:=dite (e.ctorIdx=12) (fun hc=>(@Stmt.If.elim (fun z=>Bool) e hc fun t a b z=>p t a b)) fun z=>false
theorem zn4 {p:Expr→List Stmt→List Stmt→Bool}{G:Stmt→Prop}(h:yIf e p=true) (k:∀ t a b q,p t a b=true→G (.If t a b q)):G e :=
 zaf h fun hc h=>@Stmt.If.elim (fun e=>∀ hc:e.ctorIdx=12,(@Stmt.If.elim (fun z=>Bool) e hc fun t a b z=>p t a b)=true→G e) e hc (fun t a b q z h=>k t a b q h) hc h
noncomputable def yWhile (e:Stmt) (p:Expr→List Stmt→List Stmt→Bool):Bool:=dite (e.ctorIdx=11) (fun hc=>(@Stmt.While.elim (fun z=>Bool) e hc fun t a b z=>p t a b)) fun z=>false
theorem zh8 {p:Expr→List Stmt→List Stmt→Bool}{G:Stmt→Prop}(h:yWhile e p=true) (k:∀ t a b q,p t a b=true→G (.While t a b q)):G e :=
 zaf h fun hc h=>@Stmt.While.elim (fun e=>∀ hc:e.ctorIdx=11,(@Stmt.While.elim (fun z=>Bool) e hc fun t a b z=>p t a b)=true→G e) e hc (fun t a b q z h=>k t a b q h) hc h
noncomputable def yFor (e:Stmt) (p:Expr→Expr→List Stmt→List Stmt→Bool):Bool:=dite (e.ctorIdx=9) (fun hc=>(@Stmt.For.elim (fun z=>Bool) e hc fun t y a b z=>p t y a b)) fun z=>false
theorem zn9 {p:Expr→Expr→List Stmt→List Stmt→Bool}{G:Stmt→Prop}(h:yFor e p=true) (k:∀ t y a b q,p t y a b=true→G (.For t y a b q)):G e :=
 zaf h fun hc h=>@Stmt.For.elim (fun e=>∀ hc:e.ctorIdx=9,(@Stmt.For.elim (fun z=>Bool) e hc fun t y a b z=>p t y a b)=true→G e) e hc (fun t y a b q z h=>k t y a b q h) hc h
noncomputable def yRaise (e:Stmt) (p:Option Expr→Option Expr→Bool):Bool:=dite (e.ctorIdx=16) (fun hc=>(@Stmt.Raise.elim (fun u=>Bool) e hc fun y z u=>p y z)) fun u=>false
theorem ziI {p:Option Expr→Option Expr→Bool}{G:Stmt→Prop}(h:yRaise e p=true) (k:∀ y z q,p y z=true→G (.Raise y z q)):G e :=
 zaf h fun hc h=>@Stmt.Raise.elim (fun e=>∀ hc:e.ctorIdx=16,(@Stmt.Raise.elim (fun u=>Bool) e hc fun y z u=>p y z)=true→G e) e hc (fun y z q u h=>k y z q h) hc h
noncomputable def yPass (e:Stmt) (p:Bool):Bool:=dite (e.ctorIdx=25) (fun hc=>(@Stmt.Pass.elim (fun z=>Bool) e hc fun z=>p)) fun z=>false
theorem zkT {G:Stmt→Prop}(h:yPass e p=true) (k:∀ q,p=true→G (.Pass q)):G e :=
 zaf h fun hc h=>@Stmt.Pass.elim (fun e=>∀ hc:e.ctorIdx=25,(@Stmt.Pass.elim (fun z=>Bool) e hc fun z=>p)=true→G e) e hc (fun q z h=>k q h) hc h
noncomputable def yTry (e:Stmt) (p:List Stmt→List ExceptHandler→List Stmt→List Stmt→Bool):Bool:=dite (e.ctorIdx=17) (fun hc=>(@Stmt.Try.elim (fun z=>Bool) e hc fun a hs b d z=>p a hs b d)) fun z=>false
theorem zmZ {p:List Stmt→List ExceptHandler→List Stmt→List Stmt→Bool}{G:Stmt→Prop}(h:yTry e p=true) (k:∀ a hs b d q,p a hs b d=true→G (.Try a hs b d q)):G e :=
 zaf h fun hc h=>@Stmt.Try.elim (fun e=>∀ hc:e.ctorIdx=17,(@Stmt.Try.elim (fun z=>Bool) e hc fun a hs b d z=>p a hs b d)=true→G e) e hc (fun a hs b d q z h=>k a hs b d q h) hc h
noncomputable def yHand (x:ExceptHandler) (p:Option Expr→Option Str→List Stmt→Bool):Bool:=@ExceptHandler.casesOn (fun z=>Bool) x fun t v b z=>p t v b
theorem zlm {p:Option Expr→Option Str→List Stmt→Bool}{G:ExceptHandler→Prop}(h:yHand x p=true) (k:∀ t v b q,p t v b=true→G (.ExceptHandler t v b q)):G x :=
 @ExceptHandler.casesOn (fun x=>yHand x p=true→G x) x (fun t v b q h=>k t v b q h) h
noncomputable def xStr (e:Expr):Bool:=dite (e.ctorIdx=19) (fun hc=>@Expr.Constant.elim (fun z=>Bool) e hc fun v z z=>decide (v.ctorIdx=(Const.str "").ctorIdx)) fun z=>false
theorem zm6 {G:Expr→Prop}(h:xStr e=true) (k:∀ t n q,G (.Constant (.str t) n q)):G e :=
 zaf h fun hc h=>@Expr.Constant.elim (fun e=>∀ hc:e.ctorIdx=19,(@Expr.Constant.elim (fun z=>Bool) e hc fun v z z=>decide (v.ctorIdx=(Const.str "").ctorIdx))=true→G e) e hc (fun v n q z h=>@Const.str.elim (fun v=>G (.Constant v n q)) v (zV h) fun t=>k t n q) hc h
noncomputable def pComp (e:PE) (p:PE→Nat→PIt→Option PE→Bool):Bool:=match e with|.comp a b c d=>p a b c d|_=>false
theorem zeY {p:PE→Nat→PIt→Option PE→Bool}{G:PE→Prop}(h:pComp e p=true) (k:∀ a b c d,p a b c d=true→G (.comp a b c d)):G e:=by
 cases e<;>first|exact k _ _ _ _ h|exact absurd h Bool.false_ne_true
noncomputable def pOwn (e:PE) (p:PE→Bool):Bool:=match e with|.own a=>p a|_=>false
theorem zkV {p:PE→Bool}{G:PE→Prop}(h:pOwn e p=true) (k:∀ a,p a=true→G (.own a)):G e:=by
 cases e<;>first|exact k _ h|exact absurd h Bool.false_ne_true
noncomputable def pCompO (e:PE) (p:Bool→PE→Bool):Bool:=(pComp e fun a b c d=>p false (.comp a b c d))||pOwn e fun a=>pComp a fun a b c d=>p true (.comp a b c d)
theorem zhv {p:Bool→PE→Bool}{G:PE→Prop}(h:pCompO e p=true) (k:∀ o a b c d,p o (.comp a b c d)=true→G (if o then .own (.comp a b c d) else .comp a b c d)):G e:=by
 rcases(Bool.or_eq_true _ _).mp h with h|h
 ·exact zeY h fun a b c d h=>k false a b c d h
 ·exact zkV h fun a h=>zeY (G:=fun a=>G (.own a)) h fun a b c d h=>k true a b c d h
noncomputable def ckA (c:Ck) (e:PE) (y:Expr):Bool:=(!isComp y&&ckE c e y)||pCompO e fun z e=>ckE c e y
mutual
noncomputable def ckS (c:Ck):PS→Stmt→Bool
 |.expr e,x=>yExpr x fun y=>isCall y&&ckE c e y
 |.asg i e,x=>yAsg x fun ts y=>one ts fun u=>xName u fun v=>c.var v i&&(c.names.lookup v != some .free&&ckA c e y)
 |.asgT is e,x=>yAsg x fun ts y=>one ts fun u=>xTup u fun us=>!isComp y&&(decide (y.ctorIdx≠25)&&(ckTg c is us&&ckE c e y))
 |.setIdx o i e,x=>yAsg x fun ts y=>one ts fun u=>xSub u fun v s=>ckE c o v&&(ckE c i s&&ckE c e y)
 |.ret e,x=>yRet x fun t=>oneO t fun y=>ckE c e y
 |.ifs t a b,x=>yIf x fun t' a' b'=>ckE c t t'&&(ckSs c a a'&&ckSs c b b')
 |.while t a,x=>yWhile x fun t' a' b'=>ckE c t t'&&(ckSs c a a'&&b'.isEmpty)
 |.for1 i it body,x=>yFor x fun t y a b=>b.isEmpty&&(ckIt c it y&&(!isSet y&&((xName t fun v=>c.var v i&&c.names.lookup v != some .free)&&ckSs c body a)))
 |.raise d,x=>yRaise x fun y z=>z.isNone&&oneO y fun e=>xNamed e (Str.ofString d) fun xs=>one xs fun z=>c.glob (Str.ofString d)&&(zad.contains d&&xStr z)
 |.pass,x=>yPass x true
 |_,_=>false
noncomputable def ckSs (c:Ck):List PS→List Stmt→Bool
 |[],xs=>xs.isEmpty
 |p::ps,xs=>(match xs with|x::xs=>ckS c p x&&ckSs c ps xs|[]=>false)
end
noncomputable def pRet (e:PS) (p:PE→Bool):Bool:=match e with|.ret a=>p a|_=>false
theorem zkU {p:PE→Bool}{G:PS→Prop}(h:pRet e p=true) (k:∀ a,p a=true→G (.ret a)):G e:=by
 cases e<;>first|exact k _ h|exact absurd h Bool.false_ne_true
noncomputable def ckHand (c:Ck) (i:Nat) (hd:List PS) (z:ExceptHandler):Bool :=
 one hd fun r=>pRet r fun ex=>yHand z fun t v b=>(oneO t fun e=>zcO e (Str.ofString "RingError") true) &&
  oneO v fun v=>c.var v i&&(c.names.lookup v == some .local&&one b fun b=>yRet b fun r=>oneO r fun ey=>ckE c ex ey)
noncomputable def ckTry (c:Ck) (body:List PS) (d:String) (i:Nat) (hd:List PS) (x:Stmt):Bool :=
 yTry x fun a hs b e=>one hs fun z=>b.isEmpty&&(e.isEmpty&&(decide (d="RingError")&&(ckSs c body a&&(c.glob (Str.ofString "RingError")&&ckHand c i hd z))))
noncomputable def ckT (c:Ck):PS→Stmt→Bool
 |.try body d i hd,x=>ckTry c body d i hd x
 |p,x=>ckS c p x
noncomputable def ckTs (c:Ck):List PS→List Stmt→Bool
 |[],xs=>xs.isEmpty
 |p::ps,xs=>(match xs with|x::xs=>ckT c p x&&ckTs c ps xs|[]=>false)
section
variable {am:Amb}{n:Nat}{F:Fn}
theorem zhk:∃ b,swapsWith (.ListComp e gs scope pos) (some (.Name v p')) l env=pure b:=⟨_,rfl⟩
theorem zhV {q own:Bool}{c:Ck}(hinj:(c.ctx.map (·.2)).Nodup){i j:Nat}{elt:PE}{it:PIt}{cond:Option PE}{v:Str}{y:Expr}{p p':Pos}(hv:c.var v i=true) (hk:c.names.lookup v≠some .free) (h:ckE c (.comp elt j it cond) y=true):SJ am n q F c (.asg i (if own then .own (.comp elt j it cond) else .comp elt j it cond)) (.Assign [.Name v p'] y p):=by
 have hx:=zac (am:=am) (n:=n) (F:=F) q c (.comp elt j it cond) y h;have he:EJ am n q F c (if own then .own (.comp elt j it cond) else .comp elt j it cond) y:=by
  cases own
  ·exact hx.1.1
  ·exact(hx.2 rfl).1
 refine zmn (G:=fun y=>EJ am n q F c (if own then .own (.comp elt j it cond) else .comp elt j it cond) y→SJ am n q F c (.asg i (if own then .own (.comp elt j it cond) else .comp elt j it cond)) (.Assign [.Name v p'] y p)) h (fun el gs scope pos h he=>?_) he;refine zjs (G:=fun gs=>EJ am n q F c (if own then .own (.comp elt j it cond) else .comp elt j it cond) (.ListComp el gs scope pos)→SJ am n q F c (.asg i (if own then .own (.comp elt j it cond) else .comp elt j it cond)) (.Assign [.Name v p'] (.ListComp el gs scope pos) p)) h (fun x' iter ifs px hh he=>?_) he
 have h1:=al hh;have hh:=ar hh;have h2:=nt (al hh);have hh:=ar hh;have h3:=al hh;have hh:=ar hh;have h4:=al hh;have hh:=ar hh;intro cx ρ A res outer π₀ s₀ G π Hc s x;obtain⟨b,hb⟩:=zhk (e:=el) (gs:=[⟨.Name x' px,iter,ifs,0⟩]) (scope:=scope) (pos:=pos) (p':=p') (v:=v) (l:=p.line) (env:=cx.env)
 cases b with
 |false=>exact zc5 hv hk hinj he x hb
 |true =>
  cases q with
  |false=>exact .inl (by cases own<;>rfl)
  |true=>exact zho h2 h3 h4 (zgf c it _ h1) (zac true _ elt _ (al hh)).1.1 (zmB _ cond _ (ar hh)) hv hk hinj x hb
theorem zqw {q:Bool}{c:Ck}(hinj:(c.ctx.map (·.2)).Nodup){i:Nat}{e:PE}{v:Str}{y:Expr}{p p':Pos}(hv:c.var v i=true) (hk:c.names.lookup v≠some .free) (h:ckA c e y=true):SJ am n q F c (.asg i e) (.Assign [.Name v p'] y p):=by
 rcases(Bool.or_eq_true _ _).mp h with h|h
 ·exact fun cx ρ A res outer π₀ s₀ G π Hc s x=>zc5 hv hk hinj (zac (am:=am) (n:=n) (F:=F) q c e y (ar h)).1.1 x (zcU (nt (al h)) _ _ _)
 ·exact zhv (G:=fun e=>SJ am n q F c (.asg i e) (.Assign [.Name v p'] y p)) h fun o a b d e h=>zhV hinj hv hk h
mutual
theorem zmz {c:Ck}(hinj:(c.ctx.map (·.2)).Nodup) (q:Bool):∀ (p:PS) (x:Stmt),ckS c p x=true→SJ am n q F c p x
 |.expr e,x,h=>by
  refine zlu (G:=SJ am n q F c (.expr e)) h fun y p h=>?_;exact zo6 (al h) (zac q c e _ (ar h)).1.1
 |.asg i e,x,h=>by
  refine zgl (G:=SJ am n q F c (.asg i e)) h fun ts y p h=>?_;refine zan (G:=fun ts=>SJ am n q F c (.asg i e) (.Assign ts y p)) h fun u h=>?_;refine zba (G:=fun u=>SJ am n q F c (.asg i e) (.Assign [u] y p)) h fun v p' h=>?_;exact zqw hinj (al h) (bne_iff_ne.mp (al (ar h))) (ar (ar h))
 |.ret e,x,h=>by
  refine ziE (G:=SJ am n q F c (.ret e)) h fun t p h=>?_;refine zaS (G:=fun t=>SJ am n q F c (.ret e) (.Return t p)) h fun y h=>?_;exact zqU (zac q c e _ h).1.1
 |.ifs t a b,x,h=>by
  refine zn4 (G:=SJ am n q F c (.ifs t a b)) h fun t' a' b' p h=>?_;exact zrR (zac q c t _ (al h)).1.2 (zcj hinj q a _ (al (ar h))) (zcj hinj q b _ (ar (ar h)))
 |.for1 i it body,x,h=>by
  refine zn9 (G:=SJ am n q F c (.for1 i it body)) h fun t y a b p h=>?_;refine zaI (G:=fun b=>SJ am n q F c (.for1 i it body) (.For t y a b p)) (al h) ?_;refine zba (G:=fun t=>SJ am n q F c (.for1 i it body) (.For t y a [] p)) (al (ar (ar (ar h)))) fun v p' h7=>?_
  cases q with
  |true=>exact zo5 (nt (al (ar (ar h)))) (zgf c it _ (al (ar h))) (zcj hinj true body _ (ar (ar (ar (ar h))))) (al h7) (bne_iff_ne.mp (ar h7)) hinj
  |false=>exact fun cx ρ A res outer π₀ s₀ G π Hc s x=>.inl rfl
 |.raise d,x,h=>by
  refine ziI (G:=SJ am n q F c (.raise d)) h fun y z p h=>?_;refine zbU (G:=fun z=>SJ am n q F c (.raise d) (.Raise y z p)) (al h) ?_;refine zaS (G:=fun y=>SJ am n q F c (.raise d) (.Raise y none p)) (ar h) fun e h=>?_;refine zay (G:=fun e=>SJ am n q F c (.raise d) (.Raise (some e) none p)) h fun xs q1 q2 h=>?_;refine zan (G:=fun xs=>SJ am n q F c (.raise d) (.Raise (some (.Call (.Name (Str.ofString d) q1) xs [] q2)) none p)) h fun z h=>?_
  refine zm6 (G:=fun z=>SJ am n q F c (.raise d) (.Raise (some (.Call (.Name (Str.ofString d) q1) [z] [] q2)) none p)) (ar (ar h)) fun t k p3=>?_;exact zng (List.contains_iff_mem.mp (al (ar h))) (al h)
 |.pass,x,h=>zkT (G:=SJ am n q F c .pass) h fun p w=>zo4
 |.asgT is e,x,h=>by
  refine zgl (G:=SJ am n q F c (.asgT is e)) h fun ts y p h=>?_;refine zan (G:=fun ts=>SJ am n q F c (.asgT is e) (.Assign ts y p)) h fun u h=>?_;refine zib (G:=fun u=>SJ am n q F c (.asgT is e) (.Assign [u] y p)) h fun us k tp h=>?_
  cases q with
  |true=>exact zo8 (nt (al h)) (zV (al (ar h))) (al (ar (ar h))) hinj (zac true c e _ (ar (ar (ar h)))).1.1
  |false=>exact fun cx ρ A res outer π₀ s₀ G π Hc s x=>.inl rfl
 |.while t a,x,h=>by
  refine zh8 (G:=SJ am n q F c (.while t a)) h fun t' a' b' p h=>?_;refine zaI (G:=fun b'=>SJ am n q F c (.while t a) (.While t' a' b' p)) (ar (ar h)) ?_
  cases q with
  |true=>exact znf (zac true c t _ (al h)).1.2 (zcj hinj true a _ (al (ar h)))
  |false=>exact fun cx ρ A res outer π₀ s₀ G π Hc s x=>.inl rfl
 |.setIdx o i e,x,h=>by
  refine zgl (G:=SJ am n q F c (.setIdx o i e)) h fun ts y p h=>?_;refine zan (G:=fun ts=>SJ am n q F c (.setIdx o i e) (.Assign ts y p)) h fun u h=>?_;refine zd8 (G:=fun u=>SJ am n q F c (.setIdx o i e) (.Assign [u] y p)) h fun v s tp h=>?_;exact zkF (zac q c o _ (al h)).1.1 (zac q c i _ (al (ar h))).1.1 (zac q c e _ (ar (ar h))).1.1
 |.try ..,x,h=>by cases h
theorem zcj {c:Ck}(hinj:(c.ctx.map (·.2)).Nodup) (q:Bool):∀ (ps:List PS) (xs:List Stmt),ckSs c ps xs=true→SsJ am n q F c ps xs
 |[],xs,h=>zaI (G:=SsJ am n q F c []) h zl7
 |p::ps,xs,h=>by
  cases xs with
  |nil=>cases h
  |cons x xs =>
   have h:(ckS c p x&&ckSs c ps xs)=true:=h;exact zm7 (zmz hinj q p x (al h)) (zcj hinj q ps xs (ar h))
end
def YJ (am:Amb) (n:Nat) (F:Fn) (c:Ck) (body hd:List PS) (d:String) (i:Nat) (x:Stmt):Prop:=∀ ⦃cx:Cx⦄ ⦃ρ:List V⦄ ⦃A:Around⦄ ⦃res:List Addr⦄ ⦃outer:List Env⦄ ⦃π₀:List Addr⦄ ⦃s₀:Shared⦄ ⦃π:List Addr⦄ ⦃Hc:H⦄ ⦃s:Shared⦄,
  Stm am n true F c cx A res outer π₀ s₀ (fun z z=>True) ρ π Hc s→SP (am.at res) cx outer true A π₀ s₀ (fun z z=>True) (fun Q E s=>wpAny am.M A (exec x cx.env) Q E s) (exS true F (.try body d i hd) ρ Hc) s
theorem zn6 {c:Ck}(hinj:(c.ctx.map (·.2)).Nodup){body hd:List PS}{i:Nat}{a:List Stmt}{z:ExceptHandler}{p:Pos}(ha:SsJ am n true F c body a) (hg:c.glob (Str.ofString "RingError")=true) (h:ckHand c i hd z=true):YJ am n F c body hd "RingError" i (.Try a [z] [] [] p):=by
 refine zan (G:=fun hd=>YJ am n F c body hd "RingError" i (.Try a [z] [] [] p)) h fun r h=>?_;refine zkU (G:=fun r=>YJ am n F c body [r] "RingError" i (.Try a [z] [] [] p)) h fun ex h=>?_;refine zlm (G:=fun z=>YJ am n F c body [.ret ex] "RingError" i (.Try a [z] [] [] p)) h fun t v b hp h=>?_;refine zaS (G:=fun t=>YJ am n F c body [.ret ex] "RingError" i (.Try a [.ExceptHandler t v b hp] [] [] p)) (al h) fun e h0=>?_
 refine zbw (G:=fun e=>YJ am n F c body [.ret ex] "RingError" i (.Try a [.ExceptHandler (some e) v b hp] [] [] p)) h0 fun tp y=>?_;refine zaS (G:=fun v=>YJ am n F c body [.ret ex] "RingError" i (.Try a [.ExceptHandler (some (.Name (Str.ofString "RingError") tp)) v b hp] [] [] p)) (ar h) fun v h=>?_;have b1:=al h;have b2:=beq_iff_eq.mp (al (ar h));refine zan (G:=fun b=>YJ am n F c body [.ret ex] "RingError" i (.Try a [.ExceptHandler (some (.Name (Str.ofString "RingError") tp)) (some v) b hp] [] [] p)) (ar (ar h)) fun b h=>?_
 refine ziE (G:=fun b=>YJ am n F c body [.ret ex] "RingError" i (.Try a [.ExceptHandler (some (.Name (Str.ofString "RingError") tp)) (some v) [b] hp] [] [] p)) h fun r p4 h=>?_;refine zaS (G:=fun r=>YJ am n F c body [.ret ex] "RingError" i (.Try a [.ExceptHandler (some (.Name (Str.ofString "RingError") tp)) (some v) [.Return r p4] hp] [] [] p)) h fun ey h=>?_;exact fun cx ρ A res outer π₀ s₀ π Hc s X=>zqT ha hg b1 b2 hinj (zac false c ex ey h).1.1 X
theorem zhN {c:Ck}(hinj:(c.ctx.map (·.2)).Nodup){body hd:List PS}{d:String}{i:Nat}{x:Stmt}(h:ckTry c body d i hd x=true):YJ am n F c body hd d i x:=by
 refine zmZ (G:=YJ am n F c body hd d i) h fun a hs b e p h=>?_;refine zan (G:=fun hs=>YJ am n F c body hd d i (.Try a hs b e p)) h fun z h=>?_;refine zaI (G:=fun b=>YJ am n F c body hd d i (.Try a [z] b e p)) (al h) ?_;have h:=ar h;refine zaI (G:=fun e=>YJ am n F c body hd d i (.Try a [z] [] e p)) (al h) ?_;have h:=ar h
 cases zV (al h)
 have h:=ar h;exact zn6 hinj (zcj hinj true _ _ (al h)) (al (ar h)) (ar (ar h))
theorem zlM (hinj:(c.ctx.map (·.2)).Nodup) (q:Bool) (h:ckTry c body d i hd x=true) ⦃cx:Cx⦄ ⦃ρ:List V⦄ ⦃A:Around⦄ ⦃res:List Addr⦄ ⦃outer:List Env⦄ ⦃π₀:List Addr⦄ ⦃s₀:Shared⦄ ⦃π:List Addr⦄ ⦃Hc:H⦄ ⦃s:Shared⦄
  (X:Stm am n q F c cx A res outer π₀ s₀ (fun z z=>True) ρ π Hc s):SP (am.at res) cx outer q A π₀ s₀ (fun z z=>True) (fun Q E s=>wpAny am.M A (exec x cx.env) Q E s) (exS q F (.try body d i hd) ρ Hc) s:=by
 cases q with
 |true=>exact zhN hinj h X
 |false=>exact .inl rfl
def TsJ (am:Amb) (n:Nat) (q:Bool) (F:Fn) (c:Ck) (ps:List PS) (xs:List Stmt):Prop:=∀ ⦃cx:Cx⦄ ⦃ρ:List V⦄ ⦃A:Around⦄ ⦃res:List Addr⦄ ⦃outer:List Env⦄ ⦃π₀:List Addr⦄ ⦃s₀:Shared⦄ ⦃π:List Addr⦄ ⦃Hc:H⦄ ⦃s:Shared⦄,
 Stm am n q F c cx A res outer π₀ s₀ (fun z z=>True) ρ π Hc s→SP (am.at res) cx outer q A π₀ s₀ (fun z z=>True) (fun Q E s=>wpAny am.M A (execs xs cx.env) Q E s) (exSs q F ps ρ Hc) s
theorem zmY
  (h1:∀ ⦃cx:Cx⦄ ⦃ρ:List V⦄ ⦃A:Around⦄ ⦃res:List Addr⦄ ⦃outer:List Env⦄ ⦃π₀:List Addr⦄ ⦃s₀:Shared⦄ ⦃π:List Addr⦄ ⦃Hc:H⦄ ⦃s:Shared⦄,Stm am n q F c cx A res outer π₀ s₀ (fun z z=>True) ρ π Hc s→SP (am.at res) cx outer q A π₀ s₀ (fun z z=>True) (fun Q E s=>wpAny am.M A (exec y cx.env) Q E s) (exS q F p ρ Hc) s)
  (h2:TsJ am n q F c ps ys):TsJ am n q F c (p::ps) (y::ys):=fun cx ρ A res outer π₀ s₀ π Hc s x=>ziw x (h1 x) fun z z z z x'=>h2 x'
theorem zjW (hinj:(c.ctx.map (·.2)).Nodup) (q:Bool):∀ (ps:List PS) (xs:List Stmt),ckTs c ps xs=true→TsJ am n q F c ps xs
 |[],xs,h=>by
  cases xs with
  |nil=>exact fun cx ρ A res outer π₀ s₀ π Hc s x=>zl7 x
  |cons _ _=>cases h
 |p::ps,xs,h=>by
  cases xs with
  |nil=>cases h
  |cons x xs =>
   obtain⟨h1,h2⟩:=yK.mp (show(ckT c p x&&ckTs c ps xs)=true from h);refine zmY ?_ (zjW hinj q ps xs h2);intro cx ρ A res outer π₀ s₀ π Hc s X
   cases p with
   |«try» body d i hd=>exact zlM hinj q h1 X
   |_=>exact zmz hinj q _ _ h1 X
end
theorem zls {α β:Type}{f g:α→Option β}{l:List α}(h:∀ x∈l,f x=g x):l.filterMap f=l.filterMap g:=by
 induction l with
 |nil=>rfl
 |cons a l ih=>rw[filterMap_cons,filterMap_cons,h a (zZ ..),ih fun x hx=>h x (zY _ hx)]
theorem zhE {ns:List Str}(hn:ns.Nodup):∀ {vs:List Value},vs.length=ns.length→ns.filterMap (fun n=>((ns.zip vs).lookup n).map (n,·))=ns.zip vs:=by
 induction ns with
 |nil=>intro vs _;simp
 |cons a ns ih =>
  intro vs hl
  cases vs with
  |nil=>simp at hl
  |cons v vs =>
   rw[yZ] at hn;simp only[zip_cons_cons,filterMap_cons,lookup_cons,beq_self_eq_true,Option.map_some]
   congr 1
   refine Eq.trans (zls fun x hx=>?_) (ih hn.2 (vs:=vs) (by simpa using hl))
   have:(x == a)=false:=by
    rw[beq_eq_false_iff_ne];rintro rfl;exact hn.1 hx
   rw[this]
theorem zf2 {ns:List Str}:∀ {vs:List Value},vs.length=ns.length→∀ n∈ns,((ns.zip vs).lookup n).isSome=true:=by
 induction ns with
 |nil=>intro vs _ n hn;cases hn
 |cons a ns ih =>
  intro vs hl n hn
  cases vs with
  |nil=>simp at hl
  |cons v vs =>
   simp only[zip_cons_cons,lookup_cons]
   cases hq:n == a with
   |true=>rfl
   |false =>
    rcases zN.mp hn with rfl|h
    ·simp at hq
    ·exact ih (by simpa using hl) n h
theorem zhQ :
  ∃ (X Y:Sem (List (Str × Value))) (f:Str × Value→List (Str × Value)→Sem (ForInStep (List (Str × Value)))) (g:List (Str × Value)→Sem (List (Str × Value))),(∀ slots,g slots=pure ((as.map Arg.arg++[]).filterMap fun n=>(List.lookup n slots).map (n,·))) ∧
   bindArgs ⟨nm,qn,⟨[],as,none,[],kd,none,df⟩,body,scope,globals,closure,.none,kwd,doc,pm,an,co,ct,bi⟩ ⟨vals,[]⟩ =
    (if(decide (vals.length > (as.map Arg.arg).length)&&true)=true then X
    else if(!((((as.map Arg.arg).take ((as.map Arg.arg).length - (([]:List Value).drop (([]:List Value).length - (as.map Arg.arg).length)).length)).filter fun n=>(List.lookup n ((as.map Arg.arg).zip vals)).isNone).isEmpty))=true then Y
    else forIn (((as.map Arg.arg).drop ((as.map Arg.arg).length - (([]:List Value).drop (([]:List Value).length - (as.map Arg.arg).length)).length)).zip (([]:List Value).drop (([]:List Value).length - (as.map Arg.arg).length))) ((as.map Arg.arg).zip vals) f >>= g):=by
 refine⟨_,_,_,_,fun z=>rfl,rfl⟩
theorem zhR {fd:FuncData}{vals:List Value}(hp:fd.params.posonlyargs=[]) (hk:fd.params.kwonlyargs=[]) (hv:fd.params.vararg=none) (hw:fd.params.kwarg=none) (hd:fd.defaults=.none)
  (hn:(fd.params.args.map (·.arg)).Nodup) (hl:vals.length=fd.params.args.length):bindArgs fd ⟨vals,[]⟩=pure ((fd.params.args.map (·.arg)).zip vals):=by
 have hl':vals.length=(fd.params.args.map (·.arg)).length:=by simpa using hl
 have hm:((fd.params.args.map (·.arg)).filter fun n=>(((fd.params.args.map (·.arg)).zip vals).lookup n).isNone)=[]:=by
  rw[List.filter_eq_nil_iff];intro n hn';have:=zf2 hl' n hn'
  cases hq:((fd.params.args.map (·.arg)).zip vals).lookup n with
  |none=>rw[hq] at this;cases this
  |some _=>simp
 have hz:=zhE hn hl';obtain⟨nm,qn,⟨po,as,va,ko,kd,kw,df⟩,body,scope,globals,closure,dfl,kwd,doc,pm,an,co,ct,bi⟩:=fd;simp only at hp hk hv hw hd hm hz hl';subst hp hk hv hw hd;obtain⟨X,Y,f,g,hg,e⟩:=zhQ (nm:=nm) (qn:=qn) (as:=as) (kd:=kd) (df:=df) (body:=body) (scope:=scope) (globals:=globals) (closure:=closure) (kwd:=kwd) (doc:=doc) (pm:=pm) (an:=an) (co:=co) (ct:=ct) (bi:=bi) (vals:=vals);rw[e];generalize as.map Arg.arg=ns at hl' hm hz hg
 have hgt:¬ vals.length > ns.length:=by rw[hl'];exact Nat.lt_irrefl _
 rw[List.drop_nil,zR (by simp[hgt]),List.zip_nil_right,zR (by simp[hm])]
 show g (ns.zip vals)=_;rw[hg,append_nil,hz]
noncomputable def ziu:FuncBody→Option (List Stmt)
 |.stmts b=>some b
 |_=>none
noncomputable def ckFn (fns:List String) (nums:List (String × Int)) (d:FnDef) (nm:List String) (fd:FuncData):Bool :=
 let ns:=nm.map Str.ofString
 (match ziu fd.body with|some b=>ckTs ⟨ns.zipIdx,fd.scope.names,fns,nums⟩ d.body b|none=>false) &&
 fd.params.posonlyargs.isEmpty&&fd.params.kwonlyargs.isEmpty&&fd.params.vararg.isNone&&fd.params.kwarg.isNone&&fd.defaults == .none &&
 decide (fd.params.args.map (·.arg)=ns.take d.arity)&&decide (d.arity≤nm.length)&&decide (nm.length≤d.slots)&&decide ns.Nodup &&
 fd.closure.isEmpty&&fd.scope.kind == .function&&!fd.scope.isGenerator&&!fd.scope.isCoroutine&&decide (fd.globals=mainGlobals)&&decide (fd.builtins=builtinsNs) &&
 ns.all (fun x=>fd.scope.names.lookup x == some .local||fd.scope.names.lookup x == some .cell)&&fd.scope.names.all (fun p=>p.2 != .free)
structure FnC (fns:List String) (nums:List (String × Int)) (d:FnDef) (nm:List String) (fd:FuncData):Prop where
 body:∃ b,fd.body=.stmts b∧ckTs ⟨(nm.map Str.ofString).zipIdx,fd.scope.names,fns,nums⟩ d.body b=true
 k2:fd.params.posonlyargs=[]
 k3:fd.params.kwonlyargs=[]
 k4:fd.params.vararg=none
 k5:fd.params.kwarg=none
 k6:fd.defaults=.none
 k7:fd.params.args.map (·.arg)=(nm.map Str.ofString).take d.arity
 k8:d.arity≤nm.length
 k10:(nm.map Str.ofString).Nodup
 k11:fd.closure=[]
 k12:fd.scope.kind=.function
 k13:fd.scope.isGenerator=false
 k14:fd.scope.isCoroutine=false
 k15:fd.globals=mainGlobals
 k16:fd.builtins=builtinsNs
 k17:∀ x∈nm.map Str.ofString,fd.scope.names.lookup x=some .local∨fd.scope.names.lookup x=some .cell
 k18:∀ x,fd.scope.names.lookup x≠some .free
theorem zoz {f:List Stmt→Bool}(h:(match ziu fb with|some b=>f b|none=>false)=true):∃ b,fb=.stmts b∧f b=true:=by
 cases fb with
 |stmts b=>exact⟨b,rfl,h⟩
 |expr e=>cases h
theorem zqp {fns:List String}{nums:List (String × Int)}{d:FnDef}{nm:List String}{fd:FuncData}(h:ckFn fns nums d nm fd=true):FnC fns nums d nm fd :=
 ⟨zoz (al (al (al (al (al (al (al (al (al (al (al (al (al (al (al (al (al (h)))))))))))))))))),
  List.isEmpty_iff.mp (ar (al (al (al (al (al (al (al (al (al (al (al (al (al (al (al (al (h)))))))))))))))))),
  List.isEmpty_iff.mp (ar (al (al (al (al (al (al (al (al (al (al (al (al (al (al (al (h))))))))))))))))),
  Option.isNone_iff_eq_none.mp (ar (al (al (al (al (al (al (al (al (al (al (al (al (al (al (h)))))))))))))))),
  Option.isNone_iff_eq_none.mp (ar (al (al (al (al (al (al (al (al (al (al (al (al (al (h))))))))))))))),
  eq_of_beq (ar (al (al (al (al (al (al (al (al (al (al (al (al (h)))))))))))))),
  zV (ar (al (al (al (al (al (al (al (al (al (al (al (h))))))))))))),
  zV (ar (al (al (al (al (al (al (al (al (al (al (h)))))))))))),
  zV (ar (al (al (al (al (al (al (al (al (h)))))))))),
  List.isEmpty_iff.mp (ar (al (al (al (al (al (al (al (h))))))))),
  eq_of_beq (ar (al (al (al (al (al (al (h)))))))),
  (Bool.not_eq_true' _).mp (ar (al (al (al (al (al (h))))))),
  (Bool.not_eq_true' _).mp (ar (al (al (al (al (h)))))),
  zV (ar (al (al (al (h))))),
  zV (ar (al (al (h)))),
  fun x hx=>or2 (List.all_eq_true.mp (ar (al (h))) x hx),
  fun x hx=>absurd (List.all_eq_true.mp (ar h) _ (zar hx)) (by simp)⟩
structure ProgOK (am:Amb) (P:Tab) (nm:String→List String) (fns:List String) (nums:List (String × Int)):Prop where
 fn:∀ f d a o fd,P f=some d→am.mg (Str.ofString f)=some (.ref a)→am.B.get? a=some o→o.data=.func fd→ckFn fns nums d (nm f) fd=true∧am.B.CodeRec fd.code fd.qualname
 fns:∀ f∈fns,∃ a,FunAt am f a
 nums:∀ p∈nums,∃ t,am.mg (Str.ofString p.1)=some (.int p.2 t)
theorem VR.more {am:Amb}{π:List Addr}{h:Heap}{r:List Addr}{v:V}{x:Value}(new:List Addr) (hl:∀ l∈new,h.get? l=none) (e:VR (am.at r) π h v x):VR (am.at (new++r)) π h v x:=by
 induction new with
 |nil=>exact e
 |cons l new ih=>exact VR.held (am:=am.at (new++r)) (hl l (zZ ..)) (ih fun a ha=>hl a (zY _ ha))
theorem VRs.more {am:Amb}{π:List Addr}{h:Heap}{r:List Addr}{vs:List V}{xs:List Value}(new:List Addr) (hl:∀ l∈new,h.get? l=none) (e:VRs (am.at r) π h vs xs):VRs (am.at (new++r)) π h vs xs:=by
 induction new with
 |nil=>exact e
 |cons l new ih=>exact VRs.held (am:=am.at (new++r)) (hl l (zZ ..)) (ih fun a ha=>hl a (zY _ ha))
set_option tactic.hygienic true in
theorem zcl (names:List (Str × NameKind)) (k:Nat) (acc:List (Str × Addr)) (x:Str) (h:names.lookup x=some .cell∨(acc.lookup x).isSome=true):((cellsFrom k names acc).lookup x).isSome=true:=by
 induction names generalizing k acc with
 |nil=>exact h.elim (fun h=>no h) id
 |cons p r ih =>
  obtain⟨y,kd⟩:=p;unfold cellsFrom
  cases hxy:x == y with
  |true =>
   have hxy:=beq_iff_eq.mp hxy;subst hxy
   split
   ·exact ih _ _ (.inr (by rw[lookup_cons,beq_self_eq_true];rfl))
   ·rename_i hk
    refine ih _ _ (h.imp (fun h=>?_) id);rw[lookup_cons,beq_self_eq_true] at h
    cases h;exact absurd rfl hk
  |false =>
   rw[lookup_cons,hxy] at h
   split
   ·exact ih _ _ (h.imp id fun h=>by rw[lookup_cons,hxy];exact h)
   ·exact ih _ _ h
theorem zhS (kd:Str→Option NameKind) (ns:List Str) (vs:List Value) (m:Str→Option Value) (x:Str) (hx:x ∉ ns):bindL kd (ns.zip vs) m x=m x:=by
 induction ns generalizing vs m with
 |nil=>rfl
 |cons b ns ih=>cases vs with
  |nil=>rfl
  |cons u vs =>
   rw[zN,not_or] at hx;rw[zip_cons_cons,bindL,ih _ _ hx.2]
   split
   ·exact zR hx.1
   ·exact rfl
theorem zj3 (kd:Str→Option NameKind) (ns:List Str) (vs:List Value) (m:Str→Option Value) (hn:ns.Nodup) (hl:vs.length=ns.length) (i:Nat) (x:Str) (v:Value) (h1:ns[i]?=some x) (h2:vs[i]?=some v) (h3:kd x=some .local):bindL kd (ns.zip vs) m x=some v:=by
 induction ns generalizing vs m i with
 |nil=>cases h1
 |cons a ns ih=>cases vs with
  |nil=>cases h2
  |cons w vs =>
   rw[yZ] at hn;rw[zip_cons_cons,bindL]
   cases i with
   |zero =>
    cases h1;cases h2
    rw[zhS _ _ _ _ _ hn.1,zT h3];exact zT rfl
   |succ i=>exact ih vs _ hn.2 (Nat.succ.inj hl) i h1 h2
theorem zhT (kd:Str→Option NameKind) (ns:List Str) (vs:List Value) (m:Str→Option Value) (x:Str) (hx:x ∉ ns):bindC kd (ns.zip vs) m x=m x:=by
 induction ns generalizing vs m with
 |nil=>rfl
 |cons b ns ih=>cases vs with
  |nil=>rfl
  |cons u vs =>
   rw[zN,not_or] at hx;rw[zip_cons_cons,bindC,ih _ _ hx.2]
   split
   ·exact rfl
   ·exact zR hx.1
theorem zj4 (kd:Str→Option NameKind) (ns:List Str) (vs:List Value) (m:Str→Option Value) (hn:ns.Nodup) (hl:vs.length=ns.length) (i:Nat) (x:Str) (v:Value) (h1:ns[i]?=some x) (h2:vs[i]?=some v) (h3:kd x=some .cell):bindC kd (ns.zip vs) m x=some v:=by
 induction ns generalizing vs m i with
 |nil=>cases h1
 |cons a ns ih=>cases vs with
  |nil=>cases h2
  |cons w vs =>
   rw[yZ] at hn;rw[zip_cons_cons,bindC]
   cases i with
   |zero =>
    cases h1;cases h2
    rw[zhT _ _ _ _ _ hn.1,zR (by rw[h3];decide)];exact zT rfl
   |succ i=>exact ih vs _ hn.2 (Nat.succ.inj hl) i h1 h2
theorem zd5 {ns:List Str}{x:Str}{i:Nat}(h:ns.zipIdx.lookup x=some i):ns[i]?=some x:=by
 have:=zar h;rw[List.mem_zipIdx_iff_getElem?] at this
 simpa using this
theorem zeM (ns:List Str):(ns.zipIdx.map (·.2)).Nodup:=by
 have:ns.zipIdx.map (·.2)=List.range ns.length:=by
  apply ext_getElem
  ·simp
  ·intro i h1 h2;simp
 rw[this];exact List.nodup_range
section
variable {am:Amb}{P:Tab}{nm:String→List String}{fns:List String}{nums:List (String × Int)}
theorem VRs.len' (e:VRs am π h vs xs):xs.length=vs.length:=by
 exact e.len
theorem zlS (e:ArgR am q π h vs xs):xs.length=vs.length:=by
 rcases e with e|⟨_,c,a,rfl,rfl,_⟩
 ·exact e.len'
 ·rfl
theorem zlT {am:Amb}{q:Bool}{π:List Addr}{h:Heap}{vs:List V}{xs:List Value}(e:ArgR am q π h vs xs){i:Nat}{v:V}(hv:vs[i]?=some v):∃ x,xs[i]?=some x∧SR am π h v x:=by
 rcases e with e|⟨_,c,a,rfl,rfl,h1,h2⟩
 ·obtain⟨x,h1,h2⟩:=e.get i v hv
  exact⟨x,h1,.inl h2⟩
 ·cases i with
  |zero =>
   simp only[List.getElem?_cons_zero,Option.some.injEq] at hv;subst hv;exact⟨_,rfl,.inr ⟨c,a,rfl,rfl,h1,h2⟩⟩
  |succ i=>simp at hv
set_option tactic.hygienic true in
theorem zmb (ok:AmbX am) (pk:ProgOK am P nm fns nums):∀ n,FnOK am n (run P n)
 |0=>⟨fun res q f a vs xs sk A π Hc s u u u u u=>.inl rfl⟩
 |n+1=>⟨fun res q f a vs xs sk A π Hc s fa as hr hd ha=>by
  have IH:=zmb ok pk n;refine hold fun u k_=>?_;obtain⟨hga,o,fd,ho,hdata⟩:=fa;refine k_ ?_;show JAt _ _ _ _ (match P f with|some d=>runD q (run P n) d vs Hc|Option.none=>.bad) _ _ _
  cases hP:P f with
  |none=>exact .inl rfl
  |some d =>
  simp only;obtain⟨hck,hcode⟩:=pk.fn f d a o fd hP hga ho hdata;unfold runD
  by_cases hlen':¬ vs.length=d.arity
  ·rw[zR hlen'];exact .inl rfl
  have hlen:=Classical.not_not.mp hlen';rw[zT hlen];have k:=zqp hck;refine hold fun u k_=>?_;obtain⟨body,hbody,k1⟩:=k.body;refine k_ ?_
  let ns:=(nm f).map Str.ofString
  let c:Ck:=⟨ns.zipIdx,fd.scope.names,fns,nums⟩
  have hns:ns.Nodup:=k.k10;have hpn:fd.params.args.map (·.arg)=ns.take d.arity:=k.k7;have hnl:ns.length=(nm f).length:=by simp[ns]
  have hxl:xs.length=d.arity:=by rw[zlS ha,hlen]
  have hpl:fd.params.args.length=d.arity:=by
   have:=congrArg List.length hpn;rw[zJ,length_take,hnl,Nat.min_eq_left k.k8] at this;exact this
  have hbind:bindArgs fd ⟨xs,[]⟩=pure ((ns.take d.arity).zip xs):=by
   rw[←hpn];refine zhR k.k2 k.k3 k.k4 k.k5 k.k6 ?_ (hxl.trans hpl.symm);rw[hpn];exact hns.sublist (List.take_sublist _ _)
  have TS:=zjW (am:=am) (n:=n) (F:=run P n) (c:=c) (zeM ns) q d.body body k1;have hlim:s.heap.NoLimit:=ok.nolimit.keeps hr.base
  by_cases hbad:exSs q (run P n) d.body (vs++List.replicate (d.slots - d.arity) .uu) Hc=.bad
  ·rw[hbad];exact .inl rfl
  refine .inr (wpAny_call (codeAny_call_cells (binds:=(ns.take d.arity).zip xs) (body:=body) (o:=o) (fd:=fd) (by unfold recursionLimit;exact as.dk (k:=0) (by decide)) (hr.base a o ho) hdata hlim (hcode.keeps hr.base) hbody hbind k.k11 (fun x hx=>?_) (fun s₁ I=>?_) k.k14 k.k13 k.k12))
  ·have hm:x.1∈ns:=mem_of_mem_take (List.of_mem_zip hx).1
   rcases k.k17 x.1 hm with h|h
   ·exact .inl h
   ·exact .inr ⟨h,zcl _ _ _ _ (.inl h)⟩
  generalize hE:callEnvC fd s.heap.objs.size a=env at I;have eloc:env.locals=s.heap.objs.size:=by rw[←hE];rfl
  have efr:env.frame=some env.locals:=by rw[←hE];rfl
  have esc:env.scope=fd.scope:=by rw[←hE];rfl
  have egl:env.globals=mainGlobals:=by rw[←hE];exact k.k15
  have ebl:env.builtins=builtinsNs:=by rw[←hE];exact k.k16
  have ecl:env.cells=cellsFrom (s.heap.objs.size+1) fd.scope.names []:=by rw[←hE];rfl
  have ekd:∀ x,env.kindOf x=fd.scope.names.lookup x:=fun x=>by unfold Env.kindOf;rw[esc]
  have hfresh:∀ b,s.heap.objs.size≤b→s.heap.get? b=none:=fun b hb=>by
   cases hq:s.heap.get? b with
   |none=>rfl
   |some o'=>exact absurd (Heap.lt_size hq) (Nat.not_lt_of_le hb)
  have fL:s.heap.get? env.locals=none:=hfresh _ (by rw[eloc];exact Nat.le_refl _)
  have fC:∀ x cc,(x,cc)∈env.cells→s.heap.get? cc=none:=fun x cc h=>hfresh _ (Nat.le_of_lt (eloc ▸ I.above x cc h))
  let new:List Addr:=env.locals::env.cells.filterMap fun p=>env.cells.lookup p.1
  have hcm:∀ l,l∈env.cells.filterMap (fun p=>env.cells.lookup p.1)→∃ y,env.cells.lookup y=some l:=by
   intro l hl;obtain⟨p,_,h2⟩:=List.mem_filterMap.mp hl;exact⟨p.1,h2⟩
  have hmc:∀ y l,env.cells.lookup y=some l→l∈env.cells.filterMap (fun p=>env.cells.lookup p.1):=fun y l h=>List.mem_filterMap.mpr ⟨(y,l),mem_of_lookup h,h⟩;have hnew:∀ l∈new,s.heap.get? l=none:=by
   intro l hl
   rcases zN.mp hl with rfl|hl
   ·exact fL
   ·obtain⟨y,h1⟩:=hcm l hl
    exact fC y l (mem_of_lookup h1)
  have keep:=I.toInCall.keep;have nfL:=Ns.nf I.toInCall.ns;have bn:∀ l,s.heap.get? l=none→am.B.get? l=none:=fun l h=>zal hr.base h;have hdn:∀ a'∈π,∃ o,s.heap.get? a'=some o:=by
   intro a' ha';obtain⟨i,hi,e1⟩:=getElem_of_mem ha';have h1:π[i]?=some a':=by rw[zM hi,e1]
   have h2:i < Hc.length:=by rw[←hr.len];exact hi
   obtain⟨o,ho,_⟩:=(hr.cell i Hc[i] a' (by simp[h2]) h1).obj
   exact⟨o,ho⟩
  have offN:∀ l,s.heap.get? l=none→l ∉ π:=fun l h hm=>by obtain⟨o,ho⟩:=hdn l hm;rw[h] at ho;cases ho
  let cx:Cx:=⟨env,env::sk,ns.zipIdx⟩
  have hr1:HR (am.at (new++res)) (env::sk) π Hc s₁.heap:=by
   refine⟨fun b o e=>keep b o (hr.base b o e),⟨by rw[esc,k.k12];simp,?_,hr.frames.of_keeps fun b o e u=>⟨o,keep b o e,rfl⟩⟩,hr.len,hr.nodup,?_,?_,?_⟩
   ·obtain⟨o,ho,hn⟩:=nfL
    exact⟨env.locals,o,efr,bn _ fL,ho,hn⟩
   ·intro l hl
    rcases zP.mp hl with hl|hl
    ·rcases zN.mp hl with rfl|hl
     ·exact nfL
     ·obtain⟨y,h1⟩:=hcm l hl
      obtain⟨o,ho,hd'⟩:=I.cell y l h1;exact⟨o,ho,fun us q=>by rw[hd'] at q;cases q⟩
    ·obtain⟨o,ho,hn⟩:=hr.res l hl
     exact⟨o,keep l o ho,hn⟩
   ·intro l hl
    refine⟨(hr.off l hl).1,?_⟩;rw[filterMap_cons,efr];rw[zN,not_or];exact⟨fun q=>offN _ fL (q ▸ hl),(hr.off l hl).2⟩
   ·intro i cc l h1 h2
    obtain⟨o,ys,q0,q1,q2,q3⟩:=hr.cell i cc l h1 h2;exact(show CellAt (am.at (new++res)) π s.heap cc l from⟨o,ys,q0,q1,q2,VRs.more new hnew q3⟩).keeps keep
  have sr1:∀ {v:V}{x:Value},SR (am.at res) π s.heap v x→SR (am.at (new++res)) π s₁.heap v x:=by
   intro v x e
   rcases e with e|⟨d',b,e1,e2,e3,C,o',us,e4,e5,e6⟩
   ·exact .inl ((VR.more new hnew e).keeps keep)
   ·exact .inr ⟨d',b,e1,e2,e3,C,o',us,e4,keep b o' e5,e6⟩
  have er1:ER (am.at (new++res)) cx (vs++List.replicate (d.slots - d.arity) .uu) π s₁.heap:=by
   refine⟨⟨_,I.toInCall.ns⟩,offN _ fL,fun y l hl=>⟨offN _ (fC y l (mem_of_lookup hl)),?_,_,I.cell y l hl⟩,fun x y l h1 h2=>?_,fun x i v h1 h2 h3 h4=>?_⟩
   ·exact Nat.ne_of_gt (I.above y l (mem_of_lookup hl))
   ·exact name_of_addr I.apart (mem_of_lookup h1) (mem_of_lookup h2)
   ·have hx:ns[i]?=some x:=zd5 h1
    have hi:i < vs.length:=by
     rcases Nat.lt_or_ge i vs.length with h|h
     ·exact h
     ·rw[List.getElem?_append_right h] at h2
      have:=mem_of_getElem? h2;rw[List.mem_replicate] at this;exact absurd this.2 h3
    rw[List.getElem?_append_left hi] at h2;obtain⟨xv,h5,h6⟩:=zlT ha h2;have hxi:(ns.take d.arity)[i]?=some x:=by rw[List.getElem?_take_of_lt (hlen ▸ hi)];exact hx
    have hnt:(ns.take d.arity).Nodup:=hns.sublist (List.take_sublist _ _);have hlt:xs.length=(ns.take d.arity).length:=by rw[length_take,hnl,Nat.min_eq_left k.k8];exact hxl
    refine⟨xv,?_,sr1 h6⟩
    rcases k.k17 x (mem_of_getElem? hx) with hk|hk
    ·have hk':env.kindOf x=some .local:=by rw[ekd];exact hk
     exact .inl ⟨hk',_,I.toInCall.ns,zj3 _ _ _ _ hnt hlt i x xv hxi h5 hk'⟩
    ·have hk':env.kindOf x=some .cell:=by rw[ekd];exact hk
     have hcs:=zcl fd.scope.names (s.heap.objs.size+1) [] x (.inl hk);rw[←ecl] at hcs;obtain⟨l,hl⟩:=Option.isSome_iff_exists.mp hcs;refine .inr ⟨.inl hk',l,hl,?_⟩;have:=I.cell x l hl;rw[zj4 _ _ _ _ hnt hlt i x xv hxi h5 hk'] at this;exact this
  have as1:AS n (env::sk) (A.deeper env):=by
   refine⟨?_,?_,?_⟩
   ·show A.frames.map (env::·)=_;rw[as.frames];rfl
   ·show A.depth+1+n < 800;rw[Nat.add_assoc,Nat.add_comm 1 n];exact as.depth
   ·exact Nat.lt_of_le_of_lt (by show A.units+3+10 * n≤A.units+10 * (n+1);rw[Nat.add_assoc];exact Nat.add_le_add_left (by rw[Nat.mul_succ,Nat.add_comm];exact Nat.add_le_add_left (by decide) _) _) as.units
  have hd1:Hd q (A.deeper env) π (Fs (env::sk)) s₁.heap:=by
   unfold Hd at hd ⊢
   split
   ·rename_i hq;rw[zT hq] at hd;exact hd
   ·rename_i hq
    rw[zR hq] at hd;refine hold fun u k_=>?_;obtain⟨he,o',us,e1,e2,e3,e4,e5⟩:=hd;refine k_ ?_;refine⟨he,o',us,e1,e2,?_,keep he o' e4,e5⟩;simp only[Fs,filterMap_cons,efr,zN,not_or];exact⟨(fun q'=>by rw[q',fL] at e4;cases e4),e3⟩
  have topE:TopEnv env:=⟨by rw[esc];exact k.k13,by rw[esc];exact k.k14,egl,ebl⟩
  have cxk:CxOK cx:=by
   refine⟨fun x hx=>?_,by show env.scope.kind=_;rw[esc];exact k.k12,egl,ebl,⟨env,sk,rfl,rfl,topE⟩⟩
   rcases hx with hx|hx
   ·have hx:fd.scope.names.lookup x=some .cell:=by rw[←ekd];exact hx
    have hcs:=zcl fd.scope.names (s.heap.objs.size+1) [] x (.inl hx);rw[←ecl] at hcs;exact Option.isSome_iff_exists.mp hcs
   ·have hx:fd.scope.names.lookup x=some .free:=by rw[←ekd];exact hx
    exact absurd hx (k.k18 x)
  have ne1:q=true→NoExc (vs++List.replicate (d.slots - d.arity) .uu):=by
   intro hq v hv k hk;subst hk
   rcases zP.mp hv with hv|hv
   ·rcases ha with ha|⟨h,_⟩
    ·obtain⟨i,hi,e1⟩:=getElem_of_mem hv
     obtain⟨x,_,h2⟩:=ha.get i (.exc k) (by rw[zM hi,e1])
     exact h2
    ·rw[hq] at h;cases h
   ·rw[List.mem_replicate] at hv;cases hv.2
  have st1:Step (Fs sk) π s π s₁:=by
   obtain⟨h',tk,e⟩:=I.toInCall.same;exact⟨⟨h',tk,e⟩,.of_keeps keep,[],by simp,by simp⟩
  have X:Stm am n q (run P n) c cx (A.deeper env) (new++res) sk π s (fun u u=>True) (vs++List.replicate (d.slots - d.arity) .uu) π Hc s₁ :=
   ⟨⟨ok,IH,⟨rfl,by show env.scope.names=_;rw[esc],pk.fns,pk.nums⟩,cxk,as1,ne1⟩,
    ⟨⟨rfl,efr⟩,zP.mpr (.inl zZ),bn _ fL,fL,fun y l hl=>⟨zP.mpr (.inl (zY _ (hmc y l hl))),bn _ (fC y l (mem_of_lookup hl)),fC y l (mem_of_lookup hl)⟩⟩,
    st1,⟨hr1,er1,hd1⟩,fun b o e=>hideAll_get _ (hr.base b o e) (by
     rw[zP,not_or];refine⟨fun hm=>?_,fun hm=>?_⟩
     ·have z:am.B.get? b=none:=(hr.off b hm).1
      rw[z] at e;cases e
     ·have z:am.B.get? b=none:=(hr.frames.mem hm).1
      rw[z] at e;cases e),trivial,fun u u u u u u=>trivial⟩
  have down:∀ {π':List Addr}{H':H}{h':Heap},HR (am.at (new++res)) (env::sk) π' H' h'→HR (am.at res) sk π' H' h':=fun {π' H' h'} z=>by
   have z:=HR.sub (am:=am) (r:=new++res) (r':=res) (fun a ha=>zP.mpr (.inr ha)) z;refine⟨z.base,z.frames.2.2,z.len,z.nodup,z.res,fun a ha=>⟨(z.off a ha).1,?_⟩,z.cell⟩;have:=(z.off a ha).2;rw[filterMap_cons,efr,zN,not_or] at this;exact this.2
  rcases TS X with h|h
  ·exact absurd h hbad
  refine yV h (fun fl s' z=>?_) fun y s' z=>?_
  ·refine hold fun u k_=>?_
   obtain⟨fl',ρ',H',π',z1,z2,z3,z4,z5,_⟩:=z;refine k_ ?_;rw[z1]
   cases fl' with
   |next=>cases z5;exact⟨.none,H',π',rfl,z2,down z3.hr,rfl⟩
   |ret w=>obtain⟨xv,rfl,hxv⟩:=z5;exact⟨w,H',π',rfl,z2,down z3.hr,hxv.sub fun a ha=>zP.mpr (.inr ha)⟩
  ·refine hold fun u k_=>?_
   obtain⟨d',ρ',H',π',e,C,fl,z1,rfl,z3,z4,z5,z6,z7⟩:=z;refine k_ ?_;have fl':=zcf (π₀:=π) X.f z5.hr;refine zmK as1.frames fl' efr z7 fun h' x' t'=>?_;rw[z1];refine⟨d',H',π',e,C,_,rfl,rfl,z3,z4.touch X.f z5.hr t',?_,x'⟩;exact(down z5.hr).upto t'.slots fun b o e=>t'.stays b o (X.low b o e)⟩
end
end Mine
namespace Mine
noncomputable def forkR {α:Type}(o:Option Bool) (a b:Unit→R α):R α :=
 match o with
 |some true=>a ()
 |some false=>b ()
 |none=>.bad
noncomputable def forkS (o:Option Bool) (a b:Unit→RS):RS :=
 match o with
 |some true=>a ()
 |some false=>b ()
 |none=>.bad
noncomputable def tabOf (tl:List (String × FnDef × List String)):Tab:=fun f=>(tl.lookup f).map (·.1)
noncomputable def nmOf (tl:List (String × FnDef × List String)):String→List String:=fun f=>((tl.lookup f).map (·.2)).getD []
variable (q:Bool) (F:Fn) (ρ:List V) (h:H)
@[simp] theorem truthy_bool (b:Bool):truthy (.bool b)=some b:=rfl
@[simp] theorem e_and2 (e d:PE) (es:List PE):evAnd q F ρ (e::d::es) h=(evE q F ρ e h).bind fun x h=>forkR (truthy x) (fun z=>evAnd q F ρ (d::es) h) (fun z=>.ok x h):=rfl
@[simp] theorem s_ifs (t:PE) (a b:List PS):exS q F (.ifs t a b) ρ h=(evE q F ρ t h).st ρ fun x h=>forkS (truthy x) (fun z=>exSs q F a ρ h) (fun z=>exSs q F b ρ h):=rfl
def V.val:V→Prop
 |.uu=>False
 |.exc _=>False
 |_=>True
@[simp] theorem e_and (es:List PE):evE q F ρ (.and es) h=evAnd q F ρ es h:=rfl
@[simp] theorem e_cmp (op:Cop) (a b:PE):evE q F ρ (.cmp op a b) h=(evE q F ρ a h).bind fun x h=>(evE q F ρ b h).bind fun y h=>R.opt ((pyCmp op h x y).map .bool) h:=rfl
@[simp] theorem e_slice (a:PE) (lo hi:Option PE):evE q F ρ (.slice a lo hi) h=(evE q F ρ a h).bind fun x h=>(evO q F ρ lo h).bind fun l h=>(evO q F ρ hi h).bind fun u h=>R.opt (zas h x l u) h:=rfl
noncomputable def lstR (r:R (List V)):R V :=
 match r with
 |.ok r h=>R.opt (mkL r) h
 |_=>.bad
@[simp] theorem lstR_ok (r:List V):lstR (.ok r h)=R.opt (mkL r) h:=rfl
@[simp] theorem e_comp (elt:PE) (x:Nat) (it:PIt) (cond:Option PE):evE q F ρ (.comp elt x it cond) h=if !q then .bad else(evIt q F ρ it h).bind fun vs h =>
   lstR (compL vs.2 (fun v h=>evE q F (ρ.set x v) elt h) (fun v h=>evC q F (ρ.set x v) cond h) vs.1 h):=rfl
@[simp] theorem zbi (e:PE) (es:List PE):evEs q F ρ (e::es) h=(evE q F ρ e h).bind fun v h=>(evEs q F ρ es h).bind fun vs h=>.ok (v::vs) h:=rfl
@[simp] theorem i_seq (e:PE):evIt q F ρ (.seq e) h=(evE q F ρ e h).bind fun x h=>R.opt (iterOf h x) h:=rfl
noncomputable def rngR (v:V) (h:H):R (List V × Watch) :=
 match v with
 |.int n=>if -1000000≤n∧n≤1000000 then .ok (upto n,Option.none) h else .bad
 |_=>.bad
theorem zkI (h1:-1000000≤n) (h2:n≤1000000):rngR (.int n) h=.ok (upto n,Option.none) h:=by simp[rngR,h1,h2]
@[simp] theorem i_range1 (a:PE):evIt q F ρ (.range1 a) h=(evE q F ρ a h).bind fun x h=>rngR x h:=rfl
@[simp] theorem ss_cons' (s:PS) (ss:List PS):exSs q F (s::ss) ρ h=(exS q F s ρ h).then fun ρ h=>exSs q F ss ρ h:=rfl
@[simp] theorem s_expr' (e:PE):exS q F (.expr e) ρ h=(evE q F ρ e h).st ρ fun v h=>noneS v ρ h:=rfl
@[simp] theorem s_asg' (x:Nat) (e:PE):exS q F (.asg x e) ρ h=(evE q F ρ e h).st ρ fun v h=>.ok .next (ρ.set x v) h:=rfl
@[simp] theorem s_ret' (e:PE):exS q F (.ret e) ρ h=(evE q F ρ e h).st ρ fun v h=>.ok (.ret v) ρ h:=rfl
@[simp] theorem s_for1' (x:Nat) (it:PIt) (body:List PS):exS q F (.for1 x it body) ρ h=if !q then .bad else(evIt q F ρ it h).st ρ fun vs h=>forL vs.2 (bind1 x) (fun ρ h=>exSs q F body ρ h) vs.1 ρ h:=rfl
noncomputable def catchS (c:String) (r:RS) (f:String→List V→H→RS):RS :=
 match r with
 |.err d ρ h=>if zad.contains d&&c == "RingError" then f d ρ h else .bad
 |r=>r
noncomputable def doneS (x:Nat) (r:RS):RS :=
 match r with
 |.ok f ρ h=>.ok f (ρ.set x .uu) h
 |_=>.bad
theorem zhP (d:String) (hd:d∈zad) (f:String→List V→H→RS):catchS "RingError" (.err d ρ h) f=f d ρ h:=by simp[catchS,hd]
@[simp] theorem s_try' (body:List PS) (c:String) (x:Nat) (hd:List PS):exS q F (.try body c x hd) ρ h=if !q then .bad else catchS c (exSs q F body ρ h) fun d ρ h=>doneS x (exSs false F hd (ρ.set x (.exc d)) h):=by
 rw[zpa]
 cases q with
 |false=>rfl
 |true =>
  unfold catchS
  cases exSs true F body ρ h with
  |ok f ρ h=>rfl
  |bad=>rfl
  |err d ρ h =>
   show(if(zad.contains d&&c == "RingError")=true then _ else _)=(if(zad.contains d&&c == "RingError")=true then _ else _)
   by_cases e:(zad.contains d&&c == "RingError")=true
   ·rw[zT e,zT e]
    cases exSs false F hd (ρ.set x (.exc d)) h<;>rfl
   ·rw[zR e,zR e]
theorem zni (d:FnDef) (vs:List V) (hl:vs.length=d.arity):runD q F d vs h=(exSs q F d.body (vs++List.replicate (d.slots - d.arity) .uu) h).out:=by
 simp[runD,hl]
theorem za1 {vs:List V}(hl:vs.length≤1000000):mkL vs=some (.l vs):=by simp[mkL,hl]
theorem zpG (hl:vs.length≤1000000):mkT vs=some (.tup vs):=by simp[mkT,hl]
theorem zaK (hv:v.plain=true) (h:H):pcall h (.ok v h)=.ok v h:=by
 simp[pcall,frz,zaG _ v hv]
theorem zc9 (h n:H) (hv:frz h.length (h++n) v=some w):pcall h (.ok v (h++n))=.ok w h:=by
 simp[pcall,hv]
@[simp] theorem pcall_err0 (c:String) (h:H):pcall h (.err c h)=.err c h:=by simp[pcall]
theorem zeD (h:H) (i:Nat) (vs:List V) (e:h[i]?=some (.list vs)):isTy h (.ref i) .list=some true:=by show refTy h[i]? _=_;rw[e];rfl
@[simp] theorem cmp_lt_int (h:H) (a b:Int):pyCmp .lt h (.int a) (.int b)=some (decide (a < b)):=rfl
@[simp] theorem cmp_gt_int (h:H) (a b:Int):pyCmp .gt h (.int a) (.int b)=some (decide (b < a)):=rfl
@[simp] theorem cmp_le_int (h:H) (a b:Int):pyCmp .le h (.int a) (.int b)=some (decide (a≤b)):=by
 show some (!decide (b < a))=_
 by_cases e:b < a
 ·rw[zW e,zU (Int.not_le.2 e)];rfl
 ·rw[zU e,zW (Int.not_lt.1 e)];rfl
theorem zdP (h:H) (ha:a.plain=true) (hb:b.plain=true) (oa:V.ok 8 a=true) (ob:V.ok 8 b=true):pyEq h a b=some (peq a b):=by
 simp[pyEq,frz,zaG _ a ha,zaG _ b hb,oa,ob]
@[simp] theorem pyEq_int (h:H) (a b:Int):pyEq h (.int a) (.int b)=some (decide (a=b)):=by
 rw[zdP h rfl rfl rfl rfl];simp only[zkR,zkS,zfU,znA,znz,zeg,Option.some.injEq];exact Bool.eq_iff_iff.2 (by simp)
theorem zgg (h:H) (a b:Int) (e:b.natAbs < 9223372036854775808):pyBin .mul h (.int a) (.int b)=some (.int (a * b)):=zT (.inr (.inl e))
theorem zfm (h:H) (a b:Int) (e:b≠0):pyBin .fdiv h (.int a) (.int b)=some (.int (a.fdiv b)):=zR e
theorem zgh (h:H) (a b:Int) (e:b≠0):pyBin .mod h (.int a) (.int b)=some (.int (a.fmod b)):=zR e
theorem zlr (a b:Nat):(a:Int).fmod (b:Int)=((a % b:Nat):Int):=by
 rw[Int.fmod_eq_emod_of_nonneg _ (Int.natCast_nonneg b)];rfl
theorem zgU (a b:Nat):(a:Int).fdiv (b:Int)=((a / b:Nat):Int):=by
 rw[Int.fdiv_eq_ediv_of_nonneg _ (Int.natCast_nonneg b)];rfl
theorem zaa {h:H}{v:V}{vs:List V}(e:litems h v=some vs):v=.l vs∨∃ i,v=.ref i∧h[i]?=some (.list vs):=by
 cases v with
 |l us=>exact .inl (congrArg V.l (Option.some.inj e))
 |ref i =>
  refine .inr ⟨i,rfl,?_⟩;change (match h[i]? with|some (.list us)=>some us|_=>Option.none)=_ at e
  cases hc:h[i]? with
  |none=>rw[hc] at e;cases e
  |some c =>
   rw[hc] at e
   cases c with
   |dict es=>cases e
   |list us=>cases e;rfl
 |_=>cases e
theorem zml {h:H}{w:V}{vs:List V}(hl:litems h w=some vs):Mine.bf .len h w=some (.int vs.length):=by
 rcases zaa hl with rfl|⟨i,rfl,hc⟩
 ·rfl
 ·show(match h[i]? with|some (.list vs)=>some (V.int vs.length)|some (.dict es)=>some (.int es.length)|none=>Option.none)=_
  rw[hc]
theorem zjl {h:H}{w:V}{vs:List V}(hl:litems h w=some vs):isTy h w .list=some true:=by
 rcases zaa hl with rfl|⟨i,rfl,hc⟩
 ·rfl
 ·exact zeD _ _ _ hc
theorem zn1 {h:H}{w:V}{vs:List V}(hl:litems h w=some vs):∃ t:Watch,iterOf h w=some (vs,t)∧t.ok h=true:=by
 rcases zaa hl with rfl|⟨i,rfl,hc⟩
 ·exact⟨Option.none,rfl,rfl⟩
 ·exact⟨some (i,.list vs),by show(match h[i]? with|some (.list vs)=>some (vs,some (i,Cell.list vs))|some (.dict es)=>some (es.map Prod.fst,some (i,.dict es))|none=>Option.none)=_;rw[hc],zW hc⟩
noncomputable def okV (h:H) (v:V):Prop :=
 match v with
 |.uu=>False
 |.exc _=>False
 |.ref i=>(h[i]?).isSome=true
 |_=>True
theorem okV.val (hv:okV h v):v.val:=by
 cases v<;>first|trivial|exact hv.elim
theorem zbC {h:H}{w:V}{vs:List V}(hl:litems h w=some vs):okV h w:=by
 rcases zaa hl with rfl|⟨i,rfl,hc⟩
 ·trivial
 ·show(h[i]?).isSome=true
  rw[hc];rfl
@[simp] theorem asBools_map {α:Type}(l:List α) (f:α→Bool):zbs (l.map fun v=>.bool (f v))=some (l.map f):=by
 induction l with
 |nil=>rfl
 |cons a l ih =>
  show(zbs (l.map fun v=>.bool (f v))).map (f a::·)=_;rw[ih];rfl
@[simp] theorem bf_all:Mine.bf .all h (.l vs)=(zbs vs).map fun bs=>.bool (bs.all id):=rfl
theorem zab {h:H}{i:Nat}{vs:List V}(hc:h[i]?=some (.list vs)):litems h (.ref i)=some vs:=by show(match h[i]? with|some (.list us)=>some us|_=>Option.none)=_;rw[hc]
@[simp] theorem litems_lst (h:H) (vs:List V):litems h (.l vs)=some vs:=rfl
theorem zbV {h:H}{i:Nat}{vs:List V}(hc:h[i]?=some (.list vs)):lcell h (.ref i)=true:=by simp[lcell,hc]
theorem za0 {h:H}{i:Nat}{vs:List V}(hc:h[i]?=some (.list vs)) (f:List V→Option (V × List V)) (v:V) (vs':List V) (e:f vs=some (v,vs')) (hl:vs'.length≤1000000) :
  onList h (.ref i) f=.ok v (h.set i (.list vs')):=by simp[onList,hc,e,hl]
theorem zai {q:Bool}{F:Fn}{x:Nat}{e:PE}{ss:List PS}{ρ ρ':List V}{h h':H}{v:V}{r:R V}(he:evE q F ρ e h=.ok v h') (hρ:ρ.set x v=ρ') (k:(exSs q F ss ρ' h').out=r):(exSs q F (.asg x e::ss) ρ h).out=r:=by
 subst hρ;rw[ss_cons',s_asg',he];exact k
theorem zaA {q:Bool}{F:Fn}{e:PE}{ss:List PS}{ρ:List V}{h h':H}{v:V}(he:evE q F ρ e h=.ok v h'):(exSs q F (.ret e::ss) ρ h).out=.ok v h':=by
 rw[ss_cons',s_ret',he];rfl
theorem zcw {q:Bool}{F:Fn}{e:PE}{ss:List PS}{ρ:List V}{h h':H}{r:R V}(he:evE q F ρ e h=.ok .none h') (k:(exSs q F ss ρ h').out=r):(exSs q F (.expr e::ss) ρ h).out=r:=by
 rw[ss_cons',s_expr',he];exact k
theorem zcK (q:Bool) (F:Fn) (a b:List PS) (ρ:List V) (h:H):exSs q F (a++b) ρ h=(exSs q F a ρ h).then fun ρ h=>exSs q F b ρ h:=by
 induction a generalizing ρ h with
 |nil=>rfl
 |cons s a ih =>
  rw[cons_append,ss_cons',ss_cons']
  cases exS q F s ρ h with
  |bad=>rfl
  |err c ρ h=>rfl
  |ok f ρ h=>cases f with
   |next=>simp only[RS.then_next];exact ih ρ h
   |ret v=>rfl
theorem zej {q:Bool}{F:Fn}{t:PE}{a b ss:List PS}{ρ:List V}{h h':H}{r:R V}(ht:evE q F ρ t h=.ok (.bool true) h') (k:(exSs q F (a++ss) ρ h').out=r):(exSs q F (.ifs t a b::ss) ρ h).out=r:=by
 rw[ss_cons',s_ifs,ht];rw[zcK] at k;exact k
theorem zbH {q:Bool}{F:Fn}{t:PE}{a b ss:List PS}{ρ:List V}{h h':H}{r:R V}(ht:evE q F ρ t h=.ok (.bool false) h') (k:(exSs q F (b++ss) ρ h').out=r):(exSs q F (.ifs t a b::ss) ρ h).out=r:=by
 rw[ss_cons',s_ifs,ht];rw[zcK] at k;exact k
end Mine
namespace Mine
open PySem PySem.W PyProof.Rows
theorem zgE {f:Addr→Bool}(h:refB o f=true):∃ C,o=some (some (.ref C))∧f C=true:=by
 cases o with
 |none=>exact noB h
 |some o=>cases o with
  |none=>exact noB h
  |some v=>cases v<;>first|exact noB h|exact⟨_,rfl,h⟩
noncomputable def zfK (p:Program):Bool:=zad.all fun c=>specOf p (Str.ofString c) == some ("ValueError.__new__",[.type "ValueError",.type "Exception",.type "BaseException",.type "object"])
noncomputable def defChk (p:Program) (fns:List String) (nums:List (String × Int)) (tl:List (String × FnDef × List String)):Bool :=
 tl.all fun t=>match (recsOf p).find? (fun r=>r.name == Str.ofString t.1) with
  |some r=>ckFn fns nums t.2.1 t.2.2 (Calls.docDef r.name r.params r.body r.scope .none .none .none)
  |none=>false
noncomputable def fnsChk (p:Program) (fns:List String):Bool:=fns.all fun f=>((recsOf p).find? (fun r=>r.name == Str.ofString f)).isSome
theorem zll (h:intB o i=true):∃ t,o=some (some (.int i t)):=by
 cases o with
 |none=>exact noB h
 |some o=>cases o with
  |none=>exact noB h
  |some v=>cases v<;>first|exact noB h|exact⟨_,by rw[eq_of_beq (show(_ == i)=true from h)]⟩
section
variable {p prog:Program}{w:World}{loose:List Str}{mean:ExcName→Option Value}{mg mb:Str→Option Value}{h:Heap}{K:Frag}
theorem zmw (X:K.In h) (G:h.Ns mainGlobals mg) (hx:excChk K=true) (hc:c∈zad):∃ C,mg (Str.ofString c)=some (.ref C)∧excOne K c C=true:=by
 obtain⟨C,e,x⟩:=zgE (List.all_eq_true.mp hx c hc);exact⟨C,mg_of X G e,x⟩
theorem zmv (X:K.In h) (G:h.Ns mainGlobals mg) (hx:excChk K=true) (hc:c∈zad) (e:mg (Str.ofString c)=some (.ref C)):excOne K c C=true:=by
 obtain⟨C',e',x⟩:=zmw X G hx hc;rw[e] at e';cases e';exact x
theorem ziF (X:K.In h) (G:h.Ns mainGlobals mg){f:Addr→Bool}(y:refB (nsIn K mainGlobals (Str.ofString d)) f=true) (e:mg (Str.ofString d)=some (.ref D)):f D=true:=by
 obtain⟨D',e',x⟩:=zgE y;rw[mg_of X G e'] at e;cases e;exact x
theorem zqx (T:Top p loose mean am.mg am.mb am.B) (X:Frag.In am.K am.B) (himp:importsNone p=true) (htree:am.prog.given.tree=none) (hx:excChk am.K=true) (ho:zfK p=true) (hb:btChk am.K=true):AmbX am where
 g:=T.g
 b:=T.b
 nolimit:=T.nolimit
 noseer:=T.seer himp
 tree:=htree
 K:=X
 bt:=fun q hq=>by
  have:=List.all_eq_true.mp hb q hq;simp only[Bool.and_eq_true,beq_iff_eq,bne_iff_ne,ne_eq] at this;exact⟨mg_none_of X T.g this.1.1,(T.builtins q.1 this.2).trans this.1.2⟩
 exc:=fun c hc=>by
  obtain⟨C,e,x⟩:=zmw X T.g hx hc;exact⟨C,e,⟨eq_of_beq (al x),eq_of_beq (al (ar x))⟩,al (ar (ar x)),eq_of_beq (al (ar (ar (ar x)))),eq_of_beq (al (ar (ar (ar (ar x))))),eq_of_beq (al (ar (ar (ar (ar (ar x)))))),eq_of_beq (al (ar (ar (ar (ar (ar (ar x))))))),eq_of_beq (al (ar (ar (ar (ar (ar (ar (ar x))))))))⟩
 sub:=fun c hc d hd C D e1 e2=>eq_of_beq (ziF X T.g (List.all_eq_true.mp (al (ar (ar (ar (ar (ar (ar (ar (ar (zmv X T.g hx hc e1)))))))))) d hd) e2)
 exm:=fun c hc C D e1 e2=>eq_of_beq (ziF X T.g (ar (ar (ar (ar (ar (ar (ar (ar (ar (zmv X T.g hx hc e1)))))))))) e2)
 rs:=fun c hc C e1=>by
  have hs:=List.all_eq_true.mp ho c hc;rw[beq_iff_eq] at hs;obtain⟨C',O,_⟩:=T.ownAt hs;have h1:C'=C:=by have:=O.bound.symm.trans e1;cases this;rfl
  subst h1;refine hold fun z k_=>?_;obtain⟨bm,N,nm,q,bs,hdct,sn,sub,ab,col,dd,k0,k1,k2,k3,k5,mN,hC,hN,hq,TQ⟩:=O.obj;refine k_ ?_;exact⟨nm,q,N,bs,bm,hdct,sn,sub,ab,col,dd,k0,k1,k2,k3,k5,mN,hC,hN,hq,TQ⟩
theorem zlN (pm cd doc:Value) :
  ckFn fns nums d nm (Calls.docDef n ps b sc pm cd doc)=ckFn fns nums d nm (Calls.docDef n ps b sc .none .none .none):=rfl
set_option tactic.hygienic true in
theorem znu (T:Top p loose mean am.mg am.mb am.B) (X:Frag.In am.K am.B) (hd:defChk p fns nums tl=true) (hf:fnsChk p fns=true) (hn:zek am.K nums=true) :
  ProgOK am (tabOf tl) (nmOf tl) fns nums where
 fn:=fun f d a o fd e1 e2 e3 e4=>by
  unfold tabOf at e1;unfold nmOf
  cases hl:tl.lookup f with
  |none=>rw[hl] at e1;cases e1
  |some t =>
   rw[hl] at e1;simp only[Option.map_some,Option.some.injEq] at e1;subst e1;have hm:(f,t)∈tl:=by
    clear hd
    induction tl with
    |nil=>simp at hl
    |cons u tl ih =>
     obtain⟨g,u⟩:=u;rw[lookup_cons] at hl
     cases hq:f == g with
     |true=>rw[hq] at hl;cases hl;rw[beq_iff_eq.mp hq];exact zZ
     |false=>rw[hq] at hl;exact zY _ (ih hl)
   have:=List.all_eq_true.mp hd _ hm
   split at this
   ·rename_i r hr
    have hrm:=List.mem_of_find?_eq_some hr;have hrn:r.name=Str.ofString f:=by have:=List.find?_some hr;simpa using this
    refine hold fun z k_=>?_;obtain⟨a',o',pm,code,doc,t1,t2,t3,t4⟩:=T.fn r hrm;refine k_ ?_;rw[hrn] at t1;have h1:a'=a:=by have:=t1.symm.trans e2;cases this;rfl
    subst h1;have h2:o'=o:=by have:=t2.symm.trans e3;cases this;rfl
    subst h2;rw[t3] at e4
    cases e4
    refine⟨?_,t4⟩;rw[zlN];exact this
   ·cases this
 fns:=fun f hf'=>by
  have:=List.all_eq_true.mp hf f hf';obtain⟨r,hr⟩:=Option.isSome_iff_exists.mp this;have hrm:=List.mem_of_find?_eq_some hr;have hrn:r.name=Str.ofString f:=by have:=List.find?_some hr;simpa using this
  refine hold fun z k_=>?_;obtain⟨a',o',pm,code,doc,t1,t2,t3,t4⟩:=T.fn r hrm;refine k_ ?_;rw[hrn] at t1;exact⟨a',t1,o',_,t2,t3⟩
 nums:=fun q hq=>by
  obtain⟨t,e⟩:=zll (List.all_eq_true.mp hn q hq);exact⟨t,mg_of X T.g e⟩
theorem zjn (hi:IntsAre xs l):VRs am π h (l.map .int) xs:=by
 induction hi with
 |nil=>exact rfl
 |cons n t _ ih=>exact⟨_,_,rfl,⟨t,rfl⟩,ih⟩
theorem zpI (T:Top p loose mean mg mb s₁.heap) (X:K.In s₁.heap) (himp:importsNone p=true) (htree:prog.given.tree=none)
  (hx:excChk K=true) (ho:zfK p=true) (hb:btChk K=true) (hd:defChk p fns nums tl=true) (hf:fnsChk p fns=true) (hn:zek K nums=true) (hlaw:"law"∈fns)
  (hmg:mg "law"=some (.ref fa)) (hl:s₁.heap.IsList a xs.toArray) (hi:IntsAre xs l) (h63:¬ (63:Int) < (l.length:Int)) (hn9:n≤400)
  (hrun:run (tabOf tl) n true "law" [V.ints l] []=.ok (.bool true) H'){Q:Value→Shared→Prop}{E:Value→Shared→Prop}
  (hQ:∀ s',(∃ h' tk,s'={ s₁ with heap:=h',toks:=tk })→(∀ b o,s₁.heap.get? b=some o→s'.heap.get? b=some o)→Q (.bool true) s') :
  wpAny (model prog w) callerA (PySem.call (.ref fa) [.ref a]) Q E s₁:=by
 have ok:AmbX { prog:=prog,w:=w,B:=s₁.heap,mg:=mg,mb:=mb,P:=tabOf tl,K:=K }:=zqx T X himp htree hx ho hb;have pk:=znu (am:={ prog:=prog,w:=w,B:=s₁.heap,mg:=mg,mb:=mb,P:=tabOf tl,K:=K }) T X hd hf hn;obtain⟨fa',ff⟩:=pk.fns "law" hlaw;have hfa:fa'=fa:=by have:=ff.1.symm.trans hmg;cases this;rfl
 subst hfa;have hr:HR (({ prog:=prog,w:=w,B:=s₁.heap,mg:=mg,mb:=mb,P:=tabOf tl,K:=K }:Amb).at []) [] [] [] s₁.heap :=
  ⟨fun y y e=>e,trivial,rfl,List.nodup_nil,(fun a ha=>by cases ha),(fun a ha=>by cases ha),(fun i c a h1=>by simp at h1)⟩
 have hlen:xs.length=l.length:=by have:=(zjn (am:={ prog:=prog,w:=w,B:=s₁.heap,mg:=mg,mb:=mb,P:=tabOf tl,K:=K }) (π:=[]) (h:=s₁.heap) hi).len;simpa using this
 have J:=(zmb ok pk n).call [] true "law" fa' [V.ints l] [.ref a] [] callerA [] [] s₁ ff ⟨rfl,Nat.lt_of_le_of_lt (Nat.add_le_add_left hn9 (1+claimMargin)) (by decide),Nat.lt_of_le_of_lt (Nat.add_le_add_left (Nat.mul_le_mul_left 10 hn9) 4) (by decide)⟩ hr rfl (.inl (by
  exact⟨_,_,rfl,⟨a,xs,rfl,⟨by simp,by simp[Amb.at]⟩,hl,by rw[zJ];exact zX (Int.ofNat_le.1 (Int.not_lt.1 h63)) (by decide),zjn hi⟩,rfl⟩))
 rw[hrun] at J
 rcases J with J|J
 ·cases J
 ·refine yV J (fun v s' z=>?_) fun e s' z=>?_
  ·refine hold fun y k_=>?_
   obtain⟨b,H2,π',z1,z2,z3,z4⟩:=z;refine k_ ?_
   cases z1
   subst z4;exact hQ s' z2.same fun b o e=>z2.ext.keep b o e (by simp) (by simp[Fs])
  ·obtain⟨_,_,_,_,_,_,z,_⟩:=z;cases z
end
def Leans (nums:List (String × Int)) (h:Heap):Prop:=∃ K:Frag,K.In h∧excChk K=true∧btChk K=true∧zek K nums=true
theorem zjw (h:Heap):∀ as:List Addr,(fragAt h as).In h:=by
 intro as a o e;have hm:=zar e;obtain⟨b,_,hb⟩:=List.mem_filterMap.mp hm
 cases hq:h.get? b with
 |none=>rw[hq] at hb;cases hb
 |some o'=>rw[hq] at hb;cases hb;exact hq
theorem zla {l:OpenLaw}{q:Program}{N:Nat}{nums:List (String × Int)}(said:l.wellSaid=true) (hrs:l.row.wellSaid=true)
  (left:LeftO l.row.prog q [] (fun s=>xlAt q [] s&&recOk (RowW.records l.row.toRowW) s) (fun s=>hookB nums s.heap) (fun y=>true) N)
  (d1:(defOf q l.row.name).isSome=true) (d2:l.row.prog.theDef l.row.name=(defOf q l.row.name).map fun x=>(x.1.params,x.1.body,x.1.scope))
  (d3:((defOf q l.row.name).map fun x=>kwWritten? x.1.params.kwonlyargs x.1.params.kw_defaults)=(defOf q l.row.name).map fun x=>some x.2)
  (hwr:(!l.row.writes||l.row.records.isEmpty)=true) (ok:(chainsOk q&&opensWell l.row.prog&&(frees l.row.toRowW&&l.row.within.isEmpty))=true) (hb:l.row.prog.bare) (hw:l.row.toRowW.promised)
  (walk:∀ d kwd,defOf q l.row.name=some (d,kwd)→WalkO q [] (XL q []) (fun y h=>Leans nums h) l.row.toRowW d kwd fun f vs=>PySem.call f vs):l.Holds:=by
 obtain⟨⟨d,kwd⟩,hdef⟩:=Option.isSome_iff_exists.mp d1;rw[hdef] at d2 d3;simp only[Option.map_some,Option.some.injEq] at d2 d3;refine⟨said,holds_open (q:=q) (loose:=[]) (Xt:=fun s=>xlAt q [] s&&recOk (RowW.records l.row.toRowW) s) (XP:=XL q []) (YP:=fun y h=>Leans nums h) left (fun w s e=>?_) (fun w h h' e k=>?_)
  (fun s e=>xl_of s (yK.mp e).1) XL.keeps hdef d2 d3 (fun s e=>recFacts_of (yK.mp e).2) hwr hrs ok hb hw (walk d kwd hdef)⟩
 ·simp only[hookB,Bool.and_eq_true] at e
  exact⟨exFrag s.heap,zjw _ _,e.1.1,e.1.2,e.2⟩
 ·obtain⟨K,k1,k2⟩:=e
  exact⟨K,fun a o z=>k a o (k1 a o z),k2⟩
end Mine
namespace Mine
@[simp] theorem pcall_bool (h:H) (b:Bool):pcall h (.ok (.bool b) h)=.ok (.bool b) h:=zaK rfl h
@[simp] theorem pcall_int (h:H) (b:Int):pcall h (.ok (.int b) h)=.ok (.int b) h:=zaK rfl h
@[simp] theorem pcall_none (h:H):pcall h (.ok .none h)=.ok .none h:=zaK rfl h
noncomputable def V.nat (d:Nat):V:=.int d
noncomputable def V.nats (l:List Nat):List V:=l.map V.nat
@[simp] theorem nats_length (l:List Nat):(V.nats l).length=l.length:=by simp[V.nats]
theorem zbn (a:Nat) (l:List Nat):V.nats (a::l)=.int a::V.nats l:=rfl
theorem zav (a b:List Nat):V.nats (a++b)=V.nats a++V.nats b:=by simp[V.nats]
theorem ze2 (n:Nat) (l:List Nat):(V.nats l).take n=V.nats (l.take n):=by simp[V.nats]
theorem zde (n:Nat) (l:List Nat):(V.nats l).drop n=V.nats (l.drop n):=by simp[V.nats]
theorem zk5 {l:List Nat}{i:Nat}{d:Nat}(e:l[i]?=some d):(V.nats l)[i]?=some (.int d):=by simp[V.nats,e,V.nat]
theorem za9 (l:List Nat):V.plains (V.nats l)=true:=by
 induction l with
 |nil=>rfl
 |cons a l ih=>exact ih
theorem zaM (l:List Nat):V.plain (.l (V.nats l))=true:=za9 l
theorem zk3 (hv:v∈V.nats l):∃ d∈l,v=.int d:=by
 simp only[V.nats,yQ] at hv;obtain⟨d,hd,rfl⟩:=hv;exact⟨d,hd,rfl⟩
theorem zc8 (a b:List Nat):peqs (V.nats a) (V.nats b)=decide (a=b):=by
 induction a generalizing b with
 |nil=>cases b<;>rfl
 |cons x a ih=>cases b with
  |nil=>rfl
  |cons y b =>
   rw[zbn,zbn,ziP,zfU,ih]
   by_cases e1:x=y<;>by_cases e2:a=b<;>simp[e1,e2]
   omega
theorem znH (l:List Nat) (n:Nat):(V.nats l).all (V.ok (n+1))=true:=by
 rw[all_eq_true];intro v hv;obtain⟨d,_,rfl⟩:=zk3 hv;rfl
theorem zcF (l:List Nat) (n:Nat):V.ok (n+2) (.l (V.nats l))=true:=znH l n
theorem zgF (ha:frz 0 h a=some a') (hb:frz 0 h b=some b') (oa:V.ok 8 a'=true) (ob:V.ok 8 b'=true):pyEq h a b=some (peq a' b'):=by
 simp[pyEq,ha,hb,oa,ob]
theorem zau (n:Nat) (h:H) (v:V) (hv:v.plain=true):frz n h v=some v:=zaG _ v hv
def IsL (h:H) (v:V) (l:List Nat):Prop:=litems h v=some (V.nats l)
theorem IsL.lst (h:H) (l:List Nat):IsL h (.l (V.nats l)) l:=rfl
theorem IsL.ref {h:H}{i:Nat}{l:List Nat}(e:h[i]?=some (.list (V.nats l))):IsL h (.ref i) l:=zab e
theorem zdW (hn:n≤i) (e:h[i]?=some (.list (V.nats l))):frzAt (k+1) n h i=some (.l (V.nats l)):=by
 rw[zbK,zR (by omega),e]
 show Option.map _ (V.mapRefs _ (V.nats l))=_;rw[zam _ _ (za9 l)];rfl
theorem IsL.frz {h:H}{v:V}{l:List Nat}(e:IsL h v l):frz 0 h v=some (.l (V.nats l)):=by
 rcases zaa e with rfl|⟨i,rfl,hc⟩
 ·exact zau 0 h _ (zaM l)
 ·exact zdW (Nat.zero_le _) hc
theorem IsL.okV {h:H}{v:V}{l:List Nat}(e:IsL h v l):okV h v:=zbC e
theorem IsL.val {h:H}{v:V}{l:List Nat}(e:IsL h v l):v.val:=(zbC e).val
theorem ziK (ha:IsL h a x) (hb:IsL h b y):pyEq h a b=some (decide (x=y)):=by
 rw[zgF ha.frz hb.frz (zcF x 6) (zcF y 6),zeg,zc8]
theorem zeb {h:H}{v:V}{vs:List V}(e:litems h v=some vs) (lo hi:Option V) (a b:Option Int) (ha:lo.mapM asInt?=some a) (hb:hi.mapM asInt?=some b):zas h v lo hi=some (.l (slc vs a b)):=by
 rw[zas,ha,hb]
 rcases zaa e with rfl|⟨i,rfl,hc⟩
 ·rfl
 ·simp only
  rw[zab hc];rfl
theorem zo2 {α:Type}(vs:List α) (j:Nat):slc vs Option.none (some (j:Int))=vs.take j:=by
 simp only[slc,cut,Int.not_lt.2 (Int.natCast_nonneg j),if_false,Int.toNat_natCast,drop_zero]
 rcases Nat.le_total j vs.length with hj|hj
 ·rw[Nat.min_eq_left hj]
 ·rw[Nat.min_eq_right hj,take_length,List.take_of_length_le hj]
theorem zkD {α:Type}(vs:List α) (i:Nat):slc vs (some (i:Int)) Option.none=vs.drop i:=by
 simp only[slc,cut,Int.not_lt.2 (Int.natCast_nonneg i),if_false,Int.toNat_natCast,take_length]
 rcases Nat.le_total i vs.length with hj|hj
 ·rw[Nat.min_eq_left hj]
 ·rw[Nat.min_eq_right hj,drop_length,List.drop_of_length_le hj]
theorem zcC (e:litems h v=some vs) (j:Nat):zas h v Option.none (some (.int j))=some (.l (vs.take j)):=by
 rw[zeb e _ _ Option.none (some (j:Int)) rfl rfl,zo2]
theorem zaY (e:litems h v=some vs) (i:Nat):zas h v (some (.int i)) Option.none=some (.l (vs.drop i)):=by
 rw[zeb e _ _ (some (i:Int)) Option.none rfl rfl,zkD]
theorem zmr {h:H}{v:V}{vs:List V}(e:litems h v=some vs){j:Nat}{x:V}(hj:vs[j]?=some x):pyIdx h v (.int j)=some x:=by
 have hl:j < vs.length:=(List.getElem?_eq_some_iff.1 hj).1;have hp:place vs.length (j:Int)=some j:=by simp[place,hl]
 rcases zaa e with rfl|⟨i,rfl,hc⟩
 ·show(place vs.length (j:Int)).bind _=_
  rw[hp];exact hj
 ·show(match h[i]? with|some (.dict es)=>if keyOk (.int j) then dfind (.int j) es else Option.none|some (.list vs)=>(place vs.length (j:Int)).bind fun j=>vs[j]?|none=>Option.none)=_
  rw[hc];show(place vs.length (j:Int)).bind _=_;rw[hp];exact hj
theorem zn5 {h:H}{vs:List V}{j:Nat}{x:V}(hj:vs[j]?=some x):pyIdx h (.tup vs) (.int j)=some x:=by
 have hl:j < vs.length:=(List.getElem?_eq_some_iff.1 hj).1;have hp:place vs.length (j:Int)=some j:=by simp[place,hl]
 show(place vs.length (j:Int)).bind _=_;rw[hp];exact hj
theorem addLL (h:H) (vs ws:List V) (hl:vs.length+ws.length≤1000000):pyBin .add h (.l vs) (.l ws)=some (.l (vs++ws)):=by
 exact za1 (by rw[zQ];exact hl)
theorem zqy {h:H}{a b:V}{vs ws:List V}(ha:litems h a=some vs) (hb:litems h b=some ws) (hl:vs.length+ws.length≤1000000):pyBin .add h a b=some (.l (vs++ws)):=by
 have e:((litems h a).bind fun x=>(litems h b).bind fun y=>mkL (x++y))=some (.l (vs++ws)):=by
  rw[ha,hb];exact za1 (by simpa using hl)
 rcases zaa ha with rfl|⟨i,rfl,_⟩<;>exact e
theorem zpF {h:H}{a:V}{vs:List V}(ha:litems h a=some vs) (n:Nat) (hn:n < 1000000) (hl:n * vs.length≤1000000):pyBin .mul h a (.int n)=some (.l (List.replicate n vs).flatten):=by
 have h1:-1000000 < (n:Int)∧(n:Int) < 1000000:=by omega
 have e:(if -1000000 < (n:Int)∧(n:Int) < 1000000 then(litems h a).bind fun vs=>mkL (rep vs n) else Option.none)=some (.l (List.replicate n vs).flatten):=by
  rw[zT h1,ha,Option.bind_some,rep,Int.toNat_natCast];exact za1 (by simpa using hl)
 rcases zaa ha with rfl|⟨i,rfl,_⟩<;>exact e
theorem zcg (x:Int) (m:Nat) (hm:0 < m):∃ j:Nat,j < m∧x.fmod m=j:=by
 have h2:=Int.fmod_lt_of_pos x (Int.natCast_pos.2 hm);obtain⟨j,hj⟩:=Int.eq_ofNat_of_zero_le (Int.fmod_nonneg_of_pos x (Int.natCast_pos.2 hm));exact⟨j,Int.ofNat_lt.1 (hj ▸ h2),hj⟩
noncomputable def cellAt (l:List Int) (k:Nat):Int:=l.getD k 0
noncomputable def setS (v:V) (ρ:List V) (xs:List Nat) (h:H):RS :=
 match v with
 |.tup vs=>(match setAll ρ xs vs with
  |some ρ=>.ok .next ρ h
  |Option.none=>.bad)
 |_=>.bad
theorem znh (q:Bool) (F:Fn) (ρ:List V) (h:H) (xs:List Nat) (e:PE):exS q F (.asgT xs e) ρ h=if !q then .bad else(evE q F ρ e h).st ρ fun v h=>setS v ρ xs h:=rfl
theorem zi2 {F:Fn}{xs:List Nat}{e:PE}{ss:List PS}{ρ ρ':List V}{h h':H}{vs:List V}{r:R V}(he:evE true F ρ e h=.ok (.tup vs) h') (hρ:setAll ρ xs vs=some ρ') (k:(exSs true F ss ρ' h').out=r):(exSs true F (.asgT xs e::ss) ρ h).out=r:=by
 rw[ss_cons',znh,zR (by decide),he,R.st_ok,setS,hρ];exact k
theorem znk (h:H) (n:Nat) (hn:n≤1000000):rngR (.int n) h=.ok (upto n,Option.none) h:=zkI h (Int.le_trans (by decide) (Int.natCast_nonneg n)) (Int.ofNat_le.2 hn)
theorem start {P:Tab}{f:String}{d:FnDef}{n:Nat}{q:Bool}{vs ρ:List V}{h:H}{r:R V}(hf:P f=some d) (hl:vs.length=d.arity) (hρ:vs++List.replicate (d.slots - d.arity) .uu=ρ)
  (k:(exSs q (run P n) d.body ρ h).out=r):run P (n+1) q f vs h=r:=by
 rw[zkG hf,zni _ _ _ _ _ hl,hρ];exact k
theorem zpU {q:Bool}{F:Fn}{ρ:List V}{h h':H}{a:PE}{n:Nat}(e:evE q F ρ a h=.ok (.int n) h') (hn:n≤1000000):evIt q F ρ (.range1 a) h=.ok (upto n,Option.none) h':=by
 rw[i_range1,e,R.bind_ok,znk _ _ hn]
theorem zbq (e:evE q F ρ a h=.ok (.l vs) h'):evIt q F ρ (.seq a) h=.ok (vs,Option.none) h':=by
 rw[i_seq,e];rfl
theorem zjU {α:Type}{elt cond:V→H→R V}(c e:α→V) (b:α→Bool) (h:H) (w:Watch) (hw:w.ok h=true) (l:List α)
  (hc:∀ a∈l,cond (c a) h=.ok (.bool (b a)) h) (he:∀ a∈l,b a=true→elt (c a) h=.ok (e a) h) :
  compL w elt cond (l.map c) h=.ok ((l.filter b).map e) h:=by
 induction l with
 |nil=>simp[zeH,hw]
 |cons a l ih =>
  have ih:=ih (fun v hv=>hc v (zY _ hv)) (fun v hv=>he v (zY _ hv));rw[yY,zeI,zT hw,hc a (zZ ..),R.bind_ok,truthy_bool]
  cases hb:b a with
  |true=>dsimp only;rw[he a (zZ ..) hb,R.bind_ok,ih,R.bind_ok,filter_cons_of_pos hb,yY]
  |false=>dsimp only;rw[ih,filter_cons_of_neg (by rw[hb];exact Bool.false_ne_true)]
theorem zgW {α:Type}{F:Fn}{ρ:List V}{h h':H}{elt cond:PE}{x:Nat}{it:PIt}{l:List α}{c:α→V}{t:Watch}{r:V}(hi:evIt true F ρ it h=.ok (l.map c,t) h') (ht:t.ok h'=true) (e:α→V) (b:α→Bool)
  (hc:∀ a∈l,evE true F (ρ.set x (c a)) cond h'=.ok (.bool (b a)) h') (he:∀ a∈l,b a=true→evE true F (ρ.set x (c a)) elt h'=.ok (e a) h') (hr:mkL ((l.filter b).map e)=some r) :
  evE true F ρ (.comp elt x it (some cond)) h=.ok r h':=by
 rw[e_comp,zR (by decide),hi,R.bind_ok,zjU c e b h' t ht l hc he,lstR_ok,hr];rfl
theorem zbL {α:Type}{F:Fn}{ρ:List V}{h h':H}{elt:PE}{x:Nat}{it:PIt}{l:List α}{c:α→V}{t:Watch}{r:V}(hi:evIt true F ρ it h=.ok (l.map c,t) h') (ht:t.ok h'=true) (e:α→V)
  (he:∀ a∈l,evE true F (ρ.set x (c a)) elt h'=.ok (e a) h') (hr:mkL (l.map e)=some r) :
  evE true F ρ (.comp elt x it Option.none) h=.ok r h':=by
 rw[e_comp,zR (by decide),hi,R.bind_ok,zjU c e (fun z=>true) h' t ht l (fun z z=>rfl) (fun a ha z=>he a ha),lstR_ok,List.filter_eq_self.2 (fun z z=>rfl),hr];rfl
theorem zbp {q:Bool}{F:Fn}{ρ:List V}{h h':H}{a:PE}{n:Nat}(e:evE q F ρ a h=.ok (.int n) h') (hn:n≤1000000):evIt q F ρ (.range1 a) h=.ok ((List.range n).map fun i:Nat=>V.int i,Option.none) h':=zpU e hn
theorem zp2 {α:Type}{body:List V→H→RS}(l:List α) (c:α→V) (f:List α→V→List V) (g:List α→H) (ht:∀ p,t.ok (g p)=true)
  (hb:∀ p a q w,l=p++a::q→body ((f p w).set x (c a)) (g p)=.ok .next (f (p++[a]) (c a)) (g (p++[a]))) (w:V) :
  ∃ w',forL t (bind1 x) body (l.map c) (f [] w) (g [])=.ok .next (f l w') (g l):=by
 have key:∀ (q p:List α) (w:V),l=p++q→∃ w',forL t (bind1 x) body (q.map c) (f p w) (g p)=.ok .next (f l w') (g l):=by
  intro q
  induction q with
  |nil=>intro p w e;rw[append_nil] at e;subst e;exact⟨w,zT (ht _)⟩
  |cons a q ih =>
   intro p w e;obtain⟨w',e'⟩:=ih (p++[a]) (c a) (by rw[e,yJ];rfl)
   refine⟨w',?_⟩;rw[yY,zfi,zT (ht _)];show(body ((f p w).set x (c a)) (g p)).then _=_;rw[hb p a q w e,RS.then_next,e']
 exact key l [] w rfl
theorem zi1 {α:Type}{F:Fn}{x:Nat}{it:PIt}{body ss:List PS}{ρ:List V}{h h':H}{l:List α}{c:α→V}{t:Watch}{r:R V}(f:List α→V→List V) (g:List α→H) (w:V)
  (hi:evIt true F ρ it h=.ok (l.map c,t) h') (ht:∀ p,t.ok (g p)=true) (hρ:f [] w=ρ) (hh:g []=h')
  (hb:∀ p a q w,l=p++a::q→exSs true F body ((f p w).set x (c a)) (g p)=.ok .next (f (p++[a]) (c a)) (g (p++[a])))
  (hk:∀ w',(exSs true F ss (f l w') (g l)).out=r):(exSs true F (.for1 x it body::ss) ρ h).out=r:=by
 subst hρ hh;rw[ss_cons',s_for1',zR (by decide),hi,R.st_ok]
 obtain⟨w',e⟩:=zp2 l c f g ht hb w;rw[e,RS.then_next];exact hk w'
theorem zrQ {α:Type}{F:Fn}{x:Nat}{it:PIt}{body ss:List PS}{ρ:List V}{h h':H}{l:List α}{c:α→V}{t:Watch}{r:R V}{w₀:V}(b:α→Bool)
  (hi:evIt true F ρ it h=.ok (l.map c,t) h') (ht:t.ok h'=true) (hx:ρ.set x w₀=ρ)
  (hb:∀ a∈l,b a=true→exSs true F body (ρ.set x (c a)) h'=.ok .next (ρ.set x (c a)) h')
  (hk:(∀ a∈l,b a=true)→∀ w,(exSs true F ss (ρ.set x w) h').out=r)
  (hl:∀ p a q,l=p++a::q→(∀ d∈p,b d=true)→b a=false→∀ k,((exSs true F body (ρ.set x (c a)) h').then k).out=r) :
  (exSs true F (.for1 x it body::ss) ρ h).out=r:=by
 rw[ss_cons',s_for1',zR (by decide),hi,R.st_ok]
 have key:∀ (q p:List α) (w:V),l=p++q→(∀ d∈p,b d=true)→((forL t (bind1 x) (fun ρ h=>exSs true F body ρ h) (q.map c) (ρ.set x w) h').then fun ρ h=>exSs true F ss ρ h).out=r:=by
  intro q
  induction q with
  |nil =>
   intro p w e hp;rw[append_nil] at e;subst e;rw[map_nil,zgS,zT ht];exact hk hp w
  |cons a q ih =>
   intro p w e hp;rw[yY,zfi,zT ht];show(((exSs true F body ((ρ.set x w).set x (c a)) h').then _).then _).out=r;rw[set_set]
   cases hba:b a with
   |true =>
    rw[hb a (by rw[e];simp) hba,RS.then_next]
    exact ih (p++[a]) (c a) (by rw[e,yJ];rfl) (fun d hd=>by
     rcases zP.1 hd with h|h
     ·exact hp d h
     ·rw[zK] at h;rw[h];exact hba)
   |false =>
    have:=hl p a q e hp hba
    cases hq:exSs true F body (ρ.set x (c a)) h' with
    |bad=>rw[hq] at this;exact this fun z z=>.bad
    |err d ρ' h=>rw[hq] at this;exact this fun z z=>.bad
    |ok fl ρ' h=>rw[hq] at this;cases fl with
     |next=>exact this fun ρ h=>(forL t (bind1 x) (fun ρ h=>exSs true F body ρ h) (List.map c q) ρ h).then fun ρ h=>exSs true F ss ρ h
     |ret v=>exact this fun z z=>.bad
 have:=key l [] w₀ rfl (fun z h=>nomatch h);rw[hx] at this;exact this
section
variable {q:Bool}{F:Fn}{ρ:List V}{h:H}{a b:PE}{x y:Int}
theorem zb5 (ea:evE q F ρ a h=.ok (.int x) h) (eb:evE q F ρ b h=.ok (.int y) h):evE q F ρ (.bin .add a b) h=.ok (.int (x+y)) h:=by rw[zhq,ea,R.bind_ok,eb];rfl
theorem zfn (ea:evE q F ρ a h=.ok (.int x) h) (eb:evE q F ρ b h=.ok (.int y) h):evE q F ρ (.bin .sub a b) h=.ok (.int (x - y)) h:=by rw[zhq,ea,R.bind_ok,eb];rfl
theorem zgk (ea:evE q F ρ a h=.ok (.int x) h) (eb:evE q F ρ b h=.ok (.int y) h) (hy:y.natAbs < 9223372036854775808):evE q F ρ (.bin .mul a b) h=.ok (.int (x * y)) h:=by rw[zhq,ea,R.bind_ok,eb,R.bind_ok,zgg h _ _ hy];rfl
theorem zbD (ea:evE q F ρ a h=.ok (.int x) h) (eb:evE q F ρ b h=.ok (.int y) h) (hy:y≠0):evE q F ρ (.bin .fdiv a b) h=.ok (.int (x.fdiv y)) h:=by rw[zhq,ea,R.bind_ok,eb,R.bind_ok,zfm h _ _ hy];rfl
theorem zb4 (ea:evE q F ρ a h=.ok (.int x) h) (eb:evE q F ρ b h=.ok (.int y) h) (hy:y≠0):evE q F ρ (.bin .mod a b) h=.ok (.int (x.fmod y)) h:=by rw[zhq,ea,R.bind_ok,eb,R.bind_ok,zgh h _ _ hy];rfl
theorem zao {i:Nat}{v:V}(e:ρ[i]?=some v) (hv:v.val):evE q F ρ (.v i) h=.ok v h:=by
 rw[zrI,e]
 cases v<;>first|rfl|exact hv.elim
theorem zdJ (ea:evE q F ρ a h=.ok (.int x) h) (eb:evE q F ρ b h=.ok (.int y) h):evE q F ρ (.cmp .eq a b) h=.ok (.bool (decide (x=y))) h:=by
 rw[zbQ,ea,R.bind_ok,eb,R.bind_ok];show R.opt (Option.map V.bool (pyEq h (.int x) (.int y))) h=_;rw[zdP h rfl rfl rfl rfl,zfU];rfl
theorem zlQ {f:Bf}(hr:((!true&&f.walks)||!f.ready)=false):evE true F ρ (.bf f a) h=(evE true F ρ a h).bind fun x h=>R.opt (Mine.bf f h x) h:=by rw[znr,hr];exact zR Bool.false_ne_true
theorem zb2 {f:String}{v w r:V}(ea:evE q F ρ a h=.ok v h) (eb:evE q F ρ b h=.ok w h) (hc:pcall h (F q f [v,w] h)=.ok r h):evE q F ρ (.call false f [a,b]) h=.ok r h:=by
 rw[zed,zbF,ea,R.bind_ok,zbF,eb,R.bind_ok,zkN,R.bind_ok,R.bind_ok,R.bind_ok];exact hc
theorem zaV {f:String}{c:PE}{v w x r:V}(ea:evE true F ρ a h=.ok v h) (eb:evE true F ρ b h=.ok w h) (ec:evE true F ρ c h=.ok x h) (hc:pcall h (F true f [v,w,x] h)=.ok r h):evE true F ρ (.call false f [a,b,c]) h=.ok r h:=by
 rw[zed,zbF,ea,R.bind_ok,zbF,eb,R.bind_ok,zbF,ec,R.bind_ok,zkN,R.bind_ok,R.bind_ok,R.bind_ok,R.bind_ok];exact hc
theorem zb3 (ea:evE true F ρ a h=.ok v h) (hc:pcall h (F true f [v] h)=.ok r h):evE true F ρ (.call false f [a]) h=.ok r h:=by
 rw[zed,zbF,ea,R.bind_ok,zkN,R.bind_ok,R.bind_ok];exact hc
end
noncomputable def zd3:FnDef:=⟨3,3,[
 .ret (.and [.isinst (.v 0) [.int],.not (.isinst (.v 0) [.bool]),.cmp2 .le .le (.v 1) (.v 0) (.v 2)])]⟩
noncomputable def zd4:FnDef:=⟨2,4,[
 .asg 2 (.int 1),
 .for1 3 (.range1 (.v 1)) [
  .asg 2 (.bin .mul (.v 2) (.v 0))],
 .ret (.v 2)]⟩
noncomputable def zcy:FnDef:=⟨1,1,[
 .ifs (.not (.call false "is_among" [.v 0,.int 1,.glob "MOST_SIGNS" 9])) [
  .raise "BadSize"] []]⟩
noncomputable def zdx:FnDef:=⟨1,1,[
 .ifs (.not (.call false "is_among" [.v 0,.int 1,.glob "MOST_SIZE" 8])) [
  .raise "BadSize"] []]⟩
noncomputable def zdy:FnDef:=⟨2,2,[
 .expr (.call false "need_signs" [.v 0]),
 .expr (.call false "need_size" [.v 1]),
 .ifs (.cmp .gt (.call false "how_many" [.v 0,.v 1]) (.glob "MOST_WORDS" 256)) [
  .raise "BadSize"] []]⟩
noncomputable def zfu:FnDef:=⟨2,3,[
 .ifs (.or [.not (.isinst (.v 1) [.list]),.not (.cmp2 .le .le (.int 1) (.bf .len (.v 1)) (.glob "MOST_SIZE" 8))]) [
  .ret (.bool false)] [],
 .ret (.bf .all (.comp (.call false "is_among" [.v 2,.int 0,.bin .sub (.v 0) (.int 1)]) 2 (.seq (.v 1)) .none))]⟩
noncomputable def zdz:FnDef:=⟨3,5,[
 .expr (.call false "need_both" [.v 0,.v 1]),
 .ifs (.or [.not (.isinst (.v 2) [.list]),.cmp .eq (.bf .len (.v 2)) (.int 0)]) [
  .raise "BadBook"] [],
 .asg 3 .newDict,
 .for1 4 (.seq (.v 2)) [
  .ifs (.or [.not (.call false "is_word" [.v 0,.v 4]),.cmp .ne (.bf .len (.v 4)) (.v 1),.cmp .isin (.bf .tuple (.v 4)) (.v 3)]) [
   .raise "BadBook"] [],
  .setIdx (.v 3) (.bf .tuple (.v 4)) (.bool true)]]⟩
noncomputable def zhd:FnDef:=⟨1,3,[
 .asg 1 .newDict,
 .for1 2 (.seq (.v 0)) [
  .expr (.append (.setdef (.v 1) (.bf .tuple (.slice (.v 2) .none (some (.neg 1)))) (.own (.list []))) (.bf .tuple (.slice (.v 2) (some (.int 1)) .none))),
  .expr (.setdef (.v 1) (.bf .tuple (.slice (.v 2) (some (.int 1)) .none)) (.own (.list [])))],
 .ret (.v 1)]⟩
noncomputable def zfw:FnDef:=⟨2,5,[
 .asg 2 (.dict1 (.v 1) (.bool true)),
 .asg 3 (.own (.list [.v 1])),
 .while (.cmp .gt (.bf .len (.v 3)) (.int 0)) [
  .for1 4 (.seq (.idx (.v 0) (.pop (.v 3)))) [
   .ifs (.cmp .notIn (.v 4) (.v 2)) [
    .setIdx (.v 2) (.v 4) (.bool true),
    .expr (.append (.v 3) (.v 4))] []]],
 .ret (.v 2)]⟩
noncomputable def zb8:FnDef:=⟨1,7,[
 .asg 1 (.call true "onward" [.v 0]),
 .asg 2 .newDict,
 .for1 3 (.seq (.v 1)) [
  .for1 4 (.seq (.idx (.v 1) (.v 3))) [
   .setIdx (.v 2) (.v 4) (.bin .add (.get (.v 2) (.v 4) (.int 0)) (.int 1))]],
 .for1 3 (.seq (.bf .sorted (.v 1))) [
  .ifs (.cmp .ne (.get (.v 2) (.v 3) (.int 0)) (.bf .len (.idx (.v 1) (.v 3)))) [
   .ret (.tup [.str "uneven",.own (.bf .list (.v 3))])] []],
 .asg 5 (.call true "come_to" [.v 1,.bf .tuple (.slice (.bf .min (.v 0)) .none (some (.neg 1)))]),
 .ifs (.cmp .lt (.bf .len (.v 5)) (.bf .len (.v 1))) [
  .ret (.tup [.str "apart",.own (.comp (.bf .list (.v 6)) 6 (.seq (.bf .sorted (.v 5))) .none)])] [],
 .ret .none]⟩
noncomputable def zft:FnDef:=⟨1,3,[
 .asg 1 (.int 1),
 .for1 2 (.range2 (.int 2) (.bin .add (.v 0) (.int 1))) [
  .asg 1 (.bin .mul (.v 1) (.v 2))],
 .ret (.v 1)]⟩
noncomputable def zdv:FnDef:=⟨2,3,[
 .for1 2 (.range2 (.v 1) (.bf .len (.v 0))) [
  .ifs (.cmp .ne (.idx (.idx (.v 0) (.v 2)) (.v 1)) (.int 0)) [
   .ret (.v 2)] []],
 .ret .none]⟩
noncomputable def zkk:FnDef:=⟨1,10,[
 .asg 0 (.own (.comp (.bf .list (.v 8)) 8 (.seq (.v 0)) .none)),
 .asg 1 (.int 1),
 .asg 2 (.int 1),
 .for1 3 (.range1 (.bf .len (.v 0))) [
  .asg 4 (.call false "pivot_row" [.v 0,.v 3]),
  .ifs (.cmp .is (.v 4) .none) [
   .ret (.int 0)] [],
  .ifs (.cmp .ne (.v 4) (.v 3)) [
   .asg 5 (.idx (.v 0) (.v 3)),
   .setIdx (.v 0) (.v 3) (.idx (.v 0) (.v 4)),
   .setIdx (.v 0) (.v 4) (.v 5),
   .asg 2 (.bin .sub (.int 0) (.v 2))] [],
  .asg 6 (.idx (.v 0) (.v 3)),
  .for1 4 (.range2 (.bin .add (.v 3) (.int 1)) (.bf .len (.v 0))) [
   .asg 7 (.idx (.v 0) (.v 4)),
   .setIdx (.v 0) (.v 4) (.comp (.bin .fdiv (.bin .sub (.bin .mul (.idx (.v 7) (.v 9)) (.idx (.v 6) (.v 3))) (.bin .mul (.idx (.v 7) (.v 3)) (.idx (.v 6) (.v 9)))) (.v 1)) 9 (.range1 (.bf .len (.v 7))) .none)],
  .asg 1 (.idx (.v 6) (.v 3))],
 .ret (.bin .mul (.v 2) (.v 1))]⟩
noncomputable def zcz:FnDef:=⟨3,13,[
 .expr (.call false "need_book" [.v 0,.v 1,.v 2]),
 .ifs (.cmp .isNot (.call false "lack_of" [.v 2]) .none) [
  .ret (.int 0)] [],
 .asg 3 .newDict,
 .for1 4 (.seq (.bf .sorted (.v 2))) [
  .expr (.setdef (.v 3) (.bf .tuple (.slice (.v 4) .none (some (.neg 1)))) (.bf .len (.v 3)))],
 .asg 5 (.comp (.own (.bin .mul (.list [.int 0]) (.bf .len (.v 3)))) 11 (.seq (.v 3)) .none),
 .for1 4 (.seq (.v 2)) [
  .asg 6 (.idx (.v 3) (.bf .tuple (.slice (.v 4) .none (some (.neg 1))))),
  .asg 7 (.idx (.v 3) (.bf .tuple (.slice (.v 4) (some (.int 1)) .none))),
  .setIdx (.idx (.v 5) (.v 6)) (.v 6) (.bin .add (.idx (.idx (.v 5) (.v 6)) (.v 6)) (.int 1)),
  .setIdx (.idx (.v 5) (.v 6)) (.v 7) (.bin .sub (.idx (.idx (.v 5) (.v 6)) (.v 7)) (.int 1))],
 .asg 8 .newDict,
 .for1 4 (.seq (.v 2)) [
  .asg 9 (.bf .tuple (.slice (.v 4) .none (some (.neg 1)))),
  .setIdx (.v 8) (.v 9) (.bin .add (.get (.v 8) (.v 9) (.int 0)) (.int 1))],
 .asg 10 (.call false "worth" [.comp (.slice (.v 12) (some (.int 1)) .none) 12 (.seq (.slice (.v 5) (some (.int 1)) .none)) .none]),
 .for1 9 (.seq (.v 8)) [
  .asg 10 (.bin .mul (.v 10) (.call false "product" [.bin .sub (.idx (.v 8) (.v 9)) (.int 1)]))],
 .ret (.v 10)]⟩
noncomputable def zfv:FnDef:=⟨3,9,[
 .ifs (.cmp .eq (.v 2) (.int 0)) [
  .ret (.bool true)] [],
 .asg 3 (.dict1 (.v 1) (.bool true)),
 .asg 4 (.own (.list [.v 1])),
 .asg 5 (.int 0),
 .while (.cmp .gt (.bf .len (.v 4)) (.int 0)) [
  .asg 6 (.pop (.v 4)),
  .asg 5 (.bin .add (.v 5) (.bf .len (.get (.v 0) (.v 6) (.list [])))),
  .for1 7 (.seq (.get (.v 0) (.v 6) (.list []))) [
   .asg 8 (.rev (.bin .add (.v 6) (.tup [.v 7]))),
   .ifs (.cmp .notIn (.v 8) (.v 3)) [
    .setIdx (.v 3) (.v 8) (.bool true),
    .expr (.append (.v 4) (.v 8))] []]],
 .ret (.cmp .eq (.v 5) (.v 2))]⟩
noncomputable def zdw:FnDef:=⟨3,5,[
 .for1 3 (.seq (.bf .sorted (.idx (.v 0) (.v 1)))) [
  .expr (.remove (.idx (.v 0) (.v 1)) (.v 3)),
  .asg 4 (.rev (.bin .add (.v 1) (.tup [.v 3]))),
  .ifs (.call false "goes_on" [.v 0,.v 4,.bin .sub (.v 2) (.int 1)]) [
   .ret (.v 3)] [],
  .expr (.append (.idx (.v 0) (.v 1)) (.v 3))],
 .ret .none]⟩
noncomputable def zfs:FnDef:=⟨3,10,[
 .expr (.call false "need_book" [.v 0,.v 1,.v 2]),
 .ifs (.cmp .isNot (.call false "lack_of" [.v 2]) .none) [
  .raise "NoRing"] [],
 .asg 3 .newDict,
 .for1 4 (.seq (.v 2)) [
  .expr (.append (.setdef (.v 3) (.bf .tuple (.slice (.v 4) .none (some (.neg 1)))) (.own (.list []))) (.idx (.v 4) (.neg 1)))],
 .asg 5 (.bf .min (.v 2)),
 .asg 6 (.bf .tuple (.slice (.v 5) (some (.int 1)) .none)),
 .expr (.remove (.idx (.v 3) (.bf .tuple (.slice (.v 5) .none (some (.neg 1))))) (.idx (.v 5) (.neg 1))),
 .asg 7 (.own (.list [.idx (.v 5) (.int 0)])),
 .for1 8 (.range3 (.bin .sub (.bf .len (.v 2)) (.int 1)) (.int 0) (.neg 1)) [
  .asg 9 (.call true "next_sign" [.v 3,.v 6,.v 8]),
  .expr (.append (.v 7) (.idx (.bin .add (.v 6) (.tup [.v 9])) (.int 0))),
  .asg 6 (.rev (.bin .add (.v 6) (.tup [.v 9])))],
 .ret (.v 7)]⟩
noncomputable def zfp:FnDef:=⟨2,2,[
 .ifs (.cmp .lt (.v 1) (.bf .len (.v 0))) [
  .ret (.idx (.v 0) (.v 1))] [],
 .ret (.int 0)]⟩
noncomputable def zfo:FnDef:=⟨1,2,[
 .asg 1 (.bin .add (.bin .add (.bin .mul (.list [.int 0]) (.bf .int (.isexc 0 (.own "BadSize")))) (.bin .mul (.list [.int 1]) (.bf .int (.isexc 0 (.own "BadWord"))))) (.bin .mul (.list [.int 2]) (.bf .int (.isexc 0 (.own "BadBook"))))),
 .asg 1 (.bin .add (.bin .add (.v 1) (.bin .mul (.list [.int 3]) (.bf .int (.isexc 0 (.own "BadRing"))))) (.bin .mul (.list [.int 4]) (.bf .int (.isexc 0 (.own "NoWord"))))),
 .asg 1 (.bin .add (.bin .add (.v 1) (.bin .mul (.list [.int 5]) (.bf .int (.isexc 0 (.own "NoRing"))))) (.bin .mul (.list [.int 6]) (.bf .int (.isexc 0 (.own "NoJoin"))))),
 .ret (.bf .tuple (.bin .mul (.v 1) (.bf .int (.isexc 0 .valueError))))]⟩
noncomputable def zke:FnDef:=⟨2,4,[
 .asg 2 (.int 1),
 .for1 3 (.range1 (.v 1)) [
  .asg 2 (.bin .mul (.v 2) (.v 0))],
 .ret (.v 2)]⟩
noncomputable def zmI:FnDef:=⟨1,2,[
 .asg 1 (.list [.tup [.int 2,.int 3],.tup [.int 3,.int 2],.tup [.int 2,.int 4],.tup [.int 3,.int 3],.tup [.int 2,.int 2],.tup [.int 4,.int 2],.tup [.int 2,.int 5],.tup [.int 5,.int 2],.tup [.int 3,.int 1],.tup [.int 1,.int 4],.tup [.int 6,.int 1],.tup [.int 2,.int 8]]),
 .ret (.idx (.v 1) (.bin .mod (.v 0) (.int 12)))]⟩
noncomputable def zmG:FnDef:=⟨3,5,[
 .asg 3 (.list []),
 .for1 4 (.range1 (.v 1)) [
  .asg 3 (.bin .add (.list [.bin .mod (.v 2) (.v 0)]) (.v 3)),
  .asg 2 (.bin .fdiv (.v 2) (.v 0))],
 .ret (.v 3)]⟩
noncomputable def zkd:FnDef:=⟨1,4,[
 .asg 1 (.own (.list [])),
 .for1 2 (.range1 (.bf .len (.v 0))) [
  .asg 3 (.bin .add (.slice (.v 0) (some (.v 2)) .none) (.slice (.v 0) .none (some (.v 2)))),
  .ifs (.cmp .notIn (.v 3) (.v 1)) [
   .expr (.append (.v 1) (.v 3))] []],
 .ret (.v 1)]⟩
noncomputable def zfq:FnDef:=⟨5,13,[
 .asg 5 (.call false "_law_cell_at" [.v 0,.v 1]),
 .asg 6 (.own (.list [])),
 .for1 7 (.range1 (.bin .add (.int 1) (.bin .mod (.v 5) (.v 4)))) [
  .asg 8 (.bin .mod (.bin .mul (.bin .add (.call false "_law_cell_at" [.v 0,.bin .add (.bin .add (.v 1) (.int 2)) (.v 7)]) (.bin .mul (.int 101) (.v 7))) (.int 48271)) (.int 1000003)),
  .asg 9 (.call false "_law_word" [.v 2,.v 3,.v 8]),
  .ifs (.and [.cmp .eq (.bin .mod (.bin .fdiv (.v 8) (.int 65536)) (.int 3)) (.int 1),.cmp .ne (.v 6) (.list [])]) [
   .asg 9 (.bin .add (.slice (.idx (.v 6) (.bin .mod (.bin .fdiv (.v 8) (.int 7)) (.bf .len (.v 6)))) (some (.int 1)) .none) (.list [.bin .mod (.v 8) (.v 2)]))] [],
  .asg 6 (.own (.bin .add (.v 6) (.comp (.v 12) 12 (.seq (.call false "_law_turns" [.v 9])) (some (.cmp .notIn (.v 12) (.v 6))))))],
 .asg 10 (.call false "_law_cell_at" [.v 0,.bin .add (.v 1) (.int 1)]),
 .ifs (.and [.cmp .eq (.bin .mod (.v 10) (.int 4)) (.int 1),.cmp .gt (.bf .len (.v 6)) (.int 1)]) [
  .expr (.popAt (.v 6) (.bin .mod (.bin .fdiv (.v 10) (.int 4)) (.bf .len (.v 6))))] [],
 .asg 9 (.call false "_law_word" [.v 2,.v 3,.bin .mod (.bin .mul (.bin .fdiv (.v 10) (.int 4)) (.int 48271)) (.int 1000003)]),
 .ifs (.and [.cmp .eq (.bin .mod (.v 10) (.int 4)) (.int 2),.cmp .notIn (.v 9) (.v 6)]) [
  .expr (.append (.v 6) (.v 9))] [],
 .asg 11 (.bin .mod (.bin .fdiv (.v 5) (.v 4)) (.bf .len (.v 6))),
 .asg 6 (.own (.bin .add (.slice (.v 6) (some (.v 11)) .none) (.slice (.v 6) .none (some (.v 11))))),
 .ifs (.cmp .eq (.bin .mod (.bin .fdiv (.v 10) (.int 4)) (.int 2)) (.int 1)) [
  .asg 6 (.bf .sorted (.v 6))] [],
 .ret (.v 6)]⟩
noncomputable def zmH:FnDef:=⟨3,5,[
 .ifs (.cmp .eq (.v 2) (.list [])) [
  .ret (.bf .int (.cmp .eq (.slice (.v 0) (some (.int 1)) .none) (.slice (.v 1) .none (some (.neg 1)))))] [],
 .asg 3 (.int 0),
 .for1 4 (.range1 (.bf .len (.v 2))) [
  .ifs (.cmp .eq (.slice (.idx (.v 2) (.v 4)) .none (some (.neg 1))) (.slice (.v 0) (some (.int 1)) .none)) [
   .asg 3 (.bin .add (.v 3) (.call false "_law_rows" [.idx (.v 2) (.v 4),.v 1,.bin .add (.slice (.v 2) .none (some (.v 4))) (.slice (.v 2) (some (.bin .add (.v 4) (.int 1))) .none)]))] []],
 .ret (.v 3)]⟩
noncomputable def zkf:FnDef:=⟨2,6,[
 .asg 2 (.int 1),
 .for1 3 (.range1 (.v 0)) [
  .asg 2 (.bin .mul (.v 2) (.bin .add (.v 3) (.int 1)))],
 .asg 4 (.int 1),
 .for1 5 (.range1 (.call false "_law_power" [.v 0,.bin .sub (.v 1) (.int 1)])) [
  .asg 4 (.bin .mul (.v 4) (.v 2))],
 .ret (.bin .fdiv (.v 4) (.call false "_law_power" [.v 0,.v 1]))]⟩
noncomputable def zd0:FnDef:=⟨3,4,[
 .try [
  .expr (.call false "ring_of" [.v 0,.v 1,.v 2])] "RingError" 3 [
  .ret (.cmp .ne (.callX "_law_classes" 3) (.tup [.int 5]))],
 .ret (.bool true)]⟩
noncomputable def zlY:FnDef:=⟨1,11,[
 .asgT [1,2] (.call false "_law_pair" [.bin .mod (.call false "_law_cell_at" [.v 0,.int 0]) (.int 11)]),
 .ifs (.cmp .eq (.bin .mod (.bin .fdiv (.call false "_law_cell_at" [.v 0,.int 0]) (.int 11)) (.int 9)) (.int 2)) [
  .asgT [1,2] (.idx (.list [.tup [.int 2,.int 4],.tup [.int 3,.int 3],.tup [.int 4,.int 2],.tup [.int 2,.int 5],.tup [.int 5,.int 2],.tup [.int 7,.int 1],.tup [.int 3,.int 2]]) (.bin .mod (.bin .fdiv (.call false "_law_cell_at" [.v 0,.int 0]) (.int 99)) (.int 7))),
  .asg 3 (.comp (.call false "_law_word" [.v 1,.v 2,.v 9]) 9 (.range1 (.call false "_law_power" [.v 1,.v 2])) .none),
  .ret (.cmp .eq (.call false "many_rings" [.v 1,.v 2,.v 3]) (.call false "_law_known" [.v 1,.v 2]))] [],
 .asg 3 (.call false "_law_book" [.v 0,.int 1,.v 1,.v 2,.int 3]),
 .ifs (.cmp .eq (.bin .mod (.bin .fdiv (.call false "_law_cell_at" [.v 0,.int 0]) (.int 11)) (.int 9)) (.int 1)) [
  .asg 4 (.list [.tup [.int 2,.int 2],.tup [.int 2,.int 3],.tup [.int 3,.int 2],.tup [.int 3,.int 1],.tup [.int 5,.int 1],.tup [.int 6,.int 1],.tup [.int 1,.int 3],.tup [.int 2,.int 1]]),
  .asgT [1,2] (.idx (.v 4) (.bin .mod (.bin .fdiv (.call false "_law_cell_at" [.v 0,.int 0]) (.int 99)) (.int 8))),
  .asg 3 (.comp (.call false "_law_word" [.v 1,.v 2,.v 9]) 9 (.range1 (.call false "_law_power" [.v 1,.v 2])) .none)] [],
 .asg 3 (.slice (.v 3) .none (some (.int 10))),
 .asg 5 (.comp (.bf .list (.v 10)) 10 (.seq (.v 3)) .none),
 .asg 6 (.call false "many_rings" [.v 1,.v 2,.v 5]),
 .ifs (.or [.not (.isinst (.v 6) [.int]),.isinst (.v 6) [.bool],.cmp .ne (.v 5) (.v 3)]) [
  .ret (.bool false)] [],
 .asg 7 (.idx (.bf .sorted (.v 3)) (.int 0)),
 .asg 8 (.call false "_law_rows" [.v 7,.v 7,.comp (.v 10) 10 (.seq (.v 3)) (some (.cmp .ne (.v 10) (.v 7)))]),
 .ret (.and [.cmp .eq (.v 6) (.v 8),.cmp .eq (.call false "_law_has_ring" [.v 1,.v 2,.v 5]) (.cmp .gt (.v 6) (.int 0))])]⟩
namespace L11
noncomputable def tl:List (String × FnDef × List String):=[
 ("is_among",zd3,["thing","low","high"]),
 ("how_many",zd4,["signs","size","found","turn"]),
 ("need_signs",zcy,["signs"]),
 ("need_size",zdx,["size"]),
 ("need_both",zdy,["signs","size"]),
 ("is_word",zfu,["signs","word"]),
 ("need_book",zdz,["signs","size","book","met","word"]),
 ("onward",zhd,["book","found","word"]),
 ("come_to",zfw,["ways","start","found","waiting","joint"]),
 ("lack_of",zb8,["book","ways","ends","joint","other","found"]),
 ("product",zft,["number","found","one"]),
 ("pivot_row",zdv,["rows","at","place"]),
 ("worth",zkk,["rows","last","sign","at","place","one","head","row"]),
 ("many_rings",zcz,["signs","size","book","places","word","rows","at","to","leaving","joint","found"]),
 ("goes_on",zfv,["left","joint","many","met","waiting","words","here","sign","other"]),
 ("next_sign",zdw,["left","joint","many","sign","other"]),
 ("ring_of",zfs,["signs","size","book","left","word","first","joint","found","many","sign"]),
 ("_law_cell_at",zfp,["_law_script","_law_k"]),
 ("_law_classes",zfo,["_law_e","_law_found"]),
 ("_law_power",zke,["_law_signs","_law_size","_law_found","_law_step"]),
 ("_law_pair",zmI,["_law_cell","_law_some"]),
 ("_law_word",zmG,["_law_signs","_law_size","_law_number","_law_found","_law_step"]),
 ("_law_turns",zkd,["_law_word_here","_law_found","_law_place","_law_turn"]),
 ("_law_book",zfq,["_law_script","_law_first","_law_signs","_law_size","_law_many","_law_cell","_law_book_here","_law_k","_law_number","_law_word_here","_law_more","_law_at"]),
 ("_law_rows",zmH,["_law_word_here","_law_first","_law_left","_law_found","_law_k"]),
 ("_law_known",zkf,["_law_signs","_law_size","_law_orders","_law_sign","_law_found","_law_joint"]),
 ("_law_has_ring",zd0,["_law_signs","_law_size","_law_book_here","_law_e"]),
 ("law",zlY,["_law_script","_law_signs","_law_size","_law_book_here","_law_some","_law_handed","_law_found","_law_least","_law_due"])]
noncomputable def fns:List String:=["is_among","how_many","need_signs","need_size","need_both","is_word","need_book","onward","come_to","lack_of","product","pivot_row","worth","many_rings","goes_on","next_sign","ring_of","_law_cell_at","_law_classes","_law_power","_law_pair","_law_word","_law_turns","_law_book","_law_rows","_law_known","_law_has_ring","law"]
end L11
noncomputable def PP:Tab:=tabOf L11.tl
theorem zhi:PP "is_among"=some zd3:=rfl
theorem zhj:PP "how_many"=some zd4:=rfl
theorem zeR:PP "need_signs"=some zcy:=rfl
theorem zfD:PP "need_size"=some zdx:=rfl
theorem zfE:PP "need_both"=some zdy:=rfl
theorem zir:PP "is_word"=some zfu:=rfl
theorem zfF:PP "need_book"=some zdz:=rfl
theorem zkv:PP "onward"=some zhd:=rfl
theorem zis:PP "come_to"=some zfw:=rfl
theorem zim:PP "lack_of"=some zb8:=rfl
theorem zil:PP "product"=some zft:=rfl
theorem zcT:PP "pivot_row"=some zdv:=rfl
theorem zm2:PP "worth"=some zkk:=rfl
theorem zcq:PP "many_rings"=some zcz:=rfl
theorem zeS:PP "goes_on"=some zfv:=rfl
theorem zfC:PP "next_sign"=some zdw:=rfl
theorem zeQ:PP "ring_of"=some zfs:=rfl
theorem zfH:PP "_law_cell_at"=some zfp:=rfl
theorem zfG:PP "_law_classes"=some zfo:=rfl
theorem zio:PP "_law_power"=some zke:=rfl
theorem zkx:PP "_law_pair"=some zmI:=rfl
theorem zkw:PP "_law_word"=some zmG:=rfl
theorem zin:PP "_law_turns"=some zkd:=rfl
theorem zky:PP "_law_book"=some zfq:=rfl
theorem zgw:PP "_law_rows"=some zmH:=rfl
theorem ziq:PP "_law_known"=some zkf:=rfl
theorem zcr:PP "_law_has_ring"=some zd0:=rfl
theorem zm3:PP "law"=some zlY:=rfl
theorem zga (n:Nat) (s:Int) (hs:s.natAbs < 1000) (z:Nat) (hz:z≤1000) (h:H) :
  run PP (n+1) true "how_many" [.int s,.int z] h=.ok (.int (s ^ z)) h:=by
 refine start zhj rfl (ρ:=[.int s,.int z,.uu,.uu]) rfl (zai (v:=.int 1) (h':=h) rfl rfl ?_);refine zi1 (l:=List.range z) (fun p w=>[.int s,.int z,.int (s ^ p.length),w]) (fun u=>h) .uu (zbp (n:=z) rfl (zX hz (by decide))) (fun u=>rfl) (by rw[length_nil,Int.pow_zero];rfl) rfl (fun p a q w u=>?_) fun w=>?_
 ·rw[zQ,length_singleton,Int.pow_succ,ss_cons',s_asg',zgk (x:=s ^ p.length) (y:=s) rfl rfl (Nat.lt_trans hs (by decide)),R.st_ok];rfl
 ·rw[length_range];exact zaA rfl
noncomputable def word (s:Nat):Nat→Nat→List Nat
 |0,_=>[]
 |z+1,k=>word s z (k / s)++[k % s]
theorem zoN (s k:Nat):word s 0 k=[]:=rfl
theorem zh5 (s z k:Nat):word s (z+1) k=word s z (k / s)++[k % s]:=rfl
theorem zbE (s z k:Nat):(word s z k).length=z:=by
 induction z generalizing k with
 |zero=>rfl
 |succ z ih=>rw[zh5,zQ,ih];rfl
theorem zh7 (hs:0 < s) (z k:Nat):∀ d∈word s z k,d < s:=by
 induction z generalizing k with
 |zero=>intro d hd;cases hd
 |succ z ih =>
  intro d hd
  rcases zP.1 hd with h|h
  ·exact ih _ d h
  ·simp at h;subst h;exact Nat.mod_lt _ hs
theorem zhe (s z i k:Nat) (hi:i≤z):word s z k=word s (z - i) (k / s ^ i)++word s i k:=by
 induction i generalizing z k with
 |zero=>rw[Nat.pow_zero,Nat.div_one,zoN,append_nil];rfl
 |succ i ih =>
  cases z with
  |zero=>exact absurd hi (Nat.not_succ_le_zero i)
  |succ z=>rw[zh5,ih z (k / s) (Nat.le_of_succ_le_succ hi),zh5,Nat.pow_succ,Nat.mul_comm,← Nat.div_div_eq_div_mul,yJ,Nat.add_sub_add_right]
noncomputable def V.lists (ls:List (List Nat)):List V:=ls.map fun l=>.l (V.nats l)
noncomputable def words (s z:Nat):List (List Nat):=(List.range (s ^ z)).map (word s z)
theorem lists_plains (ls:List (List Nat)):V.plains (V.lists ls)=true:=by
 induction ls with
 |nil=>rfl
 |cons a l ih=>exact yK.2 ⟨za9 a,ih⟩
theorem zhO (n:Nat) (q:Bool) (l:List Int) (k:Nat) (h:H) :
  run PP (n+1) q "_law_cell_at" [V.ints l,.int k] h=.ok (.int (cellAt l k)) h:=by
 refine start zfH rfl (ρ:=[V.ints l,.int k]) rfl ?_;have c:evE q (run PP n) [V.ints l,.int k] (.cmp .lt (.v 1) (.bf .len (.v 0))) h=.ok (.bool (decide ((k:Int) < ((l.map V.int).length:Nat)))) h:=by cases q<;>rfl
 rw[zJ] at c
 by_cases hk:k < l.length
 ·refine zej (c.trans (by rw[zW (Int.ofNat_lt.2 hk)])) (zaA ?_)
  show R.opt (pyIdx h (.l (l.map V.int)) (.int k)) h=_;rw[zmr (h:=h) (x:=.int (cellAt l k)) rfl (j:=k) (by rw[List.getElem?_map,zM hk,cellAt,List.getD_eq_getElem?_getD,zM hk];rfl)];rfl
 ·refine zbH (c.trans (by rw[zU fun e=>hk (Int.ofNat_lt.1 e)])) (zaA ?_)
  rw[cellAt,List.getD_eq_getElem?_getD,List.getElem?_eq_none (Nat.le_of_not_lt hk)];rfl
noncomputable def codeOf (c:String):Int :=
 if c="BadSize" then 0 else if c="BadWord" then 1 else if c="BadBook" then 2 else if c="BadRing" then 3 else if c="NoWord" then 4 else if c="NoRing" then 5 else 6
theorem zhM (n:Nat) (q:Bool) (c:String) (hc:c∈["BadSize","BadWord","BadBook","BadRing","NoWord","NoRing","NoJoin"]) (h:H) :
  run PP (n+1) q "_law_classes" [.exc c] h=.ok (.tup [.int (codeOf c)]) h:=by
 refine start zfG rfl (ρ:=[.exc c,.uu]) rfl ?_;simp only[zN,not_mem_nil,or_false] at hc
 cases q<;>rcases hc with rfl|rfl|rfl|rfl|rfl|rfl|rfl<;>rfl
theorem zgH (n:Nat) (s:Int) (hs:s.natAbs < 1000) (z:Nat) (hz:z≤1000) (h:H) :
  run PP (n+1) true "_law_power" [.int s,.int z] h=.ok (.int (s ^ z)) h:=by
 refine start zio rfl (ρ:=[.int s,.int z,.uu,.uu]) rfl ?_;refine zai (v:=.int 1) (h':=h) rfl (ρ':=[.int s,.int z,.int 1,.uu]) rfl ?_;refine zi1 (fun p w=>[.int s,.int z,.int (s ^ p.length),w]) (fun u=>h) .uu (zbp (n:=z) rfl (zX hz (by decide))) (fun u=>rfl) (by rw[length_nil,Int.pow_zero]) rfl ?_ fun w=>by rw[length_range];exact zaA rfl
 intro p a q w hp;rw[zQ,length_singleton,Int.pow_succ,ss_cons',s_asg',zgk (x:=s ^ p.length) (y:=s) rfl rfl (Nat.lt_trans hs (by decide))];rfl
theorem zel (n:Nat) (s z k:Nat) (hs:0 < s) (hz:z≤1000) (h:H) :
  run PP (n+1) true "_law_word" [.int s,.int z,.int k] h=.ok (.l (V.nats (word s z k))) h:=by
 refine start zkw rfl (ρ:=[.int s,.int z,.int k,.uu,.uu]) rfl ?_;refine zai (v:=.l []) (h':=h) rfl rfl ?_;refine zi1 (fun p w=>[.int s,.int z,.int ((k / s ^ p.length:Nat):Int),.l (V.nats (word s p.length k)),w]) (fun u=>h) .uu (zbp (n:=z) rfl (zX hz (by decide))) (fun u=>rfl) (by rw[length_nil,Nat.pow_zero,Nat.div_one];rfl) rfl ?_ ?_
 ·intro p a q w hp
  have hi:p.length < z:=by have:=congrArg List.length hp;rw[length_range,zQ,length_cons] at this;rw[this];exact Nat.lt_add_of_pos_right (Nat.succ_pos _)
  rw[zQ,length_singleton];generalize p.length=i at *
  have e2:k / s ^ (i+1)=k / s ^ i / s:=by rw[Nat.div_div_eq_div_mul,Nat.pow_succ]
  have e3:word s (i+1) k=(k / s ^ i % s)::word s i k:=by
   rw[zhe s (i+1) i k (Nat.le_succ i),Nat.add_sub_cancel_left];rfl
  rw[e2,e3];have hl:=zbE s i k;generalize word s i k=wd at *
  generalize k / s ^ i=m;have e4:evE true (run PP n) [.int s,.int z,.int m,.l (V.nats wd),.int a] (.bin .add (.list [.bin .mod (.v 2) (.v 0)]) (.v 3)) h=.ok (.l (V.nats (m % s::wd))) h:=by
   rw[zhq,ziJ,zbF,zb4 (x:=m) (y:=s) rfl rfl (Int.natCast_ne_zero.2 (Nat.ne_of_gt hs)),R.bind_ok,zlr];show R.opt (pyBin .add h (.l [.int ((m % s:Nat):Int)]) (.l (V.nats wd))) h=_;rw[addLL h _ _ (by rw[nats_length,hl,Nat.add_comm];exact zX hi (zX hz (by decide))),zbn];rfl
  rw[ss_cons'];show((evE true (run PP n) [.int s,.int z,.int m,.l (V.nats wd),.int a] (.bin .add (.list [.bin .mod (.v 2) (.v 0)]) (.v 3)) h).st _ _).then _=_;rw[e4];show exSs true (run PP n) [.asg 2 (.bin .fdiv (.v 2) (.v 0))] [.int s,.int z,.int m,.l (V.nats (m % s::wd)),.int a] h=_;rw[ss_cons',s_asg',zbD (x:=m) (y:=s) rfl rfl (Int.natCast_ne_zero.2 (Nat.ne_of_gt hs)),zgU];rfl
 ·intro w
  rw[length_range];exact zaA rfl
theorem IsL.len {h:H}{v:V}{l:List Nat}(e:IsL h v l):Mine.bf .len h v=some (.int l.length):=by
 rw[zml e,nats_length]
theorem zcc {h:H}{v:V}{vs:List V}(e:litems h v=some vs) (k:H):litems (h++k) v=some vs:=by
 rcases zaa e with rfl|⟨i,rfl,hc⟩
 ·rfl
 ·refine zab ?_
  rw[List.getElem?_append_left (List.getElem?_eq_some_iff.1 hc).1];exact hc
theorem IsL.app (e:IsL h v l) (k:H):IsL (h++k) v l:=zcc e k
theorem zdp {h:H}{v:V}{vs:List V}(e:litems h v=some vs) (hp:V.plains vs=true):frz 0 h v=some (.l vs):=by
 rcases zaa e with rfl|⟨i,rfl,hc⟩
 ·exact zau 0 h _ hp
 ·show frzAt 4 0 h i=_
  rw[zbK,zR (Nat.not_lt_zero i),hc];show Option.map _ (V.mapRefs _ vs)=_;rw[zam _ _ hp];rfl
theorem zht (a b:List (List Nat)):peqs (V.lists a) (V.lists b)=decide (a=b):=by
 induction a generalizing b with
 |nil=>cases b<;>rfl
 |cons x a ih=>cases b with
  |nil=>rfl
  |cons y b =>
   show(peq (.l (V.nats x)) (.l (V.nats y))&&peqs (V.lists a) (V.lists b))=_;rw[zeg,zc8,ih]
   by_cases e1:x=y<;>by_cases e2:a=b<;>simp[e1,e2]
theorem zei (l:List (List Nat)) (n:Nat):V.ok (n+3) (.l (V.lists l))=true:=by
 show(V.lists l).all (V.ok (n+2))=true;rw[all_eq_true];intro v hv;simp only[V.lists,yQ] at hv;obtain⟨x,_,rfl⟩:=hv;exact zcF x n
theorem zfR {h:H}{a b:V}{x y:List (List Nat)}(ha:frz 0 h a=some (.l (V.lists x))) (hb:frz 0 h b=some (.l (V.lists y))):pyEq h a b=some (decide (x=y)):=by
 rw[zgF ha hb (zei x 5) (zei y 5),zeg,zht]
def clean (v:V):Prop:=v.plain=true∧v.val∧∀ vs,v=.l vs→∀ x∈vs,x.val
theorem zeX (hp:v.plain=true) (hv:v.val) (h:H):okV h v:=by
 cases v<;>first|trivial|exact hv.elim|cases hp
theorem zhr (hp:V.plains vs=true) (hv:v∈vs):v.plain=true:=by
 induction vs with
 |nil=>cases hv
 |cons a l ih =>
  have hp:=yK.1 (show(V.plain a&&V.plains l)=true from hp)
  rcases zN.1 hv with rfl|hm
  ·exact hp.1
  ·exact ih hp.2 hm
theorem clean.okV (hc:clean v) (h:H):okV h v:=zeX hc.1 hc.2.1 h
theorem clean.items {v:V}(hc:clean v) (h:H):∀ vs,litems h v=some vs→∀ x∈vs,Mine.okV h x:=by
 intro vs hl x hx
 rcases zaa hl with rfl|⟨i,rfl,_⟩
 ·exact zeX (zhr hc.1 hx) (hc.2.2 _ rfl x hx) h
 ·cases hc.1
theorem ziM (h:∀ v∈vs,v.plain=true):V.plains vs=true:=by
 induction vs with
 |nil=>rfl
 |cons a l ih=>exact yK.2 ⟨h a (zZ ..),ih fun v hv=>h v (zY _ hv)⟩
theorem Watch.app {t:Watch}{h:H}(e:t.ok h=true) (k:H):t.ok (h++k)=true:=by
 cases t with
 |none=>rfl
 |some p =>
  have:h[p.1]?=some p.2:=zV e;show decide ((h++k)[p.1]?=some p.2)=true;rw[List.getElem?_append_left (List.getElem?_eq_some_iff.1 this).1,this];exact zW rfl
theorem zjT {α:Type}{elt cond:V→H→R V}(c:α→V) (k:α→List V) (t:Watch) (l:List α)
  (hc:∀ v h,cond v h=.ok (.bool true) h) (h:H) (ht:t.ok h=true) (he:∀ (a:α) (g:H),a∈l→elt (c a) (h++g)=.ok (.ref (h++g).length) (h++g++[.list (k a)])) :
  compL t elt cond (l.map c) h=.ok ((List.range l.length).map fun i=>.ref (h.length+i)) (h++l.map fun a=>.list (k a)):=by
 have key:∀ (q:List α) (g:H),(∀ a∈q,a∈l)→compL t elt cond (q.map c) (h++g)=.ok ((List.range q.length).map fun i=>.ref ((h++g).length+i)) (h++g++q.map fun a=>.list (k a)):=by
  intro q
  induction q with
  |nil=>intro g _;rw[map_nil,zeH,zT (Watch.app ht g)];simp
  |cons a q ih =>
   intro g hq;rw[yY,zeI,zT (Watch.app ht g),hc,R.bind_ok,truthy_bool];show(elt (c a) (h++g)).bind _=_;have ih:=ih (g++[.list (k a)]) (fun b hb=>hq b (zY _ hb));rw[←yJ] at ih;rw[he a g (hq a (zZ ..)),R.bind_ok,ih,R.bind_ok]
   congr 1
   ·rw[length_cons,List.range_succ_eq_map,yY,map_map]
    congr 1
    refine map_congr_left fun i z=>?_;simp only[Function.comp,zQ,length_singleton,V.ref.injEq];omega
   ·simp
 have:=key l [] (fun z h=>h)
 simpa using this
theorem zhG {α:Type}{F:Fn}{ρ:List V}{h h':H}{elt:PE}{x:Nat}{it:PIt}{l:List α}{c:α→V}{t:Watch}(hi:evIt true F ρ it h=.ok (l.map c,t) h') (ht:t.ok h'=true) (k:α→List V)
  (he:∀ (a:α) (g:H),a∈l→evE true F (ρ.set x (c a)) elt (h'++g)=.ok (.ref (h'++g).length) (h'++g++[.list (k a)])) (hn:l.length≤1000000) :
  evE true F ρ (.comp elt x it Option.none) h=.ok (.l ((List.range l.length).map fun i=>.ref (h'.length+i))) (h'++l.map fun a=>.list (k a)):=by
 rw[e_comp,zR (by decide),hi,R.bind_ok,zjT (cond:=fun v h=>evC true F (ρ.set x v) Option.none h) c k t l (fun z z=>rfl) h' ht he,lstR_ok,za1 (by simpa using hn)];rfl
theorem zaL {α:Type}{P:α→Prop}{a:α}{l:List α}(h:P a) (t:∀ x∈l,P x):∀ x∈a::l,P x:=fun x hx=>(zN.1 hx).elim (fun e=>e ▸ h) (t x)
noncomputable def cells (ps:List (List Nat)):H:=ps.map fun p=>.list (V.nats p)
section
variable {n:Nat}{h:H}{F:Fn}
theorem zp1 {α:Type}{body:List V→H→RS}(l:List α) (c:α→V) (Inv:List α→List V→H→Prop) (hw:∀ p ρ g,Inv p ρ g→t.ok g=true)
  (hb:∀ p a q ρ g,l=p++a::q→Inv p ρ g→∃ ρ' g',body (ρ.set x (c a)) g=.ok .next ρ' g'∧Inv (p++[a]) ρ' g') (h0:Inv [] ρ h) :
  ∃ ρ' g',forL t (bind1 x) body (l.map c) ρ h=.ok .next ρ' g'∧Inv l ρ' g':=by
 have key:∀ (q p:List α) (ρ:List V) (g:H),l=p++q→Inv p ρ g→∃ ρ' g',forL t (bind1 x) body (q.map c) ρ g=.ok .next ρ' g'∧Inv l ρ' g':=by
  intro q
  induction q with
  |nil=>intro p ρ g e hi;rw[append_nil] at e;subst e;exact⟨ρ,g,by rw[map_nil,zgS,zT (hw _ _ _ hi)],hi⟩
  |cons a q ih =>
   intro p ρ g e hi;obtain⟨ρ1,g1,e1,i1⟩:=hb p a q ρ g e hi;obtain⟨ρ2,g2,e2,i2⟩:=ih (p++[a]) ρ1 g1 (by rw[e,yJ];rfl) i1
   refine⟨ρ2,g2,?_,i2⟩;rw[yY,zfi,zT (hw _ _ _ hi)];show(body (ρ.set x (c a)) g).then _=_;rw[e1,RS.then_next,e2]
 exact key l [] ρ h rfl h0
theorem zaE {α:Type}{t:Watch}{x:Nat}{it:PIt}{body:List PS}{ρ:List V}{h':H}{l:List α}{c:α→V}(Inv:List α→List V→H→Prop)
  (hi:evIt true F ρ it h=.ok (l.map c,t) h') (hw:∀ p ρ g,Inv p ρ g→t.ok g=true) (h0:Inv [] ρ h')
  (hb:∀ p a q ρ g,l=p++a::q→Inv p ρ g→∃ ρ' g',exSs true F body (ρ.set x (c a)) g=.ok .next ρ' g'∧Inv (p++[a]) ρ' g') :
  ∃ ρ' g',exS true F (.for1 x it body) ρ h=.ok .next ρ' g'∧Inv l ρ' g':=by
 rw[s_for1',zR (by decide),hi,R.st_ok]
 exact zp1 (x:=x) (body:=fun ρ h=>exSs true F body ρ h) l c Inv hw hb h0
theorem zaB {s:PS}{ss:List PS}{ρ ρ':List V}{h':H}{r:R V}(e:exS true F s ρ h=.ok .next ρ' h') (k:(exSs true F ss ρ' h').out=r):(exSs true F (s::ss) ρ h).out=r:=by
 rw[ss_cons',e,RS.then_next];exact k
end
namespace L11
section
variable {n:Nat}{h:H}{F:Fn}
theorem zjL (e:ρ[i]?=some v) (hv:v.val) (e':ρ[j]?=some w) (hw:w.val):evE true F ρ (.call false f [.v i,.v j]) h=pcall h (F true f [v,w] h):=by
 rw[zed,zbF,zao e hv,R.bind_ok,zbF,zao e' hw];rfl
theorem zgM (hm:m≤999999):m < turns:=by
 exact Nat.lt_of_le_of_lt hm (show 999999 < 1000000 by decide)
theorem zbi (e1:evE true F ρ e h=.ok v h) (e2:evEs true F ρ es h=.ok vs h):evEs true F ρ (e::es) h=.ok (v::vs) h:=by rw[zbF,e1,R.bind_ok,e2];rfl
theorem zg5 (s:List Int) (k:Nat):pcall h (run PP (n+1) true "_law_cell_at" [V.ints s,.int k] h)=.ok (.int (cellAt s k)) h:=by
 rw[zhO  n true s k h,zaK rfl]
theorem zdf (x:Int) (m:Nat) (hm:0 < m):x.fmod m=((x.fmod m).toNat:Int)∧(x.fmod m).toNat < m:=by
 obtain⟨j,hj,e⟩:=zcg x m hm;rw[e];exact⟨by simp,by simpa using hj⟩
noncomputable def zi (l:List Nat):List Int:=l.map fun d:Nat=>(d:Int)
theorem zl2 (e:zi a=zi b):a=b:=by
 unfold zi at e;exact List.map_inj_right (fun x y h=>Int.natCast_inj.1 h) |>.1 e
theorem zaR (l:List Nat):asInts (V.nats l)=some (zi l):=by
 induction l with
 |nil=>rfl
 |cons d l ih =>
  show(asInts (V.nats l)).map ((d:Int)::·)=_;rw[ih];rfl
theorem zbW {α β:Type}{f:V→Option α}(c:β→V) (k:β→α):∀ (l:List β),(∀ b∈l,f (c b)=some (k b))→keyed f (l.map c)=some (l.map fun b=>(k b,c b)):=by
 intro l__
 induction l__ with
 |nil=>exact fun z=>rfl
 |cons b l ih =>
  intro e;rw[yY,zf7,e b (zZ ..),ih fun x hx=>e x (zY _ hx)];rfl
theorem zol {F:Fn}{ρ:List V}{a b:PE}{h:H}{v w:V}{t:Bool}(ea:evE true F ρ a h=.ok v h) (eb:evE true F ρ b h=.ok w h) (e:pyEq h v w=some t):evE true F ρ (.cmp .ne a b) h=.ok (.bool (!t)) h:=by
 rw[zbQ,ea,R.bind_ok,eb,R.bind_ok];show R.opt (Option.map V.bool (Option.map (!·) (pyEq h v w))) h=_;rw[e];rfl
theorem zqK (ea:evE true F ρ a h=.ok v h) (eb:evE true F ρ b h=.ok w h) (e:pyEq h v w=some t):evE true F ρ (.cmp .eq a b) h=.ok (.bool t) h:=by
 rw[zbQ,ea,R.bind_ok,eb,R.bind_ok];show R.opt (Option.map V.bool (pyEq h v w)) h=_;rw[e];rfl
theorem zmi {x:Nat}{v:V}{vs:List V}(e:ρ[x]?=some v) (hl:litems h v=some vs):evE true F ρ (.bf .list (.v x)) h=.ok (.l vs) h:=by
 rw[zlQ (f:=.list) rfl,zao e (zbC hl).val,R.bind_ok]
 rcases zaa hl with rfl|⟨i,rfl,hc⟩
 ·rfl
 ·show R.opt (Option.map _ (match h[i]? with|some (.list vs)=>some vs|_=>Option.none)) h=_
  rw[hc];rfl
theorem zcu (ee:evE true F ρ e h=.ok (.l vs) h):evE true F ρ (.own e) h=.ok (.ref h.length) (h++[.list vs]):=by
 rw[zkO,ee];rfl
end
noncomputable def turn (w:List Nat) (p:Nat):List Nat:=w.drop p++w.take p
theorem zkt (w:List Nat) (p:Nat):(turn w p).length=w.length:=by
 unfold turn;rw[zQ,Nat.add_comm,← zQ,take_append_drop]
theorem zks (h:d∈turn w p):d∈w:=by
 rcases zP.1 h with h|h
 ·exact List.mem_of_mem_drop h
 ·exact mem_of_mem_take h
noncomputable def tf (w:List Nat):Nat→List (List Nat)
 |0=>[]
 |p+1=>if turn w p∈tf w p then tf w p else tf w p++[turn w p]
theorem zoU (w:List Nat) (p:Nat):tf w (p+1)=if turn w p∈tf w p then tf w p else tf w p++[turn w p]:=rfl
theorem zih:t∈tf w p↔∃ i,i < p∧t=turn w i:=by
 induction p with
 |zero=>exact⟨fun h=>(not_mem_nil h).elim,fun h=>(Nat.not_lt_zero _ h.choose_spec.1).elim⟩
 |succ p ih =>
  have aux:t∈tf w (p+1)↔t∈tf w p∨t=turn w p:=by
   rw[zoU]
   by_cases h:turn w p∈tf w p
   ·rw[zT h]
    exact⟨.inl,fun q=>q.elim id fun e=>e ▸ h⟩
   ·rw[zR h,zP,zK]
  rw[aux,ih]
  constructor
  ·rintro(⟨i,h,e⟩|e)
   ·exact⟨i,Nat.lt_succ_of_lt h,e⟩
   ·exact⟨p,Nat.lt_succ_self p,e⟩
  ·rintro⟨i,h,e⟩
   exact(Nat.lt_succ_iff_lt_or_eq.1 h).elim (fun h=>.inl ⟨i,h,e⟩) fun q=>.inr (q ▸ e)
theorem zku:∀ {p:Nat},(tf w p).Nodup:=by
 intro l__
 induction l__ with
 |zero=>exact .nil
 |succ p ih =>
  rw[zoU]
  by_cases h:turn w p∈tf w p
  ·rw[zT h];exact ih
  ·rw[zR h,nodup_append]
   exact⟨ih,by simp,fun a ha b hb=>by rw[zK.1 hb];exact fun q=>h (q ▸ ha)⟩
theorem zgu:∀ {p:Nat},(tf w p).length≤p:=by
 intro l__
 induction l__ with
 |zero=>exact Nat.le_refl _
 |succ p ih =>
  rw[zoU]
  by_cases h:turn w p∈tf w p
  ·rw[zT h];exact Nat.le_succ_of_le ih
  ·rw[zR h,zQ];exact Nat.add_le_add_right ih 1
theorem zdU (ha:frz 0 h a=some (.l (V.nats x))) (hb:frz 0 h b=some (.l (V.lists L))):isIn h a b=some (decide (x∈L)):=by
 unfold isIn;rw[ha,hb];show(if(V.ok 8 (.l (V.nats x))&&V.ok 8 (.l (V.lists L)))=true then some ((V.lists L).any fun y=>peq y (.l (V.nats x))) else Option.none)=_;rw[zcF x 6,zei L 5,zT (show(true&&true)=true from rfl)];refine congrArg some ?_;unfold V.lists;rw[List.any_map];have e:((fun y=>peq y (V.l (V.nats x)))∘fun l:List Nat=>V.l (V.nats l))=fun l=>decide (l=x):=funext fun l=>zc8 l x
 rw[e]
 clear ha hb e
 induction L with
 |nil=>rfl
 |cons l L ih=>rw[List.any_cons,ih,decide_eq_decide.2 (zN (a:=x) (b:=l) (l:=L)),Bool.decide_or,decide_eq_decide.2 (eq_comm (a:=l) (b:=x))]
section
variable {q:Bool}{F:Fn}{ρ:List V}{h h':H}{e t:PE}{v:V}{x:Nat}{ss a b:List PS}
theorem zap (he:evE q F ρ e h=.ok v h'):exSs q F (.asg x e::ss) ρ h=exSs q F ss (ρ.set x v) h':=by rw[ss_cons',s_asg',he];rfl
theorem zaD (he:evE q F ρ e h=.ok v h'):exSs q F (.expr e::ss) ρ h=exSs q F ss ρ h':=by rw[ss_cons',s_expr',he];rfl
theorem zbk (ht:evE q F ρ t h=.ok (.bool true) h'):exSs q F (.ifs t a b::ss) ρ h=exSs q F (a++ss) ρ h':=by rw[ss_cons',s_ifs,ht,zcK];rfl
theorem zaW (ht:evE q F ρ t h=.ok (.bool false) h'):exSs q F (.ifs t a b::ss) ρ h=exSs q F (b++ss) ρ h':=by rw[ss_cons',s_ifs,ht,zcK];rfl
theorem zj7 {i c:Nat}{vs:List V}{a:PE}{y:V}(ei:ρ[i]?=some (.ref c)) (hc:h[c]?=some (.list vs)) (ea:evE q F ρ a h=.ok y h) (hl:vs.length≤1000):evE q F ρ (.append (.v i) a) h=.ok .none (h.set c (.list (vs++[y]))):=by
 rw[znq,zao ei trivial,R.bind_ok,zT (zbV hc),ea,R.bind_ok,za0 hc _ .none (vs++[y]) rfl (by rw[zQ];exact zX (Nat.succ_le_succ hl) (by decide))]
theorem zlI {i:Nat}{W:List Nat}{lo:PE}{k:Nat}(ei:ρ[i]?=some (.l (V.nats W))) (el:evE q F ρ lo h=.ok (.int k) h):evE q F ρ (.slice (.v i) (some lo) .none) h=.ok (.l (V.nats (W.drop k))) h:=by
 rw[e_slice,zao ei trivial,R.bind_ok];show(((evE q F ρ lo h).bind fun v h=>R.ok (some v) h).bind fun l h=>(R.ok Option.none h).bind fun u h=>R.opt (zas h _ l u) h)=_;rw[el,R.bind_ok,R.bind_ok,R.bind_ok,zaY rfl,zde];rfl
theorem zql {i:Nat}{W:List Nat}{hi:PE}{k:Nat}(ei:ρ[i]?=some (.l (V.nats W))) (el:evE q F ρ hi h=.ok (.int k) h):evE q F ρ (.slice (.v i) .none (some hi)) h=.ok (.l (V.nats (W.take k))) h:=by
 rw[e_slice,zao ei trivial,R.bind_ok];show((R.ok Option.none h).bind fun l h=>(((evE q F ρ hi h).bind fun v h=>R.ok (some v) h).bind fun u h=>R.opt (zas h _ l u) h))=_;rw[R.bind_ok,el,R.bind_ok,R.bind_ok,zcC rfl,ze2];rfl
end
theorem zah (h:H) (c:Cell):(h++[c])[h.length]?=some c:=by rw[List.getElem?_append_right (Nat.le_refl _),Nat.sub_self];rfl
theorem za6 (h:H) (c d:Cell):(h++[c]).set h.length d=h++[d]:=by rw[set_append_right _ _ (Nat.le_refl _),Nat.sub_self];rfl
theorem zag (L:List (List Nat)):(V.lists L).length=L.length:=zJ ..
theorem zaH (A B:List (List Nat)):V.lists (A++B)=V.lists A++V.lists B:=map_append ..
theorem lists_plains (L:List (List Nat)):V.plains (V.lists L)=true:=ziM fun v hv=>by
 obtain⟨l,_,rfl⟩:=yQ.1 hv;exact zaM l
theorem zeW (e:h[i]?=some (.list vs)):pyIn h a (.ref i)=isIn h a (.ref i):=by
 show(match h[i]? with|some (.dict es)=>if keyOk a then some (dfind a es).isSome else Option.none|_=>isIn h a (.ref i))=_
 rw[e]
noncomputable def lastT (W:List Nat):Nat→V
 |0=>.uu
 |p+1=>.l (V.nats (turn W p))
theorem range_at {n:Nat}{p q:List Nat}{a:Nat}(h:List.range n=p++a::q):a=p.length∧p.length < n:=by
 have e:=congrArg (·[p.length]?) h;simp only[List.getElem?_append_right (Nat.le_refl _),Nat.sub_self,List.getElem?_cons_zero] at e;obtain⟨h1,h2⟩:=List.getElem?_eq_some_iff.1 e;rw[length_range] at h1;rw[getElem_range] at h2;exact⟨h2.symm,h1⟩
theorem zia (n:Nat) (h:H) (W:List Nat) (hW:W.length≤1000):run PP (n+1) true "_law_turns" [.l (V.nats W)] h=.ok (.ref h.length) (h++[.list (V.lists (tf W W.length))]):=by
 refine start zin rfl (ρ:=[.l (V.nats W),.uu,.uu,.uu]) rfl ?_;refine zai (v:=.ref h.length) (h':=h++[.list []]) rfl rfl ?_;have hlen:∀ (ρ:List V) (g:H),evE true (run PP n) (.l (V.nats W)::ρ) (.bf .len (.v 0)) g=.ok (.int W.length) g:=fun ρ g=>by
  rw[zlQ (f:=.len) rfl,zao (v:=.l (V.nats W)) rfl trivial,R.bind_ok,(IsL.lst g W).len];rfl
 refine zi1 (l:=List.range W.length) (fun p w=>[.l (V.nats W),.ref h.length,w,lastT W p.length]) (fun p=>h++[.list (V.lists (tf W p.length))]) .uu (zbp (hlen _ _) (zX hW (by decide))) (fun z=>rfl) rfl rfl ?_ ?_
 ·intro p a q w hp
  obtain⟨rfl,hlt⟩:=range_at hp;rw[zQ,length_singleton];generalize p.length=i at *
  have e2:evE true (run PP n) [V.l (V.nats W),.ref h.length,.int i,lastT W i] (.v 2) (h++[.list (V.lists (tf W i))])=.ok (.int i) (h++[.list (V.lists (tf W i))]):=zao (v:=.int i) rfl trivial;have e3:evE true (run PP n) [V.l (V.nats W),.ref h.length,.int i,lastT W i] (.bin .add (.slice (.v 0) (some (.v 2)) .none) (.slice (.v 0) .none (some (.v 2)))) (h++[.list (V.lists (tf W i))])=.ok (.l (V.nats (turn W i))) (h++[.list (V.lists (tf W i))]):=by
   rw[zhq,zlI rfl e2,R.bind_ok,zql rfl e2,R.bind_ok,addLL _ _ _ (by rw[nats_length,nats_length,Nat.add_comm,← zQ,take_append_drop];exact zX hW (by decide)),← zav];rfl
  show exSs true (run PP n) _ [V.l (V.nats W),.ref h.length,.int i,lastT W i] _=_;rw[zap e3];show exSs true (run PP n) _ [V.l (V.nats W),.ref h.length,.int i,.l (V.nats (turn W i))] _=_;have ei:(h++[Cell.list (V.lists (tf W i))])[h.length]?=some (.list (V.lists (tf W i))):=zah _ _;have e4:evE true (run PP n) [V.l (V.nats W),.ref h.length,.int i,.l (V.nats (turn W i))] (.cmp .notIn (.v 3) (.v 1)) (h++[.list (V.lists (tf W i))])=.ok (.bool (!decide (turn W i∈tf W i))) (h++[.list (V.lists (tf W i))]):=by
   rw[e_cmp,zao (v:=.l (V.nats (turn W i))) rfl trivial,R.bind_ok,zao (v:=.ref h.length) rfl trivial,R.bind_ok];show R.opt (((pyIn _ _ (.ref h.length)).map (!·)).map V.bool) _=_;rw[zeW ei,zdU (zau _ _ _ (zaM _)) (zdp (zab ei) (lists_plains _))];rfl
  by_cases hm:turn W i∈tf W i
  ·rw[zW hm] at e4
   rw[zaW e4,zoU,zT hm];rfl
  ·rw[zU hm] at e4
   rw[zbk e4];show exSs _ _ [.expr _] _ _=_;rw[zaD (zj7 rfl ei (zao (v:=.l (V.nats (turn W i))) rfl trivial) (by rw[zag];exact zX zgu (zX (Nat.le_of_lt hlt) hW))),za6,zoU,zR hm,zaH];rfl
 ·intro w
  rw[length_range];exact zaA (zao (v:=.ref h.length) rfl trivial)
structure Bk (s z m:Nat) (B:List (List Nat)):Prop where
 nodup:B.Nodup
 len:∀ w∈B,w.length=z
 lt:∀ w∈B,∀ d∈w,d < s
 cnt:B.length≤m
theorem Bk.nil (s z:Nat):Bk s z 0 []:=⟨.nil,fun y h=>(nomatch h),fun y h=>(nomatch h),Nat.le_refl _⟩
noncomputable def more (B:List (List Nat)) (W:List Nat):List (List Nat):=B++(tf W W.length).filter fun t=>!decide (t∈B)
theorem Bk.add (b:Bk s z m B) (hW:W.length=z) (hl:∀ d∈W,d < s):Bk s z (m+z) (more B W):=by
 have mem:∀ {t},t∈more B W↔t∈B∨t∈tf W W.length:=fun {t}=>by
  unfold more;rw[zP,mem_filter];refine⟨fun h=>h.imp id And.left,fun h=>?_⟩
  by_cases e:t∈B
  ·exact .inl e
  ·exact .inr ⟨h.resolve_left e,by rw[zU e];rfl⟩
 refine⟨?_,fun w hw=>?_,fun w hw d hd=>?_,?_⟩
 ·unfold more
  rw[nodup_append];refine⟨b.nodup,zku.filter _,fun x hx y hy e=>?_⟩;have:=(List.mem_filter.1 hy).2;rw[←e,zW hx] at this
  cases this
 ·rcases mem.1 hw with h|h
  ·exact b.len w h
  ·obtain⟨i,_,rfl⟩:=zih.1 h
   rw[zkt];exact hW
 ·rcases mem.1 hw with h|h
  ·exact b.lt w h d hd
  ·obtain⟨i,_,rfl⟩:=zih.1 h
   exact hl d (zks hd)
 ·unfold more
  rw[zQ];exact Nat.add_le_add b.cnt (zX (length_filter_le ..) (hW ▸ zgu))
theorem znN (h:0 < W.length):more B W≠[]:=by
 intro e;have h1:turn W 0∈tf W W.length:=zih.2 ⟨0,h,rfl⟩;unfold more at e;obtain⟨rfl,e⟩:=List.append_eq_nil_iff.1 e;have:=List.filter_eq_nil_iff.1 e _ h1;exact this rfl
noncomputable def pre (w:List Nat):List Nat:=w.take (w.length - 1)
noncomputable def suf (w:List Nat):List Nat:=w.drop 1
theorem within {α:Type} [DecidableEq α]:∀ {a b:List α},a.Nodup→(∀ x∈a,x∈b)→a.length≤b.length:=by
 intro l__
 induction l__ with
 |nil=>intro _ _ _;exact Nat.zero_le _
 |cons x a ih =>
  intro b hn hs;rw[yZ] at hn;have hx:=hs x (zZ ..);have:=ih (b:=b.erase x) hn.2 fun y hy=>(mem_erase_of_ne (a:=y) (b:=x) fun e=>hn.1 (e ▸ hy)).2 (hs y (zY _ hy));rw[length_erase_of_mem hx] at this;exact Nat.add_le_of_le_sub (length_pos_of_mem hx) this
section
variable {n:Nat}{h g:H}
noncomputable def Eb (s:List Int) (f S Z:Nat) (c:Int) (bk k nu wd mo at' tn:V):List V:=[V.ints s,.int f,.int S,.int Z,.int 3,.int c,bk,k,nu,wd,mo,at',tn]
theorem zpB (k:Nat) (hk:k≤1000):∃ N:Nat,evE true (run PP (n+1)) (Eb s f S Z c bk (.int k) nu wd mo at' tn)
  (.bin .mod (.bin .mul (.bin .add (.call false "_law_cell_at" [.v 0,.bin .add (.bin .add (.v 1) (.int 2)) (.v 7)]) (.bin .mul (.int 101) (.v 7))) (.int 48271)) (.int 1000003)) g=.ok (.int N) g:=by
 have i1:evE true (run PP (n+1)) (Eb s f S Z c bk (.int k) nu wd mo at' tn) (.bin .add (.bin .add (.v 1) (.int 2)) (.v 7)) g=.ok (.int ((f+2+k:Nat):Int)) g:=(zb5 (zb5 (x:=f) (y:=2) rfl rfl) (y:=k) rfl).trans (by rw[Int.natCast_add,Int.natCast_add];rfl)
 have m1:=zb4 (y:=1000003) (zgk (y:=48271) (zb5 (zb2 (zao (i:=0) (v:=V.ints s) rfl trivial) i1 (zg5 (n:=n) s (f+2+k))) (zgk (a:=.int 101) (b:=.v 7) (x:=101) (y:=k) rfl rfl (Nat.lt_of_le_of_lt hk (by decide)))) (b:=.int 48271) rfl (by decide)) (b:=.int 1000003) rfl (by decide)
 obtain⟨e1,_⟩:=zdf ((cellAt s (f+2+k)+101 * (k:Int)) * 48271) 1000003 (by decide)
 exact⟨_,m1.trans (by rw[←e1];rfl)⟩
theorem zlV (ea:evE true F ρ a g=.ok (.bool x) g) (eb:x=true→evE true F ρ b g=.ok (.bool y) g):evE true F ρ (.and [a,b]) g=.ok (.bool (x&&y)) g:=by
 rw[e_and,e_and2,ea,R.bind_ok]
 cases x with
 |false=>rfl
 |true=>exact eb rfl
theorem zpD (ei:ρ[i]?=some (.ref r)) (hr:g[r]?=some (.list (V.lists B))):evE true F ρ (.cmp .ne (.v i) (.list [])) g=.ok (.bool (!decide (B=[]))) g:=by
 rw[e_cmp,zao ei trivial,R.bind_ok];show R.opt (((pyEq g (.ref r) (.l (V.lists []))).map (!·)).map V.bool) g=_;rw[zfR (zdp (zab hr) (lists_plains _)) (zau _ _ _ rfl)];rfl
theorem znL {F:Fn}{ρ:List V}{a b:PE}{x y:Nat}(ea:evE true F ρ a g=.ok (.int x) g) (eb:evE true F ρ b g=.ok (.int y) g) (hy:0 < y):evE true F ρ (.bin .mod a b) g=.ok (.int ((x % y:Nat):Int)) g :=
 (zb4 ea eb (Int.natCast_ne_zero.2 (Nat.ne_of_gt hy))).trans (by rw[Int.fmod_eq_emod_of_nonneg _ (Int.natCast_nonneg y)];rfl)
theorem zpE {F:Fn}{ρ:List V}{a b:PE}{x y:Nat}(ea:evE true F ρ a g=.ok (.int x) g) (eb:evE true F ρ b g=.ok (.int y) g) (hy:0 < y):evE true F ρ (.bin .fdiv a b) g=.ok (.int ((x / y:Nat):Int)) g :=
 (zbD ea eb (Int.natCast_ne_zero.2 (Nat.ne_of_gt hy))).trans (by rw[zgU])
end
section
variable {n:Nat}{h g:H}{F:Fn}{ρ:List V}
theorem zju (g:H) (L:List (List Nat)):frz g.length (g++[.list (V.lists L)]) (.ref g.length)=some (.l (V.lists L)):=by
 show frzAt 4 g.length _ g.length=_;rw[zbK,zR (Nat.lt_irrefl _),zah];show Option.map _ (V.mapRefs _ (V.lists L))=_;rw[zam _ _ (lists_plains L)];rfl
theorem zmW (W:List Nat) (hW:W.length≤1000):pcall g (run PP (n+1) true "_law_turns" [.l (V.nats W)] g)=.ok (.l (V.lists (tf W W.length))) g:=by
 rw[zia  n g W hW,zc9 _ _ (zju g _)]
theorem zgO {B:List (List Nat)}{j:Nat}{w:List Nat}(e:B[j]?=some w):(V.lists B)[j]?=some (.l (V.nats w)):=by
 unfold V.lists;rw[List.getElem?_map,e];rfl
theorem ze3 {B:List (List Nat)}{j:Nat}(hj:j < B.length):(V.lists B)[j]?=some (.l (V.nats B[j])):=zgO (zM hj)
theorem ziz {a e:PE}{v:V}{l:List Nat}{p:Nat}(ea:evE true F ρ a h=.ok v h) (hl:IsL h v l) (ee:evE true F ρ e h=.ok (.int p) h):evE true F ρ (.slice a (some e) .none) h=.ok (.l (V.nats (l.drop p))) h:=by
 rw[zfQ,ea,R.bind_ok,zoJ,ee,R.bind_ok,R.bind_ok,zoK,R.bind_ok,zaY hl p,zde];rfl
theorem zaO (ea:evE true F ρ a h=.ok v h) (hl:litems h v=some vs):evE true F ρ (.bf .len a) h=.ok (.int vs.length) h:=by
 rw[zlQ (f:=.len) rfl,ea,R.bind_ok,zml hl];rfl
theorem zaP {a i:PE}{v x:V}{vs:List V}{j:Nat}(ea:evE true F ρ a h=.ok v h) (ei:evE true F ρ i h=.ok (.int j) h) (hl:litems h v=some vs) (hj:vs[j]?=some x):evE true F ρ (.idx a i) h=.ok x h:=by
 rw[zee,ea,R.bind_ok,ei,R.bind_ok,zmr hl hj];rfl
theorem zg9 (ea:evE true F ρ a h=.ok v h) (eb:evE true F ρ b h=.ok w h) (hv:litems h v=some vs) (hw:litems h w=some ws) (hl:vs.length+ws.length≤1000000):evE true F ρ (.bin .add a b) h=.ok (.l (vs++ws)) h:=by
 rw[zhq,ea,R.bind_ok,eb,R.bind_ok,zqy hv hw hl];rfl
theorem zgL {a b:PE}{v w:V}{x:List Nat}{L:List (List Nat)}(ea:evE true F ρ a h=.ok v h) (eb:evE true F ρ b h=.ok w h) (hv:IsL h v x) (hw:litems h w=some (V.lists L)):evE true F ρ (.cmp .notIn a b) h=.ok (.bool (!decide (x∈L))) h:=by
 rw[zbQ,ea,R.bind_ok,eb,R.bind_ok];show R.opt (((pyIn h v w).map (!·)).map V.bool) h=_;have e:pyIn h v w=isIn h v w:=by
  rcases zaa hw with rfl|⟨i,rfl,hc⟩
  ·rfl
  ·exact zeW hc
 rw[e,zdU hv.frz (zdp hw (lists_plains _))];rfl
theorem zh6 {s:List Int}{f S Z:Nat}{c:Int}{r N:Nat}{k wd mo at' tn:V}{B:List (List Nat)}{m:Nat}{ss:List PS}(hS:0 < S) (hZ:1≤Z∧Z≤8) (b:Bk S Z m B) (hm:m≤1000) (hr:g[r]?=some (.list (V.lists B))):∃ W:List Nat,(W.length=Z∧∀ d∈W,d < S) ∧
  exSs true (run PP (n+1)) (.asg 9 (.call false "_law_word" [.v 2,.v 3,.v 8]) ::
  .ifs (.and [.cmp .eq (.bin .mod (.bin .fdiv (.v 8) (.int 65536)) (.int 3)) (.int 1),.cmp .ne (.v 6) (.list [])]) [
   .asg 9 (.bin .add (.slice (.idx (.v 6) (.bin .mod (.bin .fdiv (.v 8) (.int 7)) (.bf .len (.v 6)))) (some (.int 1)) .none) (.list [.bin .mod (.v 8) (.v 2)]))] []::ss) (Eb s f S Z c (.ref r) k (.int N) wd mo at' tn) g=exSs true (run PP (n+1)) ss (Eb s f S Z c (.ref r) k (.int N) (.l (V.nats W)) mo at' tn) g:=by
 have e1:evE true (run PP (n+1)) (Eb s f S Z c (.ref r) k (.int N) wd mo at' tn) (.call false "_law_word" [.v 2,.v 3,.v 8]) g=.ok (.l (V.nats (word S Z N))) g :=
  zaV (zao (v:=.int S) rfl trivial) (zao (v:=.int Z) rfl trivial) (zao (v:=.int N) rfl trivial) (by rw[zel  n S Z N hS (zX hZ.2 (by decide)) g,zaK (zaM _)])
 rw[zap e1];show ∃ W:List Nat,(W.length=Z∧∀ d∈W,d < S)∧exSs true (run PP (n+1)) _ (Eb s f S Z c (.ref r) k (.int N) (.l (V.nats (word S Z N))) mo at' tn) g=_;have hl:=zbE S Z N;have hd:=zh7 hS Z N;generalize word S Z N=W0 at hl hd;have hN:evE true (run PP (n+1)) (Eb s f S Z c (.ref r) k (.int N) (.l (V.nats W0)) mo at' tn) (.v 8) g=.ok (.int N) g:=rfl;have h6:evE true (run PP (n+1)) (Eb s f S Z c (.ref r) k (.int N) (.l (V.nats W0)) mo at' tn) (.v 6) g=.ok (.ref r) g:=rfl
 have t:=zlV (zdJ (y:=1) (znL (zpE (b:=.int 65536) (y:=65536) hN rfl (by decide)) (b:=.int 3) (y:=3) rfl (by decide)) (b:=.int 1) rfl) fun z=>zpD (F:=run PP (n+1)) (ρ:=Eb s f S Z c (.ref r) k (.int N) (.l (V.nats W0)) mo at' tn) (i:=6) rfl hr
 generalize hx:(decide (((N / 65536 % 3:Nat):Int)=1)&&!decide (B=[]))=x at t
 cases x with
 |false=>exact⟨W0,⟨hl,hd⟩,zaW t⟩
 |true =>
  rw[Bool.and_eq_true] at hx;have hB:0 < B.length:=List.length_pos_iff.2 fun e=>by rw[zW e] at hx;exact absurd hx.2 (by decide)
  have hj:=Nat.mod_lt (N / 7) hB;generalize ej:N / 7 % B.length=j at hj;have e7:evE true (run PP (n+1)) (Eb s f S Z c (.ref r) k (.int N) (.l (V.nats W0)) mo at' tn) (.bin .mod (.bin .fdiv (.v 8) (.int 7)) (.bf .len (.v 6))) g=.ok (.int j) g:=by
   rw[←ej];exact znL (zpE (b:=.int 7) (y:=7) hN rfl (by decide)) ((zaO h6 (zab hr)).trans (by rw[zag])) hB
  have w:=zg9 (ziz (p:=1) (zaP h6 e7 (zab hr) (ze3 hj)) (IsL.lst _ _) (e:=.int 1) rfl) (b:=.list [.bin .mod (.v 8) (.v 2)]) (w:=.l (V.nats [N % S])) (ws:=V.nats [N % S]) (by
   rw[ziJ,zbF,znL hN (y:=S) (zao (v:=.int S) rfl trivial) hS];rfl) rfl rfl (by rw[nats_length,nats_length,length_drop,b.len _ (getElem_mem hj)];exact zX (Nat.add_le_add_right (Nat.sub_le ..) 1) (zX (Nat.succ_le_succ hZ.2) (by decide)))
  rw[←zav] at w;refine⟨_,⟨?_,fun d hm=>?_⟩,(zbk t).trans (zap w)⟩
  ·rw[zQ,length_drop,b.len _ (getElem_mem hj)];exact Nat.sub_add_cancel hZ.1
  ·rcases zP.1 hm with hm|hm
   ·exact b.lt _ (getElem_mem hj) d (List.mem_of_mem_drop hm)
   ·rw[zK.1 hm];exact Nat.mod_lt _ hS
end
section
variable {n:Nat}{h g:H}{F:Fn}{ρ:List V}
theorem zjY (hW:W.length≤1000) (hB:B.length≤1000) (hr:g[r]?=some (.list (V.lists B))) :
  exSs true (run PP (n+1)) (.asg 6 (.own (.bin .add (.v 6) (.comp (.v 12) 12 (.seq (.call false "_law_turns" [.v 9])) (some (.cmp .notIn (.v 12) (.v 6))))))::ss) (Eb s f S Z c (.ref r) k nu (.l (V.nats W)) mo at' .uu) g
   = exSs true (run PP (n+1)) ss (Eb s f S Z c (.ref g.length) k nu (.l (V.nats W)) mo at' .uu) (g++[.list (V.lists (more B W))]):=by
 have ci:evIt true (run PP (n+1)) (Eb s f S Z c (.ref r) k nu (.l (V.nats W)) mo at' .uu) (.seq (.call false "_law_turns" [.v 9])) g=.ok ((tf W W.length).map fun l=>V.l (V.nats l),Option.none) g :=
  zbq (zb3 (zao (v:=.l (V.nats W)) rfl trivial) (zmW  W hW))
 have ce:=zgW (F:=run PP (n+1)) (elt:=.v 12) (cond:=.cmp .notIn (.v 12) (.v 6)) (x:=12) ci rfl (fun l=>V.l (V.nats l)) (fun t=>!decide (t∈B)) (fun a z=>zgL (ρ:=Eb s f S Z c (.ref r) k nu (.l (V.nats W)) mo at' (.l (V.nats a))) (v:=.l (V.nats a)) (w:=.ref r) rfl rfl (IsL.lst _ _) (zab hr)) (fun a z z=>zao (v:=.l (V.nats a)) rfl trivial)
  (za1 (vs:=V.lists ((tf W W.length).filter fun t=>!decide (t∈B))) (by rw[zag];exact zX (length_filter_le ..) (zX zgu (zX hW (by decide)))))
 have e:=zg9 (ρ:=Eb s f S Z c (.ref r) k nu (.l (V.nats W)) mo at' .uu) (a:=.v 6) (v:=.ref r) rfl ce (zab hr) rfl (by rw[zag,zag];exact zX (Nat.add_le_add hB (zX (length_filter_le ..) (zX zgu hW))) (by decide))
 rw[zap (zcu e),← zaH];rfl
noncomputable def InvB (s:List Int) (f S Z:Nat) (c:Int) (h:H) (p:List Nat) (ρ:List V) (g:H):Prop :=
 ∃ (B:List (List Nat)) (r:Nat) (k nu wd:V) (x:H),ρ=Eb s f S Z c (.ref r) k nu wd .uu .uu .uu∧g=h++x∧h.length≤r∧g[r]?=some (.list (V.lists B))∧Bk S Z (p.length * Z) B∧(0 < p.length→B≠[])
theorem zlj {s:List Int}{f S Z:Nat}{c:Int}(hS:0 < S) (hZ:1≤Z∧Z≤8){p:List Nat}{i:Nat}(hi:i≤4) (hp:p.length≤4){ρ:List V}(I:InvB s f S Z c h p ρ g) :
  ∃ ρ' g',exSs true (run PP (n+1)) [
  .asg 8 (.bin .mod (.bin .mul (.bin .add (.call false "_law_cell_at" [.v 0,.bin .add (.bin .add (.v 1) (.int 2)) (.v 7)]) (.bin .mul (.int 101) (.v 7))) (.int 48271)) (.int 1000003)),
  .asg 9 (.call false "_law_word" [.v 2,.v 3,.v 8]),
  .ifs (.and [.cmp .eq (.bin .mod (.bin .fdiv (.v 8) (.int 65536)) (.int 3)) (.int 1),.cmp .ne (.v 6) (.list [])]) [
   .asg 9 (.bin .add (.slice (.idx (.v 6) (.bin .mod (.bin .fdiv (.v 8) (.int 7)) (.bf .len (.v 6)))) (some (.int 1)) .none) (.list [.bin .mod (.v 8) (.v 2)]))] [],
  .asg 6 (.own (.bin .add (.v 6) (.comp (.v 12) 12 (.seq (.call false "_law_turns" [.v 9])) (some (.cmp .notIn (.v 12) (.v 6))))))] (ρ.set 7 (.int i)) g=.ok .next ρ' g'∧InvB s f S Z c h (p++[i]) ρ' g':=by
 obtain⟨B,r,k,nu,wd,x,rfl,rfl,h1,h2,b,h3⟩:=I;have pz:p.length * Z≤4 * 8:=Nat.mul_le_mul hp hZ.2;obtain⟨N,eN⟩:=zpB (n:=n) (g:=h++x) (s:=s) (f:=f) (S:=S) (Z:=Z) (c:=c) (bk:=.ref r) (nu:=nu) (wd:=wd) (mo:=.uu) (at':=.uu) (tn:=.uu) i (zX hi (by decide))
 obtain⟨W,⟨hl,hd⟩,eW⟩:=zh6 (n:=n) (g:=h++x) (s:=s) (f:=f) (c:=c) (N:=N) (k:=.int i) (wd:=wd) (mo:=.uu) (at':=.uu) (tn:=.uu) (ss:=[.asg 6 (.own (.bin .add (.v 6) (.comp (.v 12) 12 (.seq (.call false "_law_turns" [.v 9])) (some (.cmp .notIn (.v 12) (.v 6))))))]) hS hZ b (zX pz (by decide)) h2
 have hW:W.length≤1000:=by rw[hl];exact zX hZ.2 (by decide)
 refine⟨_,_,(zap eN).trans (eW.trans (zjY  hW (zX b.cnt (zX pz (by decide))) h2)),more B W,(h++x).length,_,_,_,x++[.list (V.lists (more B W))],rfl,(yJ ..),?_,zah _ _,?_,fun z=>znN (by rw[hl];exact hZ.1)⟩
 ·rw[zQ];exact Nat.le_add_right ..
 ·rw[zQ,length_singleton,Nat.add_mul,Nat.one_mul];exact b.add hl hd
end
theorem zff {α β:Type}{lt:α→α→Bool}{lt':β→β→Bool}(f:α→β) (e:∀ a b,lt' (f a) (f b)=lt a b):∀ l:List α,isort lt' (l.map f)=(isort lt l).map f:=by
 intro l__
 induction l__ with
 |nil=>exact rfl
 |cons x xs ih =>
  have ins:∀ l:List α,isort.insertBy' lt' (f x) (l.map f)=(isort.insertBy' lt x l).map f:=by
   intro l
   induction l with
   |nil=>rfl
   |cons y l ih =>
    rw[yY,zcJ,zcJ,e y x]
    cases lt y x with
    |true=>rw[zT rfl,zT rfl,ih,yY]
    |false=>rfl
  rw[yY,zn2,ih,ins];rfl
noncomputable def wlt (a b:List Nat):Bool:=lexLt (zi a) (zi b)
theorem zeh:Ord wlt:=⟨fun a=>zi8 _,fun a b c=>zmk _ _ _,fun a b h1 h2=>zl2 (zi7 _ _ h1 h2)⟩
noncomputable def srt (l:List (List Nat)):List (List Nat):=isort wlt l
theorem za5 (l:List (List Nat)):(srt l).Perm l:=za2 l
theorem ziv (l:List (List Nat)):(srt l).Pairwise fun a b=>wlt b a=false:=zeC (lt:=wlt) (le:=fun a b=>wlt b a=false) (fun a b e=>zeh.asymm e) (fun a b e=>e) (fun a b c e1 e2=>zeh.le_tr e1 e2) l
theorem zix {α:Type}{le:α→α→Prop}{a b:List α}(p:a.Perm b) (ha:a.Pairwise le) (hb:b.Pairwise le) (anti:∀ x y,le x y→le y x→x=y):a=b:=by
 induction a generalizing b with
 |nil=>exact(List.nil_perm.1 p).symm
 |cons x a ih=>cases b with
  |nil=>cases p.length_eq
  |cons y b =>
   have hx:x∈y::b:=p.mem_iff.1 (zZ ..);have hy:y∈x::a:=p.mem_iff.2 (zZ ..);have e:x=y:=by
    rcases zN.1 hx with e|hx'
    ·exact e
    ·rcases zN.1 hy with e|hy'
     ·exact e.symm
     ·exact anti x y ((List.pairwise_cons.1 ha).1 y hy') ((List.pairwise_cons.1 hb).1 x hx')
   subst e;rw[ih (List.perm_cons x |>.1 p) (List.pairwise_cons.1 ha).2 (List.pairwise_cons.1 hb).2]
theorem zoW (p:a.Perm b):srt a=srt b :=
 zix ((za5 a).trans (p.trans (za5 b).symm)) (ziv a) (ziv b) fun x y h1 h2=>zeh.tot x y h2 h1
theorem zfJ (l:List (List Nat)):(srt l).length=l.length:=(za5 l).length_eq
theorem zca:x∈srt l↔x∈l:=(za5 l).mem_iff
theorem zkA (ha:a.Nodup) (hb:b.Nodup) (h:∀ x,x∈a↔x∈b):srt a=srt b:=zoW ((List.perm_ext_iff_of_nodup ha hb).2 h)
theorem ziy {c:List Nat→V}(h64:ts.length < 64):sortBy lexLt (ts.map fun t=>(zi t,c t))=some ((srt ts).map c):=by
 have e:isort (fun a b:List Int × V=>lexLt a.1 b.1) (ts.map fun t=>(zi t,c t))=(srt ts).map fun t=>(zi t,c t):=zff (lt:=wlt) (fun t=>(zi t,c t)) (fun a b=>rfl) ts;unfold sortBy;rw[zT,e,map_map];rfl
 rw[Bool.and_eq_true];refine⟨zW (by rw[zJ];exact h64),?_⟩
 rw[all_eq_true];intro p hp;rw[all_eq_true];intro q hq;obtain⟨a,_,rfl⟩:=yQ.1 hp;obtain⟨b,_,rfl⟩:=yQ.1 hq;exact zW fun e=>by rw[zl2 e]
theorem zbm (h:H) (ts:List (List Nat)) (h64:ts.length < 64):sortVs h (V.lists ts)=some (V.lists (srt ts)):=by
 cases ts with
 |nil=>rfl
 |cons t ts =>
  have e1:keyed keyI (V.lists (t::ts))=none:=rfl;have e2:keyed (keyL h) (V.lists (t::ts))=some ((t::ts).map fun t=>(zi t,.l (V.nats t))):=zbW (f:=keyL h) (fun t:List Nat=>V.l (V.nats t)) zi _ fun t z=>zaR t;unfold sortVs;rw[e1,e2];exact ziy h64
noncomputable def V.tw (l:List Nat):V:=.tup (V.nats l)
noncomputable def tups (ls:List (List Nat)):List V:=ls.map V.tw
theorem zcY (h:H) (ts:List (List Nat)) (h64:ts.length < 64) (h0:ts.length < 2∨∀ t∈ts,t≠[]):sortVs h (tups ts)=some (tups (srt ts)):=by
 cases ts with
 |nil=>rfl
 |cons t ts =>
  have e1:keyed keyI (tups (t::ts))=none:=rfl;have e2:keyed (keyL h) (tups (t::ts))=none:=rfl;have e4:∀ t:List Nat,t≠[]→keyT1 (V.tw t)=some (zi t):=fun t ht=>by
   cases t with
   |nil=>exact absurd rfl ht
   |cons d l=>exact zaR (d::l)
  unfold sortVs;rw[e1,e2]
  by_cases ha:∀ x∈t::ts,x≠[]
  ·have e3:keyed keyT1 (tups (t::ts))=some ((t::ts).map fun t=>(zi t,V.tw t)):=zbW (f:=keyT1) V.tw zi _ fun t ht=>e4 t (ha t ht)
   show(match keyed keyT1 (tups (t::ts)) with
    |some l=>sortBy lexLt l
    |none=>if(tups (t::ts)).length < 2 then some (tups (t::ts)) else Option.none)=_
   rw[e3];exact ziy h64
  ·have h1:=h0.resolve_right ha
   have e:ts=[]:=eq_nil_of_length_eq_zero (Nat.lt_one_iff.1 (Nat.lt_of_succ_lt_succ h1));subst e;have e5:t=[]:=Classical.byContradiction fun e=>ha fun x hx=>by rw[zK.1 hx];exact e
   subst e5
   rfl
theorem zi5 {h:H}{L:List (V × List Nat)}{p:V × List Nat}(hL:∀ q∈p::L,IsL h q.1 q.2):∃ q∈p::L,minVs h ((p::L).map (·.1))=some q.1∧∀ t∈p::L,wlt t.2 q.2=false:=by
 have key:∀ (L:List (V × List Nat)) (p:V × List Nat),∃ q∈p::L,zbo (zi p.2) p.1 (L.map fun t=>(zi t.2,t.1))=q.1∧∀ t∈p::L,wlt t.2 q.2=false:=by
  intro L
  induction L with
  |nil=>intro p;exact⟨p,zZ ..,rfl,fun t ht=>by rw[zK.1 ht];exact zeh.irr _⟩
  |cons a L ih =>
   intro p;rw[yY,zdg]
   cases hlt:lexLt (zi a.2) (zi p.2) with
   |true =>
    obtain⟨q,hq,e,hm⟩:=ih a;refine⟨q,zY _ hq,e,fun t ht=>?_⟩
    rcases zN.1 ht with rfl|ht
    ·exact zeh.le_tr (hm a (zZ ..)) (zeh.asymm hlt)
    ·exact hm t ht
   |false =>
    obtain⟨q,hq,e,hm⟩:=ih p;refine⟨q,?_,e,fun t ht=>?_⟩
    ·rcases zN.1 hq with rfl|hq
     ·exact zZ ..
     ·exact zY _ (zY _ hq)
    ·rcases zN.1 ht with rfl|ht
     ·exact hm _ (zZ ..)
     ·rcases zN.1 ht with rfl|ht
      ·exact zeh.le_tr (hm p (zZ ..)) hlt
      ·exact hm t (zY _ ht)
 obtain⟨q,hq,e,hm⟩:=key L p;refine⟨q,hq,?_,hm⟩;unfold minVs;rw[zbW (f:=keyL h) (fun t:V × List Nat=>t.1) (fun t=>zi t.2) (p::L) fun t ht=>by
  unfold keyL;rw[show litems h t.1=some (V.nats t.2) from hL t ht];exact zaR t.2]
 exact congrArg some e
theorem zbP {h:H}{v:V}{vs:List V}(hl:litems h v=some vs):sitems h v=some vs:=by
 rcases zaa hl with rfl|⟨i,rfl,hc⟩
 ·rfl
 ·show(match (match h[i]? with|some (.dict es)=>some es|_=>Option.none) with|some es=>some (es.map Prod.fst)|Option.none=>litems h (.ref i))=_
  rw[hc];exact hl
theorem zc2 (hc:h[r]?=some (.dict es)):sitems h (.ref r)=some (es.map (·.1)):=by
 show(match (match h[r]? with|some (.dict es)=>some es|_=>Option.none) with|some es=>some (es.map Prod.fst)|Option.none=>litems h (.ref r))=_
 rw[hc]
theorem zaX (ea:evE true F ρ a h=.ok v h) (hl:sitems h v=some vs) (hs:sortVs h vs=some S):evE true F ρ (.bf .sorted a) h=.ok (.l S) h:=by
 rw[zlQ (f:=.sorted) rfl,ea,R.bind_ok];show R.opt ((sitems h v).bind fun vs=>(sortVs h vs).map V.l) h=_;rw[hl,Option.bind_some,hs];rfl
structure GB (S Z:Nat) (B:List (List Nat)):Prop where
 nodup:B.Nodup
 ne:B≠[]
 len:∀ w∈B,w.length=Z
 lt:∀ w∈B,∀ d∈w,d < S
 cnt:B.length≤25
theorem GB.of (b:GB S Z A) (p:B.Perm A):GB S Z B:=by
 exact⟨p.nodup_iff.2 b.nodup,fun e=>b.ne (by subst e;exact(List.nil_perm.1 p)),fun w hw=>b.len w (p.mem_iff.1 hw),fun w hw=>b.lt w (p.mem_iff.1 hw),by rw[p.length_eq];exact b.cnt⟩
theorem Bk.le (b:Bk s z m B) (h:m≤k):Bk s z k B:=⟨b.nodup,b.len,b.lt,zX b.cnt h⟩
section
variable {n:Nat}{h g:H}{F:Fn}{ρ:List V}
def At (h g:H) (r:Nat) (B:List (List Nat)):Prop:=h.length≤r∧g[r]?=some (.list (V.lists B))∧g.take h.length=h
theorem At.set (a:At h g r B):At h (g.set r (.list (V.lists B'))) r B' :=
 ⟨a.1,by rw[List.getElem?_set_self (List.getElem?_eq_some_iff.1 a.2.1).1],by rw[List.take_set_of_le a.1];exact a.2.2⟩
theorem zpm {o i:PE}{r j:Nat}{B:List (List Nat)}(eo:evE true F ρ o g=.ok (.ref r) g) (ei:evE true F ρ i g=.ok (.int j) g) (a:At h g r B) (hj:j < B.length) (hB:B.length≤1000):∃ v,evE true F ρ (.popAt o i) g=.ok v (g.set r (.list (V.lists (B.eraseIdx j)))):=by
 refine⟨.l (V.nats B[j]),?_⟩;rw[zpf,eo,R.bind_ok,zT (zbV a.2.1),ei,R.bind_ok];refine za0 a.2.1 _ _ _ ?_ ?_
 ·have hp:place (V.lists B).length (j:Int)=some j:=by
   unfold place;rw[zT (Int.natCast_nonneg j),zag,zT (Int.ofNat_lt.2 hj)];rfl
  rw[hp,Option.bind_some,ze3 hj];show some _=_;unfold V.lists;rw[List.eraseIdx_eq_take_drop_succ,List.eraseIdx_eq_take_drop_succ,map_append,map_take,map_drop]
 ·rw[zag]
  exact zX (List.eraseIdx_sublist B j).length_le (zX hB (by decide))
theorem zj0 {s:List Int}{f S Z:Nat}{c mo:Int}{r:Nat}{k nu wd:V}{B:List (List Nat)}{ss:List PS}{m:Nat}(hm:m≤32) (b:Bk S Z m B) (hB:B≠[]) (a:At h g r B):∃ B1 g1,(B1.Sublist B∧B1≠[])∧At h g1 r B1 ∧
  exSs true F (.ifs (.and [.cmp .eq (.bin .mod (.v 10) (.int 4)) (.int 1),.cmp .gt (.bf .len (.v 6)) (.int 1)]) [
  .expr (.popAt (.v 6) (.bin .mod (.bin .fdiv (.v 10) (.int 4)) (.bf .len (.v 6))))] []::ss) (Eb s f S Z c (.ref r) k nu wd (.int mo) .uu .uu) g=exSs true F ss (Eb s f S Z c (.ref r) k nu wd (.int mo) .uu .uu) g1:=by
 have h6:evE true F (Eb s f S Z c (.ref r) k nu wd (.int mo) .uu .uu) (.v 6) g=.ok (.ref r) g:=rfl;have hl:=(zaO h6 (zab a.2.1)).trans (by rw[zag])
 have t:=zlV (b:=.cmp .gt (.bf .len (.v 6)) (.int 1)) (y:=decide ((1:Int) < (B.length:Int))) (zdJ (y:=1) (zb4 (a:=.v 10) (b:=.int 4) (x:=mo) (y:=4) rfl rfl (by decide)) (b:=.int 1) rfl) (fun z=>by
  rw[zbQ,hl];show R.opt ((pyCmp .gt g (.int B.length) (.int 1)).map V.bool) g=_;rw[cmp_gt_int];rfl)
 generalize hx:(decide (mo.fmod 4=1)&&decide ((1:Int) < (B.length:Int)))=x at t
 cases x with
 |false=>exact⟨B,g,⟨List.Sublist.refl _,hB⟩,a,zaW t⟩
 |true =>
  rw[Bool.and_eq_true,decide_eq_true_eq,decide_eq_true_eq] at hx;have h1:1 < B.length:=Int.ofNat_lt.1 hx.2;obtain⟨e1,l1⟩:=zdf (mo.fdiv 4) B.length (Nat.lt_trans Nat.zero_lt_one h1);generalize ((mo.fdiv 4).fmod (B.length:Int)).toNat=j at e1 l1;have ej:=(zb4 (zbD (a:=.v 10) (b:=.int 4) (x:=mo) (y:=4) rfl rfl (by decide)) hl (Int.natCast_ne_zero.2 (Nat.ne_of_gt (Nat.lt_trans Nat.zero_lt_one h1)))).trans (by rw[e1])
  obtain⟨v,ep⟩:=zpm h6 ej a l1 (zX b.cnt (zX hm (by decide)))
  refine⟨_,_,⟨List.eraseIdx_sublist ..,fun e=>?_⟩,a.set,(zbk t).trans (zaD ep)⟩;have:=congrArg List.length e;rw[List.length_eraseIdx_of_lt l1] at this;exact absurd this (Nat.ne_of_gt (Nat.sub_pos_of_lt h1))
theorem zlP (hB:B.length≤1000) (a:At h g r B):∃ B1 g1,(B1=B∨B1=B++[W]∧W ∉ B)∧At h g1 r B1 ∧
  exSs true F (.ifs (.and [.cmp .eq (.bin .mod (.v 10) (.int 4)) (.int 2),.cmp .notIn (.v 9) (.v 6)]) [
  .expr (.append (.v 6) (.v 9))] []::ss) (Eb s f S Z c (.ref r) k nu (.l (V.nats W)) (.int mo) .uu .uu) g=exSs true F ss (Eb s f S Z c (.ref r) k nu (.l (V.nats W)) (.int mo) .uu .uu) g1:=by
 have t:=zlV (zdJ (y:=2) (zb4 (F:=F) (ρ:=Eb s f S Z c (.ref r) k nu (.l (V.nats W)) (.int mo) .uu .uu) (a:=.v 10) (b:=.int 4) (x:=mo) (y:=4) rfl rfl (by decide)) (b:=.int 2) rfl) (fun z=>zgL (a:=.v 9) (b:=.v 6) (v:=.l (V.nats W)) (w:=.ref r) rfl rfl (IsL.lst g W) (zab a.2.1))
 generalize hx:(decide (mo.fmod 4=2)&&!decide (W∈B))=x at t
 cases x with
 |false=>exact⟨B,g,.inl rfl,a,zaW t⟩
 |true =>
  rw[Bool.and_eq_true] at hx;have hW:W ∉ B:=fun e=>by rw[zW e] at hx;exact absurd hx.2 (by decide)
  refine⟨B++[W],_,.inr ⟨rfl,hW⟩,a.set,(zbk t).trans ((zaD (zj7 (y:=.l (V.nats W)) rfl a.2.1 rfl (by rw[zag];exact hB))).trans ?_)⟩
  rw[zaH];rfl
end
section
variable {n:Nat}{h g:H}{F:Fn}{ρ:List V}
theorem zjZ {s:List Int}{f S Z:Nat}{c:Int}(hS:0 < S) (hZ:1≤Z∧Z≤8):∃ (B:List (List Nat)) (r:Nat) (k nu wd:V) (g:H),(Bk S Z 24 B∧B≠[])∧At h g r B ∧
  exS true (run PP (n+1)) (.for1 7 (.range1 (.bin .add (.int 1) (.bin .mod (.v 5) (.v 4)))) [
  .asg 8 (.bin .mod (.bin .mul (.bin .add (.call false "_law_cell_at" [.v 0,.bin .add (.bin .add (.v 1) (.int 2)) (.v 7)]) (.bin .mul (.int 101) (.v 7))) (.int 48271)) (.int 1000003)),
  .asg 9 (.call false "_law_word" [.v 2,.v 3,.v 8]),
  .ifs (.and [.cmp .eq (.bin .mod (.bin .fdiv (.v 8) (.int 65536)) (.int 3)) (.int 1),.cmp .ne (.v 6) (.list [])]) [
   .asg 9 (.bin .add (.slice (.idx (.v 6) (.bin .mod (.bin .fdiv (.v 8) (.int 7)) (.bf .len (.v 6)))) (some (.int 1)) .none) (.list [.bin .mod (.v 8) (.v 2)]))] [],
  .asg 6 (.own (.bin .add (.v 6) (.comp (.v 12) 12 (.seq (.call false "_law_turns" [.v 9])) (some (.cmp .notIn (.v 12) (.v 6))))))]) (Eb s f S Z c (.ref h.length) .uu .uu .uu .uu .uu .uu) (h++[.list []])=.ok .next (Eb s f S Z c (.ref r) k nu wd .uu .uu .uu) g:=by
 obtain⟨e1,l1⟩:=zdf c 3 (by decide)
 generalize (c.fmod ((3:Nat):Int)).toNat=j at e1 l1;have ei:evE true (run PP (n+1)) (Eb s f S Z c (.ref h.length) .uu .uu .uu .uu .uu .uu) (.bin .add (.int 1) (.bin .mod (.v 5) (.v 4))) (h++[.list []])=.ok (.int ((1+j:Nat):Int)) (h++[.list []]):=(zb5 (x:=1) rfl (zb4 (x:=c) (y:=3) rfl rfl (by decide))).trans (by rw[Int.natCast_add,← e1];rfl)
 obtain⟨ρ',g',e,B,r,k,nu,wd,x,rfl,rfl,h1,h2,b,h3⟩:=zaE (F:=run PP (n+1)) (x:=7) (l:=List.range (1+j)) (c:=fun i:Nat=>V.int i) (InvB s f S Z c h) (zbp ei (zX (Nat.add_le_add_left (Nat.le_of_lt l1) 1) (by decide))) (fun z z z z=>rfl) ⟨[],h.length,_,_,_,[.list []],rfl,rfl,Nat.le_refl _,zah _ _,by rw[length_nil,Nat.zero_mul];exact Bk.nil S Z,fun q=>absurd q (Nat.lt_irrefl _)⟩ (fun p a q ρ g hp I=>by
  obtain⟨rfl,hlt⟩:=range_at hp;have:p.length≤4:=zX (Nat.le_of_lt hlt) (by rw[Nat.add_comm];exact Nat.le_succ_of_le l1)
  exact zlj  hS hZ this this I)
 rw[length_range] at b h3;exact⟨B,r,k,nu,wd,_,⟨b.le (Nat.mul_le_mul (show 1+j≤3 by rw[Nat.add_comm];exact l1) hZ.2),h3 (Nat.add_pos_left Nat.one_pos j)⟩,⟨h1,h2,take_left' rfl⟩,e⟩
theorem zp0 (h1:h.length≤r) (h2:g[r]?=some (.list (V.lists L))):frz h.length g (.ref r)=some (.l (V.lists L)):=by
 show frzAt 4 h.length _ r=_;rw[zbK,zR (Nat.not_lt.2 h1),h2];show Option.map _ (V.mapRefs _ (V.lists L))=_;rw[zam _ _ (lists_plains L)];rfl
theorem zqu (s:List Int){f S Z:Nat}(hS:0 < S) (hZ:1≤Z∧Z≤8):∃ B,GB S Z B∧pcall h (run PP (n+2) true "_law_book" [V.ints s,.int f,.int S,.int Z,.int 3] h)=.ok (.l (V.lists B)) h:=by
 suffices hh:∃ B,GB S Z B∧∃ v g,g.take h.length=h∧frz h.length g v=some (.l (V.lists B))∧run PP (n+2) true "_law_book" [V.ints s,.int f,.int S,.int Z,.int 3] h=.ok v g by
  obtain⟨B,gb,v,g,e1,e2,e3⟩:=hh;refine⟨B,gb,?_⟩;rw[e3];show(if g.take h.length=h then R.opt (frz h.length g v) h else .bad)=_;rw[zT e1,e2];rfl
 have c0:evE true (run PP (n+1)) [V.ints s,.int f,.int S,.int Z,.int 3,.uu,.uu,.uu,.uu,.uu,.uu,.uu,.uu] (.call false "_law_cell_at" [.v 0,.v 1]) h=.ok (.int (cellAt s f)) h:=zb2 (zao (v:=V.ints s) rfl trivial) rfl (zg5 (n:=n) s f);generalize cellAt s f=c at c0;obtain⟨B,r,k,nu,wd,g,⟨b,hB⟩,a,e1⟩:=zjZ (n:=n) (h:=h) (s:=s) (f:=f) (c:=c) hS hZ;have ec:evE true (run PP (n+1)) (Eb s f S Z c (.ref r) k nu wd .uu .uu .uu) (.call false "_law_cell_at" [.v 0,.bin .add (.v 1) (.int 1)]) g=.ok (.int (cellAt s (f+1))) g:=zb2 (zao (v:=V.ints s) rfl trivial) (zb5 (x:=f) (y:=1) rfl rfl) (zg5 (n:=n) s (f+1))
 generalize cellAt s (f+1)=mo at ec;obtain⟨B1,g1,⟨sub,hB1⟩,a1,e2⟩:=zj0 (F:=run PP (n+1)) (s:=s) (f:=f) (c:=c) (mo:=mo) (k:=k) (nu:=nu) (wd:=wd) (ss:=zfq.body.drop 5) (by decide) b hB a
 obtain⟨eN,_⟩:=zdf (mo.fdiv 4 * 48271) 1000003 (by decide)
 generalize ((mo.fdiv 4 * 48271).fmod ((1000003:Nat):Int)).toNat=N at eN;have ew:evE true (run PP (n+1)) (Eb s f S Z c (.ref r) k nu wd (.int mo) .uu .uu) (.call false "_law_word" [.v 2,.v 3,.bin .mod (.bin .mul (.bin .fdiv (.v 10) (.int 4)) (.int 48271)) (.int 1000003)]) g1=.ok (.l (V.nats (word S Z N))) g1 :=
  zaV (zao (v:=.int S) rfl trivial) (zao (v:=.int Z) rfl trivial) ((zb4 (zgk (zbD (a:=.v 10) (b:=.int 4) (x:=mo) (y:=4) rfl rfl (by decide)) (b:=.int 48271) rfl (by decide)) (b:=.int 1000003) rfl (by decide)).trans (by rw[show(mo.fdiv 4 * 48271).fmod (1000003:Int)=N from eN])) (by rw[zel  n S Z N hS (zX hZ.2 (by decide)) g1,zaK (zaM _)])
 have wl:=zbE S Z N;have wd':=zh7 hS Z N;generalize word S Z N=W at ew wl wd';have hn1:B1.length≤24:=zX sub.length_le b.cnt;obtain⟨B2,g2,hB2,a2,e3⟩:=zlP (F:=run PP (n+1)) (s:=s) (f:=f) (S:=S) (Z:=Z) (c:=c) (mo:=mo) (k:=k) (nu:=nu) (W:=W) (ss:=zfq.body.drop 7) (zX hn1 (by decide)) a1
 have gb2:GB S Z B2:=by
  have m1:∀ w∈B2,w∈B∨w=W:=fun w hw=>by
   rcases hB2 with rfl|⟨rfl,_⟩
   ·exact .inl (sub.mem hw)
   ·exact(zP.1 hw).imp (fun q=>sub.mem q) zK.1
  refine⟨?_,?_,fun w hw=>?_,fun w hw=>?_,?_⟩
  ·rcases hB2 with rfl|⟨rfl,hW⟩
   ·exact b.nodup.sublist sub
   ·rw[nodup_append]
    exact⟨b.nodup.sublist sub,(by simp),fun x hx y hy e=>hW (by rw[zK.1 hy] at e;rw[←e];exact hx)⟩
  ·rcases hB2 with rfl|⟨rfl,_⟩
   ·exact hB1
   ·exact List.append_ne_nil_of_right_ne_nil _ (List.cons_ne_nil _ _)
  ·rcases m1 w hw with hw|rfl
   ·exact b.len w hw
   ·exact wl
  ·rcases m1 w hw with hw|rfl
   ·exact b.lt w hw
   ·exact wd'
  ·rcases hB2 with rfl|⟨rfl,_⟩
   ·exact Nat.le_succ_of_le hn1
   ·rw[zQ];exact Nat.succ_le_succ hn1
 have hl2:0 < B2.length:=List.length_pos_iff.2 gb2.ne;obtain⟨e4,l4⟩:=zdf (c.fdiv 3) B2.length hl2;generalize ((c.fdiv 3).fmod (B2.length:Int)).toNat=j at e4 l4;have h6:∀ (x:V),evE true (run PP (n+1)) (Eb s f S Z c (.ref r) k nu (.l (V.nats W)) (.int mo) x .uu) (.v 6) g2=.ok (.ref r) g2:=fun x=>rfl;have ej:evE true (run PP (n+1)) (Eb s f S Z c (.ref r) k nu (.l (V.nats W)) (.int mo) .uu .uu) (.bin .mod (.bin .fdiv (.v 5) (.v 4)) (.bf .len (.v 6))) g2=.ok (.int j) g2:=(zb4 (zbD (x:=c) (y:=3) rfl rfl (by decide)) ((zaO (h6 _) (zab a2.2.1)).trans (by rw[zag])) (Int.natCast_ne_zero.2 (Nat.ne_of_gt hl2))).trans (by rw[e4])
 have hv:∀ (lo hi:Option V) (A:List (List Nat)),zas g2 (.ref r) lo hi=some (.l (V.lists A))→R.opt (zas g2 (.ref r) lo hi) g2=.ok (.l (V.lists A)) g2:=fun z z z e=>by rw[e];rfl
 have ea:evE true (run PP (n+1)) (Eb s f S Z c (.ref r) k nu (.l (V.nats W)) (.int mo) (.int j) .uu) (.bin .add (.slice (.v 6) (some (.v 11)) .none) (.slice (.v 6) .none (some (.v 11)))) g2=.ok (.l (V.lists (B2.drop j++B2.take j))) g2:=by
  rw[zaH];refine zg9 (hv (some (.int j)) Option.none _ ?_) (hv Option.none (some (.int j)) _ ?_) rfl rfl ?_
  ·rw[zaY (zab a2.2.1)];unfold V.lists;rw[map_drop]
  ·rw[zcC (zab a2.2.1)];unfold V.lists;rw[map_take]
  ·rw[zag,zag,Nat.add_comm,← zQ,take_append_drop];exact zX gb2.cnt (by decide)
 have gb3:=gb2.of (B:=B2.drop j++B2.take j) (List.perm_append_comm.trans (by rw[take_append_drop]))
 have hg3:∀ L,(g2++[Cell.list (V.lists L)]).take h.length=h:=fun L=>by
  rw[List.take_append_of_le_length,a2.2.2];exact zX a2.1 (Nat.le_of_lt (List.getElem?_eq_some_iff.1 a2.2.1).1)
 have hr3:h.length≤g2.length:=zX a2.1 (Nat.le_of_lt (List.getElem?_eq_some_iff.1 a2.2.1).1);generalize B2.drop j++B2.take j=B3 at ea gb3;have go:∀ res,(exSs true (run PP (n+1)) (zfq.body.drop 9) (Eb s f S Z c (.ref g2.length) k nu (.l (V.nats W)) (.int mo) (.int j) .uu) (g2++[.list (V.lists B3)])).out=res→run PP (n+2) true "_law_book" [V.ints s,.int f,.int S,.int Z,.int 3] h=res:=fun res hres =>
  start zky rfl (ρ:=[V.ints s,.int f,.int S,.int Z,.int 3,.uu,.uu,.uu,.uu,.uu,.uu,.uu,.uu]) rfl (zai c0 rfl (zai (v:=.ref h.length) (h':=h++[.list []]) rfl (ρ':=Eb s f S Z c (.ref h.length) .uu .uu .uu .uu .uu .uu) rfl (zaB e1 (zai ec rfl ((congrArg RS.out e2).trans (zai ew rfl ((congrArg RS.out e3).trans (zai ej rfl (zai (zcu ea) rfl hres)))))))))
 have t:=zdJ (q:=true) (F:=run PP (n+1)) (ρ:=Eb s f S Z c (.ref g2.length) k nu (.l (V.nats W)) (.int mo) (.int j) .uu) (h:=g2++[.list (V.lists B3)]) (y:=1) (zb4 (zbD (a:=.v 10) (b:=.int 4) (x:=mo) (y:=4) rfl rfl (by decide)) (b:=.int 2) (y:=2) rfl (by decide)) (b:=.int 1) rfl
 generalize decide ((mo.fdiv 4).fmod 2=1)=x at t
 cases x with
 |false=>exact⟨B3,gb3,_,_,hg3 B3,zp0 hr3 (zah _ _),go _ (zbH t (zaA rfl))⟩
 |true =>
  refine⟨srt B3,gb3.of (za5 B3),.l (V.lists (srt B3)),_,hg3 B3,zau _ _ _ (lists_plains _),go _ (zej t (zai (v:=.l (V.lists (srt B3))) (h':=g2++[.list (V.lists B3)]) ?_ rfl (zaA rfl)))⟩;exact zaX (a:=.v 6) (v:=.ref g2.length) rfl (zbP (zab (zah _ _))) (zbm _ _ (Nat.lt_of_le_of_lt gb3.cnt (by decide)))
end
theorem zk4 (e:V.nats a=V.nats b):a=b:=by
 induction a generalizing b with
 |nil=>cases b with
  |nil=>rfl
  |cons _ _=>cases e
 |cons x a ih=>cases b with
  |nil=>cases e
  |cons y b =>
   rw[zbn,zbn] at e;obtain⟨e1,e2⟩:=List.cons.inj e;rw[ih e2,Int.natCast_inj.1 (V.int.inj e1)]
theorem zgt (e:V.tw a=V.tw b):a=b:=zk4 (V.tup.inj e)
theorem zbf (t:List Nat):keyOk (V.tw t)=true:=by
 show(asInts (V.nats t)).isSome=true;rw[zaR];rfl
theorem zjM (k k' v:V):∀ es:List (V × V),dfind k (dput k' v es)=if k=k' then some v else dfind k es:=by
 intro l__
 induction l__ with
 |nil=>exact rfl
 |cons p__ es ih =>
  obtain⟨k0,v0⟩:=p__;rw[zfj]
  by_cases e:k'=k0
  ·rw[zT e,zbj,zbj]
   subst e
   by_cases e2:k=k'
   ·rw[zT e2,zT e2]
   ·rw[zR e2,zR e2,zR e2]
  ·rw[zR e,zbj,zbj,ih]
   by_cases e2:k=k0
   ·subst e2
    rw[zT rfl,zR (fun q=>e q.symm),zT rfl]
   ·rw[zR e2,zR e2]
theorem zlG (k v:V):∀ es:List (V × V),(dput k v es).length≤es.length+1:=by
 intro l__
 induction l__ with
 |nil=>exact Nat.le_refl _
 |cons p__ es ih =>
  obtain⟨k',v'⟩:=p__;rw[zfj]
  by_cases e:k=k'
  ·rw[zT e];exact Nat.le_succ _
  ·rw[zR e,length_cons,length_cons];exact Nat.succ_le_succ (ih)
noncomputable def dk (f:List Nat→V) (K:List (List Nat)):List (V × V):=K.map fun j=>(V.tw j,f j)
theorem zat (f:List Nat→V) (t:List Nat):∀ K:List (List Nat),dfind (V.tw t) (dk f K)=if t∈K then some (f t) else Option.none:=by
 intro l__
 induction l__ with
 |nil=>exact rfl
 |cons j K ih =>
  show(if V.tw t=V.tw j then some (f j) else dfind (V.tw t) (dk f K))=_
  by_cases e:t=j
  ·subst e;rw[zT rfl,zT (zZ ..)]
  ·rw[zR fun q=>e (zgt q),ih]
   by_cases h:t∈K
   ·rw[zT h,zT (zY _ h)]
   ·rw[zR h,zR fun q=>(zN.1 q).elim e h]
theorem zfk (f:List Nat→V) (K:List (List Nat)) (t:List Nat):dk f (K++[t])=dk f K++[(V.tw t,f t)]:=map_append ..
theorem dput_new {f:List Nat→V}:∀ {K:List (List Nat)},t ∉ K→dput (V.tw t) v (dk f K)=dk f K++[(V.tw t,v)]:=by
 intro l__
 induction l__ with
 |nil=>exact fun z=>rfl
 |cons j K ih =>
  intro h;show(if V.tw t=V.tw j then _ else(V.tw j,f j)::dput (V.tw t) v (dk f K))=_;rw[zR fun q=>h (by rw[zgt q];exact zZ ..),ih fun q=>h (zY _ q)];rfl
theorem zb0 (f:List Nat→V) (K:List (List Nat)):(dk f K).length=K.length:=zJ ..
theorem zdq (f:List Nat→V) (K:List (List Nat)):(dk f K).map (·.1)=tups K:=by
 unfold dk tups;rw[map_map];rfl
section
variable {n:Nat}{h g:H}{F:Fn}{ρ:List V}
theorem zcV (ee:evE true F ρ e h=.ok v h) (eo:evE true F ρ o h=.ok (.ref r) h) (ei:evE true F ρ i h=.ok (V.tw t) h) (hr:h[r]?=some (.dict es)) (hl:es.length≤1000) :
  exSs true F (.setIdx o i e::ss) ρ h=exSs true F ss ρ (h.set r (.dict (dput (V.tw t) v es))):=by
 have e:seti h (.ref r) (V.tw t) v=some (h.set r (.dict (dput (V.tw t) v es))):=by
  unfold seti;dsimp only;rw[hr];dsimp only;rw[zbf,zW hl];rfl
 rw[ss_cons',zqX,ee,R.st_ok,eo,R.st_ok,ei,R.st_ok,e];rfl
theorem zjp (hr:h[r]?=some (.dict es)):pyIn h (V.tw t) (.ref r)=some (dfind (V.tw t) es).isSome:=by
 show(match h[r]? with|some (.dict es)=>if keyOk (V.tw t) then some (dfind (V.tw t) es).isSome else Option.none|_=>isIn h (V.tw t) (.ref r))=_
 rw[hr];show(if keyOk (V.tw t) then some (dfind (V.tw t) es).isSome else Option.none)=_;rw[zbf];rfl
theorem zrr {f:List Nat→V}(ea:evE true F ρ a h=.ok (V.tw t) h) (eb:evE true F ρ b h=.ok (.ref r) h) (hr:h[r]?=some (.dict (dk f K))):evE true F ρ (.cmp .isin a b) h=.ok (.bool (decide (t∈K))) h:=by
 rw[zbQ,ea,R.bind_ok,eb,R.bind_ok];show R.opt ((pyIn h (V.tw t) (.ref r)).map V.bool) h=_;rw[zjp hr,zat]
 by_cases e:t∈K
 ·rw[zT e,zW e];rfl
 ·rw[zR e,zU e];rfl
theorem ze1 {f:List Nat→V}(ea:evE true F ρ a h=.ok (V.tw t) h) (eb:evE true F ρ b h=.ok (.ref r) h) (hr:h[r]?=some (.dict (dk f K))):evE true F ρ (.cmp .notIn a b) h=.ok (.bool (!decide (t∈K))) h:=by
 rw[zbQ,ea,R.bind_ok,eb,R.bind_ok];show R.opt (((pyIn h (V.tw t) (.ref r)).map (!·)).map V.bool) h=_;rw[zjp hr,zat]
 by_cases e:t∈K
 ·rw[zT e,zW e];rfl
 ·rw[zR e,zU e];rfl
theorem zbB {a:PE}{v:V}{l:List Nat}(ea:evE true F ρ a h=.ok v h) (hl:IsL h v l):evE true F ρ (.bf .tuple a) h=.ok (V.tw l) h:=by
 rw[zlQ (f:=.tuple) rfl,ea,R.bind_ok]
 rcases zaa hl with rfl|⟨i,rfl,hc⟩
 ·rfl
 ·show R.opt (Option.map _ (match h[i]? with|some (.list vs)=>some vs|_=>Option.none)) h=_
  rw[hc];rfl
structure HB (h:H) (bv:V) (L:List (V × List Nat)):Prop where
 it:litems h bv=some (L.map (·.1))
 wd:∀ p∈L,IsL h p.1 p.2
theorem HB.app (b:HB h bv L) (k:H):HB (h++k) bv L:=⟨zcc b.it k,fun p hp=>(b.wd p hp).app k⟩
structure GW (S Z:Nat) (B:List (List Nat)):Prop where
 nodup:B.Nodup
 ne:B≠[]
 len:∀ w∈B,w.length=Z
 lt:∀ w∈B,∀ d∈w,d < S
 few:B.length≤1000
theorem zrO (ea:evE true F ρ a h=.ok (.bool x) h) (eb:evE true F ρ b h=.ok (.bool y) h) (ec:evE true F ρ c h=.ok (.bool z) h):evE true F ρ (.or [a,b,c]) h=.ok (.bool (x||(y||z))) h:=by
 rw[zkP,zpc,ea,R.bind_ok]
 cases x with
 |true=>rfl
 |false =>
  show evOr true F ρ [b,c] h=_;rw[zpc,eb,R.bind_ok]
  cases y with
  |true=>rfl
  |false=>exact ec
theorem zdS {a:PE}{x:Bool}(ea:evE true F ρ a h=.ok (.bool x) h):evE true F ρ (.not a) h=.ok (.bool (!x)) h:=by rw[zq1,ea];rfl
theorem zrP (ea:evE true F ρ a h=.ok (.bool x) h) (eb:evE true F ρ b h=.ok (.bool y) h):evE true F ρ (.or [a,b]) h=.ok (.bool (x||y)) h:=by
 rw[zkP,zpc,ea,R.bind_ok]
 cases x with
 |true=>rfl
 |false=>exact eb
theorem zmq (ea:evE true F ρ a h=.ok v h) (hl:litems h v=some vs):evE true F ρ (.isinst a [.list]) h=.ok (.bool true) h:=by
 rw[zph,ea,R.bind_ok,show isTys h v [.list]=some true by unfold isTys;rw[zjl hl]];rfl
theorem zeB {w:V}{vs:List V}(hl:litems h w=some vs):∃ t:Watch,∀ k,iterOf (h++k) w=some (vs,t)∧t.ok (h++k)=true:=by
 rcases zaa hl with rfl|⟨i,rfl,hc⟩
 ·exact⟨Option.none,fun k=>⟨rfl,rfl⟩⟩
 ·refine⟨some (i,.list vs),fun k=>?_⟩
  have e:(h++k)[i]?=some (.list vs):=by rw[List.getElem?_append_left (List.getElem?_eq_some_iff.1 hc).1];exact hc
  refine⟨?_,zW e⟩;show(match (h++k)[i]? with|some (.list vs)=>some (vs,some (i,Cell.list vs))|some (.dict es)=>some (es.map Prod.fst,some (i,.dict es))|none=>Option.none)=_
  rw[e]
structure Fit (S Z:Nat):Prop where
 s1:1≤S
 s9:S≤9
 z1:1≤Z
 z8:Z≤8
 few:S ^ Z≤256
theorem zmm {a b c:PE}{x y z:Nat}(ea:evE true F ρ a h=.ok (.int x) h) (eb:evE true F ρ b h=.ok (.int y) h) (ec:evE true F ρ c h=.ok (.int z) h) (h1:x≤y) (h2:y≤z):evE true F ρ (.cmp2 .le .le a b c) h=.ok (.bool true) h:=by
 rw[znt,ea,R.bind_ok,eb,R.bind_ok,cmp_le_int,zW (Int.ofNat_le.2 h1)];show(evE true F ρ c h).bind _=_;rw[ec,R.bind_ok,cmp_le_int,zW (Int.ofNat_le.2 h2)];rfl
theorem zgn {a lo hi:Nat}(h1:lo≤a) (h2:a≤hi):pcall h (run PP (n+1) true "is_among" [.int a,.int lo,.int hi] h)=.ok (.bool true) h:=by
 rw[start zhi rfl (ρ:=[.int a,.int lo,.int hi]) rfl (zaA (zmm (F:=run PP n) (ρ:=[.int a,.int lo,.int hi]) (h:=h) (a:=.v 1) (b:=.v 0) (c:=.v 2) rfl rfl rfl h1 h2)),pcall_bool]
theorem zqs {S Z:Nat}(f:Fit S Z):pcall h (run PP (n+3) true "need_both" [.int S,.int Z] h)=.ok .none h:=by
 have e1:pcall h (run PP (n+2) true "need_signs" [.int S] h)=.ok .none h:=by
  rw[start zeR rfl (ρ:=[.int S]) rfl (zbH (h':=h) (r:=.ok .none h) (zdS (zaV (b:=.int 1) (c:=.glob "MOST_SIGNS" 9) (zao (v:=.int S) rfl trivial) rfl rfl (zgn (n:=n) (lo:=1) (hi:=9) f.s1 f.s9))) rfl),pcall_none]
 have e2:pcall h (run PP (n+2) true "need_size" [.int Z] h)=.ok .none h:=by
  rw[start zfD rfl (ρ:=[.int Z]) rfl (zbH (h':=h) (r:=.ok .none h) (zdS (zaV (b:=.int 1) (c:=.glob "MOST_SIZE" 8) (zao (v:=.int Z) rfl trivial) rfl rfl (zgn (n:=n) (lo:=1) (hi:=8) f.z1 f.z8))) rfl),pcall_none]
 have e3:evE true (run PP (n+2)) [.int S,.int Z] (.cmp .gt (.call false "how_many" [.v 0,.v 1]) (.glob "MOST_WORDS" 256)) h=.ok (.bool false) h:=by
  rw[zbQ,zb2 (a:=.v 0) (b:=.v 1) (v:=.int S) (w:=.int Z) rfl rfl (by rw[zga  (n+1) S (Nat.lt_of_le_of_lt f.s9 (by decide)) Z (zX f.z8 (by decide)),pcall_int]),R.bind_ok]
  show R.opt ((pyCmp .gt h (.int ((S:Int) ^ Z)) (.int 256)).map V.bool) h=_;rw[cmp_gt_int,← Int.natCast_pow,zU (p:=(256:Int) < ((S ^ Z:Nat):Int)) (Int.not_lt.2 (Int.ofNat_le.2 f.few))];rfl
 rw[start zfE rfl (ρ:=[.int S,.int Z]) rfl (zcw (zb3 (a:=.v 0) (zao (v:=.int S) rfl trivial) e1) (zcw (zb3 (a:=.v 1) (zao (v:=.int Z) rfl trivial) e2) (zbH (r:=.ok .none h) e3 rfl))),pcall_none]
theorem zoO {S:Nat}{w:V}{l:List Nat}(hl:IsL h w l) (h1:1≤l.length) (h8:l.length≤8) (hd:∀ d∈l,d < S):pcall h (run PP (n+2) true "is_word" [.int S,w] h)=.ok (.bool true) h:=by
 have v1:evE true (run PP (n+1)) [.int S,w,.uu] (.v 1) h=.ok w h:=zao rfl hl.val;have ln:=zaO v1 hl;rw[nats_length] at ln;obtain⟨t,ht,hto⟩:=zn1 hl;have hit:evIt true (run PP (n+1)) [.int S,w,.uu] (.seq (.v 1)) h=.ok (l.map V.nat,t) h:=by rw[zqJ,v1,R.bind_ok,ht];rfl
 have ec:=zbL (F:=run PP (n+1)) (ρ:=[.int S,w,.uu]) (elt:=.call false "is_among" [.v 2,.int 0,.bin .sub (.v 0) (.int 1)]) (x:=2) hit hto (fun u=>.bool true) (fun d hm=>zaV (v:=.int d) (w:=.int 0) (x:=.int ((S - 1:Nat):Int)) rfl rfl ((zfn (x:=S) (y:=1) rfl rfl).trans (by rw[Int.ofNat_sub (Nat.lt_of_le_of_lt (Nat.zero_le _) (hd d hm))];rfl)) (zgn (n:=n) (lo:=0) (Nat.zero_le _) (Nat.le_sub_one_of_lt (hd d hm)))) (za1 (by rw[zJ];exact zX h8 (by decide)))
 rw[start zir rfl (ρ:=[.int S,w,.uu]) rfl (zbH (zrP (zdS (zmq v1 hl)) (zdS (zmm (x:=1) rfl ln (z:=8) rfl h1 h8))) (zaA (v:=.bool true) ?_)),pcall_bool];rw[zlQ (f:=.all) rfl,ec,R.bind_ok,bf_all,asBools_map l fun u=>true];show R.ok (V.bool ((l.map fun u=>true).all id)) h=_;rw[all_map];exact congrArg (fun b=>R.ok (V.bool b) h) (List.all_eq_true.2 fun u u=>rfl)
noncomputable def nbBody:List PS:=[
  .ifs (.or [.not (.call false "is_word" [.v 0,.v 4]),.cmp .ne (.bf .len (.v 4)) (.v 1),.cmp .isin (.bf .tuple (.v 4)) (.v 3)]) [
   .raise "BadBook"] [],
  .setIdx (.v 3) (.bf .tuple (.v 4)) (.bool true)]
theorem znK (z1:1≤Z) (z8:Z≤8) (hw:IsL (h++[.dict (dk (fun z=>.bool true) X)]) v l) (hl:l.length=Z) (lt:∀ d∈l,d < S) (new:l ∉ X) (few:X.length≤1000) :
  exSs true (run PP (n+3)) nbBody [.int S,.int Z,bv,.ref h.length,v] (h++[.dict (dk (fun z=>.bool true) X)])=.ok .next [.int S,.int Z,bv,.ref h.length,v] (h++[.dict (dk (fun z=>.bool true) (X++[l]))]):=by
 have hr:=zah h (.dict (dk (fun z=>V.bool true) X));rw[zfk];generalize hd:dk (fun z=>V.bool true) X=es at *
 have v4:evE true (run PP (n+3)) [.int S,.int Z,bv,.ref h.length,v] (.v 4) (h++[.dict es])=.ok v (h++[.dict es]):=zao rfl hw.val;have c1:evE true (run PP (n+3)) [.int S,.int Z,bv,.ref h.length,v] (.call false "is_word" [.v 0,.v 4]) (h++[.dict es])=.ok (.bool true) (h++[.dict es]):=by
  rw[zjL (v:=.int S) (w:=v) rfl trivial rfl hw.val,zoO (n:=n+1) hw (by rw[hl];exact z1) (by rw[hl];exact z8) lt]
 have c2:=zol (F:=run PP (n+3)) (ρ:=[.int S,.int Z,bv,.ref h.length,v]) (a:=.bf .len (.v 4)) (b:=.v 1) (w:=.int Z) (t:=true) (zaO v4 hw) rfl (by rw[pyEq_int,nats_length,hl,zW rfl])
 have c3:=zrr (F:=run PP (n+3)) (ρ:=[.int S,.int Z,bv,.ref h.length,v]) (a:=.bf .tuple (.v 4)) (b:=.v 3) (zbB v4 hw) rfl (hr.trans (by rw[←hd]))
 rw[zU new] at c3;refine(zaW (zrO (zdS c1) c2 c3)).trans ?_;show exSs true (run PP (n+3)) [.setIdx (.v 3) (.bf .tuple (.v 4)) (.bool true)] _ _=_;rw[zcV (o:=.v 3) rfl rfl (zbB v4 hw) hr (by rw[←hd,zb0];exact few),← hd,dput_new new,za6];rfl
theorem zk1 {S Z:Nat}{bv:V}{L:List (V × List Nat)}(hf:Fit S Z) (b:HB h bv L) (w:GW S Z (L.map (·.2))):run PP (n+4) true "need_book" [.int S,.int Z,bv] h=.ok .none (h++[.dict (dk (fun z=>.bool true) (L.map (·.2)))]):=by
 have hv:=(zbC b.it).val;refine start zfF rfl (ρ:=[.int S,.int Z,bv,.uu,.uu]) rfl ?_;refine zcw (h':=h) ?_ (zbH (h':=h) ((zrP (zdS (zmq (a:=.v 2) (zao (v:=bv) rfl hv) b.it)) (zdJ (y:=0) (zaO (a:=.v 2) (zao (v:=bv) rfl hv) b.it) (b:=.int 0) rfl)).trans ?_) (zai (v:=.ref h.length) (h':=h++[.dict (dk (fun z=>.bool true) [])]) rfl (ρ':=[.int S,.int Z,bv,.ref h.length,.uu]) rfl ?_))
 ·rw[zjL (v:=.int S) (w:=.int Z) rfl trivial rfl trivial,zqs  hf]
 ·have:¬ (((L.map (·.1)).length:Nat):Int)=0:=fun e=>w.ne (by
   rw[zJ] at e;rw[eq_nil_of_length_eq_zero (Int.natCast_eq_zero.1 e)];rfl)
  rw[zU this];rfl
 ·obtain⟨t,ht⟩:=zeB b.it
  refine zi1 (l:=L) (c:=(·.1)) (t:=t) (fun z w=>[.int S,.int Z,bv,.ref h.length,w]) (fun p=>h++[.dict (dk (fun z=>.bool true) (p.map (·.2)))]) .uu (h':=h++[.dict (dk (fun z=>.bool true) [])]) ?_ (fun p=>(ht _).2) rfl rfl ?_ fun w=>rfl
  ·rw[i_seq,zao (v:=bv) rfl hv,R.bind_ok,(ht _).1];rfl
  ·intro p a q x hp
   have ha:a∈L:=by rw[hp];exact mem_append_right _ (zZ ..)
   have hm:a.2∈L.map (·.2):=yQ.2 ⟨a,ha,rfl⟩;have new:a.2 ∉ p.map (·.2):=fun e=>by
    have:=w.nodup;rw[hp,map_append,nodup_append] at this;exact this.2.2 _ e _ (zZ ..) rfl
   have hlen:p.length≤1000:=by
    have:=w.few;rw[hp,zJ,zQ] at this;exact zX (Nat.le_add_right ..) this
   rw[map_append];exact znK  hf.z1 hf.z8 ((b.wd a ha).app _) (w.len _ hm) (w.lt _ hm) new (by rw[zJ];exact hlen)
theorem zmf (hf:Fit S Z) (b:HB h bv L) (w:GW S Z (L.map (·.2))):pcall h (run PP (n+4) true "need_book" [.int S,.int Z,bv] h)=.ok .none h:=by
 rw[zk1  hf b w,zc9 _ _ rfl]
end
def Ext (h g:H):Prop:=g.take h.length=h
theorem Ext.refl (h:H):Ext h h:=take_length
theorem Ext.app (e:Ext h g) (k:H):Ext h (g++k):=by
 unfold Ext at *
 rw[List.take_append_of_le_length,e];rw[←e,length_take];exact Nat.min_le_right ..
theorem Ext.set (e:Ext h g) (hr:h.length≤r) (c:Cell):Ext h (g.set r c):=by
 unfold Ext at *
 rw[List.take_set_of_le hr,e]
theorem Ext.len (e:Ext h g):h.length≤g.length:=by
 unfold Ext at e;rw[←e,length_take];exact Nat.min_le_right ..
theorem Ext.eq (e:Ext h g):h++g.drop h.length=g:=by
 unfold Ext at e
 conv=>lhs;lhs;rw[←e]
 exact take_append_drop ..
theorem Ext.L (e:Ext h g) (i:IsL h v l):IsL g v l:=by rw[←e.eq];exact i.app _
theorem Ext.B {h g:H}(e:Ext h g){v:V}{L:List (V × List Nat)}(i:HB h v L):HB g v L:=by rw[←e.eq];exact i.app _
theorem Ext.W (e:Ext h g) (i:∀ k,iterOf (h++k) v=some (vs,t)∧t.ok (h++k)=true):iterOf g v=some (vs,t)∧t.ok g=true:=by rw[←e.eq];exact i _
theorem Ext.tr (e1:Ext h g) (e2:Ext g k):Ext h k:=by
 unfold Ext at *
 have:=congrArg (List.take h.length) e2;rw[List.take_take,Nat.min_eq_left (Ext.len e1),e1] at this;exact this
noncomputable def touch (K:List (List Nat)) (j:List Nat):List (List Nat):=if j∈K then K else K++[j]
theorem zaN:x∈touch K j↔x∈K∨x=j:=by
 unfold touch
 by_cases h:j∈K
 ·rw[zT h];exact⟨.inl,fun q=>q.elim id fun e=>e ▸ h⟩
 ·rw[zR h,zP,zK]
theorem zbN (K:List (List Nat)) (j:List Nat):(touch K j).length≤K.length+1:=by
 unfold touch
 by_cases h:j∈K
 ·rw[zT h];exact Nat.le_succ _
 ·rw[zR h,zQ];exact Nat.le_refl _
structure Ways (b:Nat) (g:H) (d:Nat) (K:List (List Nat)) (r:List Nat→Nat) (T:List Nat→List V):Prop where
 dc:g[d]?=some (.dict (dk (fun j=>.ref (r j)) K))
 ls:∀ j∈K,g[r j]?=some (.list (T j))
 nd:K.Nodup
 inj:∀ i∈K,∀ j∈K,r i=r j→i=j
 lo:∀ j∈K,b≤r j
section
variable {n b d:Nat}{h g:H}{F:Fn}{ρ:List V}{K:List (List Nat)}{r:List Nat→Nat}{T:List Nat→List V}
theorem zec (eo:evE true F ρ o g=.ok (.ref d) g) (ek:evE true F ρ k g=.ok (V.tw j) g) (hd:g[d]?=some (.dict es)) (ee:evE true F ρ e g=.ok v h) (hd':h[d]?=some (.dict es')) (hr:(match dfind (V.tw j) es' with
  |some v=>R.ok v h
  |Option.none=>if es'.length≤1000 then .ok v (h.set d (.dict (es'++[(V.tw j,v)]))) else .bad)=res):evE true F ρ (.setdef o k e) g=res:=by
 have hc:dcell g (.ref d)=true:=by
  show(match g[d]? with|some (.dict _)=>true|_=>false)=true
  rw[hd]
 rw[zq2,eo,R.bind_ok,zT hc,ek,R.bind_ok,ee,R.bind_ok];show(match h[d]? with|some (.dict es)=>if keyOk (V.tw j) then _ else R.bad|_=>.bad)=_
 rw[hd'];show(if keyOk (V.tw j) then _ else R.bad)=_;rw[zbf,zT rfl];exact hr
theorem Ways.touch (W:Ways b g d K r T) (j:List Nat) (hb:b≤g.length) (hK:K.length≤1000) (hT:j ∉ K→T j=[]) (hbd:b≤d):∃ g' r',Ways b g' d (L11.touch K j) r' T∧b≤g'.length∧(∀ h,h.length≤b→Ext h g→Ext h g') ∧
  ∀ (F:Fn) (ρ:List V) (o k:PE),evE true F ρ o g=.ok (.ref d) g→evE true F ρ k g=.ok (V.tw j) g→evE true F ρ (.setdef o k (.own (.list []))) g=.ok (.ref (r' j)) g':=by
 have up:∀ i,i < g.length→(g++[Cell.list []])[i]?=g[i]?:=fun i hi=>List.getElem?_append_left hi;have lt:∀ {i:Nat}{c:Cell},g[i]?=some c→i < g.length:=fun e=>(List.getElem?_eq_some_iff.1 e).1;have hd1:(g++[Cell.list []])[d]?=some (.dict (dk (fun j=>.ref (r j)) K)):=(up _ (lt W.dc)).trans W.dc
 by_cases hj:j∈K
 ·refine⟨g++[.list []],r,?_,?_,fun h hh e=>e.app _,fun F ρ o k eo ek=>?_⟩
  ·unfold L11.touch;rw[zT hj]
   exact⟨hd1,fun i hi=>(up _ (lt (W.ls i hi))).trans (W.ls i hi),W.nd,W.inj,W.lo⟩
  ·rw[zQ];exact zX hb (Nat.le_add_right ..)
  ·refine zec eo ek W.dc (h:=g++[.list []]) (v:=.ref g.length) rfl hd1 ?_
   rw[zat,zT hj]
 ·refine⟨(g++[Cell.list []]).set d (.dict (dk (fun j=>.ref (r j)) K++[(V.tw j,.ref g.length)])),fun i=>if i=j then g.length else r i,?_,?_,fun h hh e=>(e.app _).set (zX hh hbd) _,fun F ρ o k eo ek=>?_⟩
  ·unfold L11.touch;rw[zR hj]
   have ne:∀ {i:Nat}{vs:List V},(g++[Cell.list []])[i]?=some (.list vs)→d≠i:=fun e q=>by subst q;rw[hd1] at e;cases e
   have rk:∀ i∈K,(if i=j then g.length else r i)=r i:=fun i hi=>zR fun(e:i=j)=>hj (e ▸ hi);refine⟨?_,fun i hi=>?_,?_,fun x hx y hy e=>?_,fun i hi=>?_⟩
   ·rw[List.getElem?_set_self (by rw[zQ];exact Nat.lt_add_right _ (lt W.dc)),zfk,zT rfl]
    refine congrArg some (congrArg Cell.dict (congrArg (·++_) (map_congr_left fun i hi=>?_)));dsimp only;rw[rk i hi]
   ·rcases zP.1 hi with hi|hi
    ·have e:=(up _ (lt (W.ls i hi))).trans (W.ls i hi)
     rw[rk i hi,List.getElem?_set_ne (ne e),e]
    ·rw[zK] at hi;subst hi
     have e:(g++[Cell.list []])[g.length]?=some (.list []):=zah _ _;rw[zT rfl,List.getElem?_set_ne (ne e),e,hT hj]
   ·rw[nodup_append]
    exact⟨W.nd,by simp,fun x hx y hy e=>hj (by rw[zK.1 hy] at e;rw[←e];exact hx)⟩
   ·have old:∀ i∈K,r i≠g.length:=fun i hi=>Nat.ne_of_lt (lt (W.ls i hi))
    rcases zP.1 hx with kx|kx<;>rcases zP.1 hy with ky|ky
    ·rw[rk x kx,rk y ky] at e;exact W.inj x kx y ky e
    ·rw[rk x kx,zT (zK.1 ky)] at e;exact absurd e (old x kx)
    ·rw[rk y ky,zT (zK.1 kx)] at e;exact absurd e.symm (old y ky)
    ·rw[zK.1 kx,zK.1 ky]
   ·rcases zP.1 hi with hi|hi
    ·rw[rk i hi];exact W.lo i hi
    ·rw[zK.1 hi,zT rfl];exact hb
  ·rw[length_set,zQ];exact zX hb (Nat.le_add_right ..)
  ·refine zec eo ek W.dc (h:=g++[.list []]) (v:=.ref g.length) rfl hd1 ?_
   rw[zat,zR hj];dsimp only;rw[zT rfl,zb0];exact zT hK
theorem Ways.push (W:Ways b g d K r T) (hj:j∈K) (l:List V):Ways b (g.set (r j) (.list l)) d K r (fun i=>if i=j then l else T i):=by
 have lt:r j < g.length:=(List.getElem?_eq_some_iff.1 (W.ls j hj)).1;refine⟨?_,fun i hi=>?_,W.nd,W.inj,W.lo⟩
 ·rw[List.getElem?_set_ne (fun e=>by have:=W.ls j hj;rw[e,W.dc] at this;cases this)];exact W.dc
 ·by_cases e:i=j
  ·subst e;rw[zT rfl,List.getElem?_set_self lt]
  ·rw[zR e,List.getElem?_set_ne fun q=>e (W.inj i hi j hj q.symm)];exact W.ls i hi
end
noncomputable def tails (B:List (List Nat)) (j:List Nat):List (List Nat):=(B.filter fun w=>decide (pre w=j)).map suf
def isJ (B:List (List Nat)) (j:List Nat):Prop:=∃ w∈B,j=pre w∨j=suf w
noncomputable def tV (B:List (List Nat)) (j:List Nat):List V:=tups (tails B j)
theorem zij (B:List (List Nat)) (w:List Nat):(fun j=>if j=pre w then tups (tails B (pre w)++[suf w]) else tV B j)=tV (B++[w]):=by
 funext j
 unfold tV tails;rw[filter_append,map_append]
 by_cases e:j=pre w
 ·rw[zT e,filter_cons_of_pos (p:=fun w=>decide (pre w=j)) (zW e.symm),e];rfl
 ·rw[zR e,filter_cons_of_neg (p:=fun w=>decide (pre w=j)) (by rw[zU fun q=>e q.symm];exact Bool.false_ne_true)];exact congrArg tups (append_nil _).symm
theorem zeO (h:∀ w∈B,pre w≠j):tails B j=[]:=by
 unfold tails;rw[List.filter_eq_nil_iff.2];rfl
 intro w hw e;exact h w hw (zV e)
theorem zn3:isJ (B++[w]) j↔(isJ B j∨j=pre w)∨j=suf w:=by
 constructor
 ·rintro⟨x,hx,e⟩
  rcases zP.1 hx with hx|hx
  ·exact .inl (.inl ⟨x,hx,e⟩)
  ·rw[zK.1 hx] at e
   exact e.elim (fun e=>.inl (.inr e)) .inr
 ·rintro((⟨x,hx,e⟩|e)|e)
  ·exact⟨x,mem_append_left _ hx,e⟩
  ·exact⟨w,mem_append_right _ (zZ ..),.inl e⟩
  ·exact⟨w,mem_append_right _ (zZ ..),.inr e⟩
theorem zop (n:Nat):cut n (-1)=n - 1:=by
 unfold cut;rw[zT (by decide)]
 cases n with
 |zero=>rfl
 |succ m=>rw[zdd];rfl
theorem zna {α:Type}(vs:List α):slc vs Option.none (some (-1))=vs.take (vs.length - 1):=by
 show(vs.take (cut vs.length (-1))).drop 0=_;rw[zop,drop_zero]
section
variable {n b d:Nat}{h g:H}{F:Fn}{ρ:List V}{K:List (List Nat)}{r:List Nat→Nat}
theorem zc1 (ea:evE true F ρ a h=.ok v h) (hl:IsL h v l):evE true F ρ (.slice a .none (some (.neg 1))) h=.ok (.l (V.nats (pre l))) h:=by
 rw[zfQ,ea,R.bind_ok,zoK,R.bind_ok,zoJ];show R.opt (zas h v Option.none (some (.int (-1)))) h=_;rw[zeb hl _ _ Option.none (some (-1)) rfl rfl,zna,nats_length,ze2];rfl
theorem zeV (ea:evE true F ρ a h=.ok v h) (hl:IsL h v l):evE true F ρ (.slice a (some (.int 1)) .none) h=.ok (.l (V.nats (suf l))) h:=ziz (p:=1) ea hl rfl
theorem zbz (eo:evE true F ρ o g=.ok (.ref c) g') (hc:g'[c]?=some (.list vs)) (ea:evE true F ρ a g'=.ok y g') (hl:vs.length≤1000):evE true F ρ (.append o a) g=.ok .none (g'.set c (.list (vs++[y]))):=by
 rw[znq,eo,R.bind_ok,zT (zbV hc),ea,R.bind_ok,za0 hc _ .none (vs++[y]) rfl (by rw[zQ];exact zX (Nat.succ_le_succ hl) (by decide))]
inductive InvO (h:H) (bv:V) (p:List (V × List Nat)):List V→H→Prop
 |mk (K:List (List Nat)) (r:List Nat→Nat) (w:V) (g:H) (x:Ext h g) (W:Ways h.length g h.length K r (tV (p.map (·.2)))) (hK:∀ j,j∈K↔isJ (p.map (·.2)) j) (hl:K.length≤2 * p.length):InvO h bv p [bv,.ref h.length,w] g
theorem zfY (hp:p.length≤400) (ha:IsL h a.1 a.2) (I:InvO h bv p ρ g):∃ ρ' g',exSs true F [
  .expr (.append (.setdef (.v 1) (.bf .tuple (.slice (.v 2) .none (some (.neg 1)))) (.own (.list []))) (.bf .tuple (.slice (.v 2) (some (.int 1)) .none))),
  .expr (.setdef (.v 1) (.bf .tuple (.slice (.v 2) (some (.int 1)) .none)) (.own (.list [])))] (ρ.set 2 a.1) g=.ok .next ρ' g'∧InvO h bv (p++[a]) ρ' g':=by
 obtain⟨K,r,w,g,e,W,hK,hl⟩:=I;have pe:∀ g',Ext h g'→evE true F [bv,.ref h.length,a.1] (.bf .tuple (.slice (.v 2) .none (some (.neg 1)))) g'=.ok (V.tw (pre a.2)) g':=fun g' e'=>zbB (zc1 (zao (v:=a.1) rfl (e'.L ha).val) (e'.L ha)) (IsL.lst _ _);have se:∀ g',Ext h g'→evE true F [bv,.ref h.length,a.1] (.bf .tuple (.slice (.v 2) (some (.int 1)) .none)) g'=.ok (V.tw (suf a.2)) g':=fun g' e'=>zbB (zeV (zao (v:=a.1) rfl (e'.L ha).val) (e'.L ha)) (IsL.lst _ _)
 obtain⟨g1,r1,W1,b1,x1,v1⟩:=W.touch (pre a.2) e.len (zX hl (zX (Nat.mul_le_mul_left 2 hp) (by decide))) (fun q=>congrArg tups (zeO fun w hw e=>q ((hK _).2 ⟨w,hw,.inl e.symm⟩))) (Nat.le_refl _)
 have e1:=x1 h (Nat.le_refl _) e;have mj:pre a.2∈touch K (pre a.2):=zaN.2 (.inr rfl);have W2:=W1.push mj (tups (tails (p.map (·.2)) (pre a.2)++[suf a.2]));rw[zij] at W2;have hle:(tups (tails (p.map (·.2)) (pre a.2))).length≤1000:=by
  unfold tups tails;rw[zJ,zJ];refine zX (length_filter_le ..) ?_;rw[zJ];exact zX hp (by decide)
 have s1:=zbz (v1 F [bv,.ref h.length,a.1] (.v 1) _ rfl (pe g e)) (show g1[r1 (pre a.2)]?=some (.list (tups (tails (p.map (·.2)) (pre a.2)))) from W1.ls _ mj) (se g1 e1) hle;have e2:=e1.set (W1.lo _ mj) (.list (tups (tails (p.map (·.2)) (pre a.2))++[V.tw (suf a.2)]));have tt:tups (tails (p.map (·.2)) (pre a.2))++[V.tw (suf a.2)]=tups (tails (p.map (·.2)) (pre a.2)++[suf a.2]):=by unfold tups;rw[map_append];rfl
 rw[tt] at s1 e2;generalize g1.set (r1 (pre a.2)) (.list (tups (tails (p.map (·.2)) (pre a.2)++[suf a.2])))=g2 at s1 e2 W2;have k2:=zbN K (pre a.2);have mm:∀ j,j∈touch (touch K (pre a.2)) (suf a.2)↔isJ ((p++[a]).map (·.2)) j:=fun j=>by
  rw[map_append,List.map_singleton,zn3,zaN,zaN,hK]
 obtain⟨g3,r3,W3,b3,x3,v3⟩:=W2.touch (suf a.2) e2.len (zX k2 (zX (Nat.succ_le_succ (zX hl (Nat.mul_le_mul_left 2 hp))) (by decide))) (fun q=>congrArg tups (zeO fun w hw e=>q (zaN.2 (by
  rcases zP.1 hw with hw|hw
  ·exact .inl ((hK _).2 ⟨w,hw,.inl e.symm⟩)
  ·rw[zK.1 hw] at e;exact .inr e.symm)))) (Nat.le_refl _)
 have k3:=zbN (touch K (pre a.2)) (suf a.2);refine⟨_,g3,?_,_,r3,a.1,_,x3 h (Nat.le_refl _) e2,?_,mm,?_⟩
 ·show exSs true F _ [bv,.ref h.length,a.1] g=_
  rw[zaD s1,zaD (v3 F [bv,.ref h.length,a.1] (.v 1) _ rfl (se g2 e2))];rfl
 ·rw[map_append];exact W3
 ·rw[zQ];exact zX k3 (Nat.succ_le_succ (zX k2 (Nat.succ_le_succ hl)))
theorem zhC (hb:HB h bv L) (hL:L.length≤400):∃ g K r,run PP (n+1) true "onward" [bv] h=.ok (.ref h.length) g∧Ext h g∧Ways h.length g h.length K r (tV (L.map (·.2)))∧∀ j,j∈K↔isJ (L.map (·.2)) j:=by
 have hv:=(zbC hb.it).val;obtain⟨t,ht⟩:=zeB hb.it;have e0:Ext h (h++[Cell.dict []]):=(Ext.refl h).app _;obtain⟨ρ',g',e,⟨K,r,w,g',x,W,hK,_⟩⟩:=zaE (F:=run PP n) (h:=h++[.dict []]) (x:=2) (it:=.seq (.v 0)) (body:=[
  .expr (.append (.setdef (.v 1) (.bf .tuple (.slice (.v 2) .none (some (.neg 1)))) (.own (.list []))) (.bf .tuple (.slice (.v 2) (some (.int 1)) .none))),
  .expr (.setdef (.v 1) (.bf .tuple (.slice (.v 2) (some (.int 1)) .none)) (.own (.list [])))]) (ρ:=[bv,.ref h.length,.uu]) (t:=t) (l:=L) (c:=(·.1)) (h':=h++[.dict []]) (InvO h bv) (by rw[i_seq,zao (v:=bv) rfl hv,R.bind_ok,(ht _).1];rfl) (fun p ρ g I=>by
   obtain⟨_,_,_,_,e,_⟩:=I;exact(e.W ht).2) ⟨[],fun z=>0,.uu,_,e0,⟨zah _ _,fun z h=>(nomatch h),.nil,fun z h=>(nomatch h),fun z h=>(nomatch h)⟩,fun j=>⟨fun h=>(nomatch h),fun⟨_,h,_⟩=>(nomatch h)⟩,Nat.zero_le _⟩ (fun p a q ρ g hp I=>by
   have ha:a∈L:=by rw[hp];exact mem_append_right _ (zZ ..)
   refine zfY ?_ (hb.wd a ha) I;rw[hp,zQ] at hL;exact zX (Nat.le_add_right ..) hL)
 exact⟨g',K,r,start zkv rfl (ρ:=[bv,.uu,.uu]) rfl (zai (v:=.ref h.length) (h':=h++[.dict []]) rfl (ρ':=[bv,.ref h.length,.uu]) rfl (zaB e (zaA rfl))),x,W,hK⟩
end
inductive Rch (B:List (List Nat)) (s:List Nat):List Nat→Prop
 |base:Rch B s s
 |step {w:List Nat}:w∈B→Rch B s (pre w)→Rch B s (suf w)
theorem zeP:t∈tails B j↔∃ w∈B,pre w=j∧suf w=t:=by
 unfold tails;rw[yQ];exact⟨fun⟨w,hw,e⟩=>⟨w,(List.mem_filter.1 hw).1,zV (List.mem_filter.1 hw).2,e⟩,fun⟨w,hw,e1,e2⟩=>⟨w,List.mem_filter.2 ⟨hw,zW e1⟩,e2⟩⟩
theorem Rch.isJ (hs:isJ B s) (r:Rch B s x):isJ B x:=by
 cases r with
 |base=>exact hs
 |step hw _=>exact⟨_,hw,.inr rfl⟩
structure Cm (B:List (List Nat)) (s:List Nat) (D Wt M:List (List Nat)):Prop where
 nd:M.Nodup
 nd2:(D++Wt).Nodup
 mem:∀ x,x∈M↔x∈D∨x∈Wt
 rch:∀ x∈M,Rch B s x
theorem Cm.one:Cm B s [] [s] [s]:=⟨yZ.2 ⟨fun h=>(nomatch h),.nil⟩,yZ.2 ⟨fun h=>(nomatch h),.nil⟩,fun x=>⟨.inr,fun h=>h.resolve_left fun h=>(nomatch h)⟩,fun x hx=>by rw[zK.1 hx];exact .base⟩
theorem Cm.add (c:Cm B s D Wt M) (ht:t ∉ M) (hr:Rch B s t):Cm B s D (Wt++[t]) (M++[t]):=by
 refine⟨?_,?_,fun x=>?_,fun x hx=>?_⟩
 ·rw[nodup_append]
  exact⟨c.nd,by simp,fun x hx y hy e=>ht (by rw[zK.1 hy] at e;rw[←e];exact hx)⟩
 ·rw[←yJ,nodup_append]
  exact⟨c.nd2,by simp,fun x hx y hy e=>ht (by rw[zK.1 hy] at e;rw[←e];exact(c.mem x).2 (zP.1 hx))⟩
 ·rw[zP,zP,c.mem,or_assoc]
 ·rcases zP.1 hx with hx|hx
  ·exact c.rch x hx
  ·rw[zK.1 hx];exact hr
theorem Cm.take (c:Cm B s D (Wt++[t]) M):Cm B s (D++[t]) Wt M:=by
 have p:(D++(Wt++[t])).Perm (D++[t]++Wt):=by
  rw[yJ];exact(List.perm_append_comm).append_left D
 refine⟨c.nd,p.nodup_iff.1 c.nd2,fun x=>?_,c.rch⟩;rw[c.mem,zP,zP,or_assoc,or_comm (a:=x∈Wt)]
section
variable {n b d:Nat}{h g:H}{F:Fn}{ρ:List V}{K:List (List Nat)}{r:List Nat→Nat}{B:List (List Nat)}{s:List Nat}
theorem zgC (Inv:Nat→List V→H→Prop) (Post:List V→H→Prop) (m:Nat) (hm:m < turns) (h0:Inv m ρ h)
  (hs:∀ k ρ g,Inv k ρ g→(evE true F ρ t g=.ok (.bool false) g∧Post ρ g)∨(evE true F ρ t g=.ok (.bool true) g∧∃ k' ρ' g',k'+1=k∧exSs true F body ρ g=.ok .next ρ' g'∧Inv k' ρ' g')) :
  ∃ ρ' g',exS true F (.while t body) ρ h=.ok .next ρ' g'∧Post ρ' g':=by
 rw[zpb,zR (by decide)]
 have key:∀ N k,k < N→∀ ρ g,Inv k ρ g→∃ ρ' g',whileL (fun ρ h=>evE true F ρ t h) (fun ρ h=>exSs true F body ρ h) N ρ g=.ok .next ρ' g'∧Post ρ' g':=by
  intro N
  induction N with
  |zero=>intro k hk;exact absurd hk (Nat.not_lt_zero _)
  |succ N ih =>
   intro k hk ρ g I
   rcases hs k ρ g I with⟨e,p⟩|⟨e,k',ρ1,g1,hk',e1,I1⟩
   ·refine⟨ρ,g,?_,p⟩
    show((evE true F ρ t g).st ρ _)=_;rw[e];rfl
   ·obtain⟨ρ2,g2,e2,p⟩:=ih k' (Nat.lt_of_succ_lt_succ (show k'+1 < N+1 by rw[hk'];exact hk)) ρ1 g1 I1
    refine⟨ρ2,g2,?_,p⟩;show((evE true F ρ t g).st ρ _)=_;rw[e];show(exSs true F body ρ g).then _=_;rw[e1,RS.then_next,e2]
 exact key turns m hm ρ h h0
noncomputable def tt:List Nat→V:=fun z=>.bool true
noncomputable def HC (g:H) (M Wt:List (List Nat)):H:=g++[.dict (dk tt M),.list (tups Wt)]
theorem zoM (M Wt:List (List Nat)):(HC g M Wt)[g.length]?=some (.dict (dk tt M)):=by
 unfold HC;rw[List.getElem?_append_right (Nat.le_refl _),Nat.sub_self];rfl
theorem zoL (M Wt:List (List Nat)):(HC g M Wt)[g.length+1]?=some (.list (tups Wt)):=by
 unfold HC;rw[List.getElem?_append_right (Nat.le_add_right ..),Nat.add_sub_cancel_left];rfl
theorem zqE (M M' Wt:List (List Nat)):(HC g M Wt).set g.length (.dict (dk tt M'))=HC g M' Wt:=by
 unfold HC;rw[set_append_right _ _ (Nat.le_refl _),Nat.sub_self];rfl
theorem zl0 (M Wt Wt':List (List Nat)):(HC g M Wt).set (g.length+1) (.list (tups Wt'))=HC g M Wt':=by
 unfold HC;rw[set_append_right _ _ (Nat.le_add_right ..),Nat.add_sub_cancel_left];rfl
theorem zqL {M Wt:List (List Nat)}{i:Nat}{c:Cell}(e:g[i]?=some c):(HC g M Wt)[i]?=some c:=by
 unfold HC;rw[List.getElem?_append_left (List.getElem?_eq_some_iff.1 e).1];exact e
theorem zcB (A:List (List Nat)) (t:List Nat):tups A++[V.tw t]=tups (A++[t]):=by unfold tups;rw[map_append];rfl
theorem tups_len (A:List (List Nat)):(tups A).length=A.length:=zJ ..
noncomputable def ctBody:List PS:=[
   .ifs (.cmp .notIn (.v 4) (.v 2)) [
    .setIdx (.v 2) (.v 4) (.bool true),
    .expr (.append (.v 3) (.v 4))] []]
noncomputable abbrev Ec (d g:Nat) (s w:V):List V:=[.ref d,s,.ref g,.ref (g+1),w]
theorem zqm (c:Cm B s D Wt M) (ht:Rch B s t) (hM:M.length≤1000) (hW:Wt.length≤1000):∃ Wt' M',Cm B s D Wt' M'∧(∀ x∈M,x∈M')∧t∈M'∧exSs true F ctBody (Ec d g.length sv (V.tw t)) (HC g M Wt)=.ok .next (Ec d g.length sv (V.tw t)) (HC g M' Wt'):=by
 have e:=ze1 (F:=F) (ρ:=Ec d g.length sv (V.tw t)) (a:=.v 4) (b:=.v 2) (t:=t) rfl rfl (zoM (g:=g) M Wt)
 by_cases h:t∈M
 ·rw[zW h] at e
  exact⟨Wt,M,c,fun x hx=>hx,h,(zaW e).trans rfl⟩
 ·rw[zU h] at e
  refine⟨Wt++[t],M++[t],c.add h ht,fun x hx=>mem_append_left _ hx,mem_append_right _ (zZ ..),?_⟩;unfold ctBody;rw[zbk e];show exSs true F [.setIdx (.v 2) (.v 4) (.bool true),.expr (.append (.v 3) (.v 4))] _ _=_;rw[zcV (o:=.v 2) (i:=.v 4) (t:=t) (v:=.bool true) rfl rfl rfl (zoM M Wt) (by rw[zb0];exact hM),dput_new h,show dk tt M++[(V.tw t,V.bool true)]=dk tt (M++[t]) from(zfk tt M t).symm,zqE,zaD (zbz (o:=.v 3) (a:=.v 4) (y:=V.tw t) rfl (zoL (M++[t]) Wt) rfl (by rw[tups_len];exact hW)),zcB,zl0];rfl
end
section
variable {n b d:Nat}{h g:H}{F:Fn}{ρ:List V}{K:List (List Nat)}{r:List Nat→Nat}{B:List (List Nat)}{s:List Nat}
theorem Cm.inK (c:Cm B s D Wt M) (hK:∀ j,j∈K↔isJ B j) (hs:s∈K):(∀ x∈M,x∈K)∧M.length≤K.length∧(D++Wt).length≤K.length:=by
 have h1:∀ x∈M,x∈K:=fun x hx=>(hK x).2 ((c.rch x hx).isJ ((hK s).1 hs));exact⟨h1,within c.nd h1,within c.nd2 fun x hx=>h1 x ((c.mem x).2 (zP.1 hx))⟩
theorem zmt (ea:evE true F ρ a h=.ok v h) (hl:litems h v=some vs):evE true F ρ (.cmp .gt (.bf .len a) (.int 0)) h=.ok (.bool (decide (0 < vs.length))) h:=by
 rw[zbQ,zaO ea hl,R.bind_ok];show R.opt ((pyCmp .gt h (.int vs.length) (.int 0)).map V.bool) h=_;rw[cmp_gt_int];exact congrArg (fun x=>R.ok (V.bool x) h) (decide_eq_decide.2 Int.natCast_pos)
theorem zgI (eo:evE true F ρ o h=.ok (.ref c) h) (hc:h[c]?=some (.list (vs++[y]))) (hl:vs.length≤1000):evE true F ρ (.pop o) h=.ok y (h.set c (.list vs)):=by
 rw[qE_34,eo,R.bind_ok,za0 hc _ y vs _ (zX hl (by decide))]
 rw[List.getLast?_concat,List.dropLast_concat];rfl
theorem zbY (hd:h[i]?=some (.dict es)) (hv:dfind (V.tw t) es=some v):pyIdx h (.ref i) (V.tw t)=some v:=by
 unfold pyIdx;dsimp only;rw[hd];dsimp only;rw[zbf,zT rfl,hv]
theorem zdm (e:h[i]?=some (.list vs)):iterOf h (.ref i)=some (vs,some (i,.list vs)):=by
 show(match h[i]? with|some (.list vs)=>some (vs,some (i,Cell.list vs))|some (.dict es)=>some (es.map Prod.fst,some (i,.dict es))|none=>Option.none)=_
 rw[e]
inductive InvC (B:List (List Nat)) (s:List Nat) (g:H) (d N:Nat) (k:Nat):List V→H→Prop
 |mk (D Wt M:List (List Nat)) (w:V) (c:Cm B s D Wt M) (hc:∀ x∈D,∀ y∈tails B x,y∈M) (hm:s∈M) (hk:D.length+k=N):InvC B s g d N k (Ec d g.length (V.tw s) w) (HC g M Wt)
inductive PostC (B:List (List Nat)) (s:List Nat) (g:H) (d:Nat):List V→H→Prop
 |mk (M:List (List Nat)) (w:V) (hn:M.Nodup) (hr:∀ x,x∈M↔Rch B s x):PostC B s g d (Ec d g.length (V.tw s) w) (HC g M [])
inductive InvT (B:List (List Nat)) (s:List Nat) (g:H) (d:Nat) (D M q:List (List Nat)):List V→H→Prop
 |mk (Wt' M':List (List Nat)) (w:V) (c:Cm B s D Wt' M') (hM:∀ x∈M,x∈M') (hq:∀ y∈q,y∈M'):InvT B s g d D M q (Ec d g.length (V.tw s) w) (HC g M' Wt')
theorem zlJ (W:Ways b g d K r (tV B)) (hK:∀ j,j∈K↔isJ B j) (hs:s∈K) (hn:K.length≤1000){D Wt M:List (List Nat)}{t:List Nat}{w:V}(c:Cm B s D (Wt++[t]) M) (hc:∀ x∈D,∀ y∈tails B x,y∈M) (hm:s∈M){k:Nat}(hk:D.length+k=K.length):∃ k' ρ' g',k'+1=k∧exSs true F [.for1 4 (.seq (.idx (.v 0) (.pop (.v 3)))) ctBody] (Ec d g.length (V.tw s) w) (HC g M (Wt++[t]))=.ok .next ρ' g'∧InvC B s g d K.length k' ρ' g':=by
 have c1:=c.take;have htM:t∈M:=(c.mem t).2 (.inr (mem_append_right _ (zZ ..)));have htK:t∈K:=(c.inK hK hs).1 t htM;have ls:=W.ls t htK;have pe:evE true F (Ec d g.length (V.tw s) w) (.pop (.v 3)) (HC g M (Wt++[t]))=.ok (V.tw t) (HC g M Wt):=by
  rw[zgI (o:=.v 3) (vs:=tups Wt) (y:=V.tw t) rfl (by rw[zcB];exact zoL _ _) (by
   rw[tups_len];have:=(c.inK hK hs).2.2;rw[zQ,zQ] at this;exact zX (zX (zX (Nat.le_succ _) (Nat.le_add_left ..)) this) hn),zl0]
 have ie:evIt true F (Ec d g.length (V.tw s) w) (.seq (.idx (.v 0) (.pop (.v 3)))) (HC g M (Wt++[t]))=.ok ((tails B t).map V.tw,some (r t,.list (tups (tails B t)))) (HC g M Wt):=by
  rw[i_seq,zee,show evE true F (Ec d g.length (V.tw s) w) (.v 0) (HC g M (Wt++[t]))=.ok (.ref d) _ from rfl,R.bind_ok,pe,R.bind_ok,zbY (v:=.ref (r t)) (zqL W.dc) (by rw[zat,zT htK]),R.opt_some,R.bind_ok,zdm (zqL ls)];rfl
 obtain⟨ρ',g',e,⟨Wt',M',w',c',hM',hq⟩⟩:=zaE (F:=F) (x:=4) (body:=ctBody) (InvT B s g d (D++[t]) M) ie (fun q ρ g' I=>by
   obtain⟨Wt',M',w',_⟩:=I;exact zW (zqL ls)) ⟨Wt,M,w,c1,fun x hx=>hx,fun z h=>nomatch h⟩ (fun q a q' ρ g' hp I=>by
   obtain⟨Wt',M',w',c',hM',hq⟩:=I;have ht:Rch B s a:=by
    obtain⟨w,hw,e1,e2⟩:=zeP.1 (show a∈tails B t by rw[hp];exact mem_append_right _ (zZ ..))
    rw[←e2];refine .step hw ?_;rw[e1];exact c.rch t htM
   have hl:=(c'.inK hK hs).2;rw[zQ] at hl;obtain⟨Wt2,M2,c2,h2,h3,e2⟩:=zqm (F:=F) (d:=d) (g:=g) (sv:=V.tw s) c' ht (zX hl.1 hn) (zX (zX (Nat.le_add_left ..) hl.2) hn);refine⟨_,_,e2,Wt2,M2,_,c2,fun x hx=>h2 x (hM' x hx),fun y hy=>?_⟩
   rcases zP.1 hy with hy|hy
   ·exact h2 y (hq y hy)
   ·rw[zK.1 hy];exact h3)
 have hl:=(c'.inK hK hs).2.2;rw[zQ,zQ] at hl;have hk1:1≤k:=Nat.le_of_add_le_add_left (a:=D.length) (by rw[hk];exact zX (Nat.le_add_right ..) hl)
 refine⟨k - 1,_,_,Nat.sub_add_cancel hk1,by rw[ss_cons',e];rfl,D++[t],Wt',M',w',c',fun x hx y hy=>?_,hM' s hm,by
  rw[zQ];show D.length+1+(k - 1)=_;rw[Nat.add_assoc,Nat.add_comm 1,Nat.sub_add_cancel hk1];exact hk⟩
 rcases zP.1 hx with hx|hx
 ·exact hM' y (hc x hx y hy)
 ·rw[zK.1 hx] at hy;exact hq y hy
theorem zg0 (e:ρ[i]?=some (V.tw s)):evE true F ρ (.dict1 (.v i) (.bool true)) g=.ok (.ref g.length) (g++[.dict (dk tt [s])]):=by
 have:setiD (g++[.dict []]) g.length (V.tw s) (.bool true)=some (g++[.dict (dk tt [s])]):=by
  unfold setiD;rw[zah];dsimp only;rw[zbf,za6];rfl
 rw[zpd,zao e trivial,R.bind_ok];show(match setiD (g++[.dict []]) g.length (V.tw s) (.bool true) with|some h'=>R.ok (V.ref g.length) h'|Option.none=>R.bad)=_
 rw[this]
theorem zlL (W:Ways b g d K r (tV B)) (hK:∀ j,j∈K↔isJ B j) (hs:s∈K) (hn:K.length≤1000):∃ M,M.Nodup∧(∀ x,x∈M↔Rch B s x)∧run PP (n+1) true "come_to" [.ref d,V.tw s] g=.ok (.ref g.length) (HC g M []):=by
 obtain⟨ρ',g',e,⟨M,w,hM,hr⟩⟩:=zgC (F:=run PP n) (t:=.cmp .gt (.bf .len (.v 3)) (.int 0)) (body:=[.for1 4 (.seq (.idx (.v 0) (.pop (.v 3)))) ctBody]) (ρ:=Ec d g.length (V.tw s) .uu) (h:=HC g [s] [s]) (InvC B s g d K.length) (PostC B s g d) K.length (zgM (zX hn (by decide)))
  ⟨[],[s],[s],.uu,Cm.one,fun z h=>(nomatch h),zZ ..,Nat.zero_add _⟩ (fun k ρ g' I=>by
   obtain⟨D,Wt,M,w,c,hc,hm,hk⟩:=I;have t:=zmt (F:=run PP n) (ρ:=Ec d g.length (V.tw s) w) (a:=.v 3) (v:=.ref (g.length+1)) rfl (zab (zoL M Wt));rw[tups_len] at t
   rcases List.eq_nil_or_concat Wt with rfl|⟨Wt0,t0,rfl⟩
   ·refine .inl ⟨t,M,w,c.nd,fun x=>⟨c.rch x,fun hx=>?_⟩⟩
    induction hx with
    |base=>exact hm
    |step hw _ ih =>
     refine hc _ (((c.mem _).1 ih).resolve_right fun h=>nomatch h) _ (zeP.2 ⟨_,hw,rfl,rfl⟩)
   ·rw[List.concat_eq_append] at *
    rw[zW (by rw[zQ];exact Nat.succ_pos _)] at t
    exact .inr ⟨t,zlJ W hK hs hn c hc hm hk⟩)
 refine⟨M,hM,hr,start zis rfl (ρ:=[.ref d,V.tw s,.uu,.uu,.uu]) rfl (zai (v:=.ref g.length) (h':=g++[.dict (dk tt [s])]) ?_ (ρ':=[.ref d,V.tw s,.ref g.length,.uu,.uu]) rfl (zai (v:=.ref (g.length+1)) (h':=HC g [s] [s]) ?_ (ρ':=Ec d g.length (V.tw s) .uu) rfl (zaB e (zaA rfl))))⟩
 ·exact zg0 rfl
 ·have e2:evE true (run PP n) [.ref d,V.tw s,.ref g.length,.uu,.uu] (.list [.v 1]) (g++[.dict (dk tt [s])])=.ok (.l (tups [s])) (g++[.dict (dk tt [s])]):=rfl
  rw[zcu e2];unfold HC;rw[zQ,yJ];rfl
end
noncomputable def outs (B:List (List Nat)) (j:List Nat):Nat:=(B.filter fun w=>decide (pre w=j)).length
noncomputable def ins (B:List (List Nat)) (j:List Nat):Nat:=(B.filter fun w=>decide (suf w=j)).length
theorem zii (B:List (List Nat)) (j:List Nat):(tails B j).length=outs B j:=zJ ..
theorem zdb {B:List (List Nat)}(w:List Nat):∀ {K:List (List Nat)},K.Nodup→(K.flatMap fun k=>B.filter fun w=>decide (pre w=k)).count w=if pre w∈K then B.count w else 0:=by
 intro l__
 induction l__ with
 |nil=>exact fun z=>rfl
 |cons k K ih =>
  intro hn;rw[yZ] at hn;rw[List.flatMap_cons,List.count_append,ih hn.2]
  by_cases e:pre w=k
  ·have h1:(B.filter fun w=>decide (pre w=k)).count w=B.count w:=List.count_filter (zW e)
   rw[h1,zR (by rw[e];exact hn.1),zT (by rw[e];exact zZ ..)];rfl
  ·have h1:(B.filter fun w=>decide (pre w=k)).count w=0:=List.count_eq_zero.2 fun h=>e (zV (List.mem_filter.1 h).2)
   rw[h1,Nat.zero_add]
   by_cases h2:pre w∈K
   ·rw[zT h2,zT (zY _ h2)]
   ·rw[zR h2,zR fun q=>(zN.1 q).elim e h2]
theorem zjR {B K:List (List Nat)}(hn:K.Nodup) (hK:∀ w∈B,pre w∈K) (j:List Nat):(K.flatMap (tails B)).count j=ins B j:=by
 have p:(K.flatMap fun k=>B.filter fun w=>decide (pre w=k)).Perm B:=List.perm_iff_count.2 fun w=>by
  rw[zdb w hn]
  by_cases h:pre w∈K
  ·rw[zT h]
  ·rw[zR h];exact(List.count_eq_zero.2 fun q=>h (hK w q)).symm
 have e:K.flatMap (tails B)=(K.flatMap fun k=>B.filter fun w=>decide (pre w=k)).map suf:=by
  rw[List.map_flatMap];rfl
 rw[e,(p.map suf).count_eq,List.count_eq_countP,List.countP_map,List.countP_eq_length_filter];exact congrArg List.length (List.filter_congr fun w z=>Bool.eq_iff_iff.2 ⟨fun q=>zW (eq_of_beq q),fun q=>beq_iff_eq.2 (zV q)⟩)
structure Cnt (es:List (V × V)) (Tl:List (List Nat)):Prop where
 get:∀ j,(dfind (V.tw j) es).getD (.int 0)=.int (Tl.count j)
 len:es.length≤Tl.length
theorem Cnt.put (c:Cnt es Tl) (j:List Nat):Cnt (dput (V.tw j) (.int ((Tl.count j:Nat)+1)) es) (Tl++[j]):=by
 refine⟨fun i=>?_,zX (zlG ..) (by rw[zQ];exact Nat.succ_le_succ c.len)⟩
 rw[zjM,List.count_append]
 by_cases e:i=j
 ·subst e
  rw[zT rfl,List.count_singleton_self];rfl
 ·rw[zR fun q=>e (zgt q),c.get,List.count_singleton,zR (by simpa using fun q=>e q.symm)];rfl
section
variable {n b d:Nat}{h g:H}{F:Fn}{ρ:List V}{K:List (List Nat)}{r:List Nat→Nat}{B:List (List Nat)}{s:List Nat}
theorem zjq (eo:evE true F ρ o h=.ok (.ref i) h) (ek:evE true F ρ k h=.ok (V.tw t) h) (hd:h[i]?=some (.dict es)):evE true F ρ (.get o k (.int 0)) h=.ok ((dfind (V.tw t) es).getD (.int 0)) h:=by
 have hc:dcell h (.ref i)=true:=by
  show(match h[i]? with|some (.dict _)=>true|_=>false)=true
  rw[hd]
 rw[zpe,eo,R.bind_ok,zT hc,ek,R.bind_ok];show(match h[i]? with|some (.dict es)=>if keyOk (V.tw t) then R.ok ((dfind (V.tw t) es).getD (.int 0)) h else R.bad|_=>.bad)=_
 rw[hd];show(if keyOk (V.tw t) then _ else R.bad)=_;rw[zbf,zT rfl]
theorem zdl (e:h[i]?=some (.dict es)):iterOf h (.ref i)=some (es.map (·.1),some (i,.dict es)):=by
 show(match h[i]? with|some (.list vs)=>some (vs,some (i,Cell.list vs))|some (.dict es)=>some (es.map Prod.fst,some (i,.dict es))|none=>Option.none)=_
 rw[e]
theorem zaJ {c:Cell}{i:Nat}{k:H}(e:g[i]?=some c):(g++k)[i]?=some c:=by rw[List.getElem?_append_left (List.getElem?_eq_some_iff.1 e).1];exact e
noncomputable abbrev Ea (bv:V) (d e:Nat) (j o f x:V):List V:=[bv,.ref d,.ref e,j,o,f,x]
noncomputable def enIn:List PS:=[.setIdx (.v 2) (.v 4) (.bin .add (.get (.v 2) (.v 4) (.int 0)) (.int 1))]
noncomputable def enBody:List PS:=[.for1 4 (.seq (.idx (.v 1) (.v 3))) enIn]
inductive InvE (g:H) (bv:V) (d:Nat) (f x:V) (Tl:List (List Nat)):List V→H→Prop
 |mk (es:List (V × V)) (j o:V) (c:Cnt es Tl):InvE g bv d f x Tl (Ea bv d g.length j o f x) (g++[.dict es])
inductive InvD (g:H) (bv:V) (d:Nat) (j f x:V) (Tl:List (List Nat)):List V→H→Prop
 |mk (es:List (V × V)) (o:V) (c:Cnt es Tl):InvD g bv d j f x Tl (Ea bv d g.length j o f x) (g++[.dict es])
theorem zlz (W:Ways b g d K r (tV B)){j:List Nat}(hj:j∈K){bv o f x:V}{es:List (V × V)}{Tl:List (List Nat)}(c:Cnt es Tl) (hT:Tl.length+(tails B j).length≤1000):∃ es' o',Cnt es' (Tl++tails B j) ∧
  exSs true F enBody (Ea bv d g.length (V.tw j) o f x) (g++[.dict es])=.ok .next (Ea bv d g.length (V.tw j) o' f x) (g++[.dict es']):=by
 have ie:evIt true F (Ea bv d g.length (V.tw j) o f x) (.seq (.idx (.v 1) (.v 3))) (g++[.dict es])=.ok ((tails B j).map V.tw,some (r j,.list (tups (tails B j)))) (g++[.dict es]):=by
  rw[i_seq,zee,show evE true F (Ea bv d g.length (V.tw j) o f x) (.v 1) (g++[.dict es])=.ok (.ref d) _ from rfl,R.bind_ok,show evE true F (Ea bv d g.length (V.tw j) o f x) (.v 3) (g++[.dict es])=.ok (V.tw j) _ from rfl,R.bind_ok,zbY (v:=.ref (r j)) (zaJ W.dc) (by rw[zat,zT hj]),R.opt_some,R.bind_ok,zdm (zaJ (W.ls j hj))];rfl
 obtain⟨ρ',g',e,⟨es',o',c'⟩⟩:=zaE (F:=F) (x:=4) (body:=enIn) (fun q=>InvD g bv d (V.tw j) f x (Tl++q)) ie (fun q ρ g' I=>by
   obtain⟨es',o',_⟩:=I;exact zW (zaJ (W.ls j hj))) ⟨es,o,by rw[append_nil];exact c⟩ (fun q a q' ρ g' hp I=>by
   obtain⟨es',o',c'⟩:=I;have ge:=zb5 (zjq (F:=F) (ρ:=Ea bv d g.length (V.tw j) (V.tw a) f x) (o:=.v 2) (k:=.v 4) (t:=a) rfl rfl (zah g (.dict es')) |>.trans (by rw[c'.get])) (b:=.int 1) (y:=1) rfl
   have hl:es'.length≤1000:=by
    refine zX c'.len (zX ?_ hT);rw[hp,zQ,zQ];exact Nat.add_le_add_left (Nat.le_add_right ..) _
   refine⟨_,_,?_,_,V.tw a,by rw[←yJ];exact c'.put a⟩
   unfold enIn;show exSs true F _ (Ea bv d g.length (V.tw j) (V.tw a) f x) _=_;rw[zcV (o:=.v 2) (i:=.v 4) (t:=a) ge rfl rfl (zah _ _) hl,za6];rfl)
 exact⟨es',o',c',by unfold enBody;rw[ss_cons',e];rfl⟩
theorem zly (W:Ways b g d K r (tV B)) (hK:∀ w∈B,pre w∈K) (hl:(K.flatMap (tails B)).length≤1000){bv f x:V}:∃ es j o,(∀ j,(dfind (V.tw j) es).getD (.int 0)=.int (ins B j)) ∧
  exS true F (.for1 3 (.seq (.v 1)) enBody) (Ea bv d g.length .uu .uu f x) (g++[.dict []])=.ok .next (Ea bv d g.length j o f x) (g++[.dict es]):=by
 have ie:evIt true F (Ea bv d g.length .uu .uu f x) (.seq (.v 1)) (g++[.dict []])=.ok (K.map V.tw,some (d,.dict (dk (fun j=>.ref (r j)) K))) (g++[.dict []]):=by
  rw[i_seq,show evE true F (Ea bv d g.length .uu .uu f x) (.v 1) (g++[.dict []])=.ok (.ref d) _ from rfl,R.bind_ok,zdl (zaJ W.dc),zdq];rfl
 obtain⟨ρ',g',e,⟨es,j,o,c⟩⟩:=zaE (F:=F) (x:=3) (body:=enBody) (fun q=>InvE g bv d f x (q.flatMap (tails B))) ie (fun q ρ g' I=>by
   obtain⟨es',j,o',_⟩:=I;exact zW (zaJ W.dc)) ⟨[],_,_,fun j=>rfl,Nat.le_refl _⟩ (fun q a q' ρ g' hp I=>by
   obtain⟨es',j,o',c'⟩:=I;obtain⟨es2,o2,c2,e2⟩:=zlz (F:=F) (bv:=bv) (o:=o') (f:=f) (x:=x) W (j:=a) (by rw[hp];exact mem_append_right _ (zZ ..)) c' (by
    refine zX ?_ hl;rw[hp,List.flatMap_append,zQ,List.flatMap_cons,zQ];exact Nat.add_le_add_left (Nat.le_add_right ..) _)
   refine⟨_,_,e2,es2,V.tw a,o2,?_⟩;rw[List.flatMap_append,List.flatMap_cons,List.flatMap_nil,append_nil];exact c2)
 exact⟨es,j,o,fun i=>by rw[c.get,zjR W.nd hK],e⟩
end
noncomputable def ddp (l:List (List Nat)) (k:Nat):List (List Nat):=((List.range k).filter fun i=>!decide (l.getD i []∈l.take i)).map fun i=>l.getD i []
theorem zlH (l:List (List Nat)) (k:Nat):ddp l (k+1)=if l.getD k []∈l.take k then ddp l k else ddp l k++[l.getD k []]:=by
 unfold ddp;rw[List.range_succ,filter_append,map_append]
 by_cases e:l.getD k []∈l.take k
 ·rw[zT e,filter_cons_of_neg (by rw[zW e];decide)];exact append_nil _
 ·rw[zR e,filter_cons_of_pos (by rw[zU e];rfl)];rfl
theorem zcL (l:List (List Nat)):∀ k,k≤l.length→(ddp l k).Nodup∧∀ x,x∈ddp l k↔x∈l.take k:=by
 intro l__
 induction l__ with
 |zero=>exact fun u=>⟨.nil,fun x=>⟨fun h=>(not_mem_nil h).elim,fun h=>(not_mem_nil h).elim⟩⟩
 |succ k ih =>
  intro hk;obtain⟨h1,h2⟩:=ih (Nat.le_of_succ_le hk);have e:l.take (k+1)=l.take k++[l.getD k []]:=by
   rw[List.take_succ_eq_append_getElem hk,List.getD_eq_getElem?_getD,zM hk];rfl
  rw[zlH,e];generalize l.getD k []=y at *
  by_cases hy:y∈l.take k
  ·rw[zT hy]
   refine⟨h1,fun x=>?_⟩;rw[h2,zP,zK];exact⟨.inl,fun q=>q.elim id fun e=>e ▸ hy⟩
  ·rw[zR hy]
   refine⟨?_,fun x=>by rw[zP,zP,h2]⟩
   rw[nodup_append];exact⟨h1,by simp,fun x hx z hz e=>hy (by rw[zK.1 hz] at e;rw[←e];exact(h2 x).1 hx)⟩
noncomputable def ends2 (B:List (List Nat)):List (List Nat):=B.map pre++B.map suf
noncomputable def JS (B:List (List Nat)):List (List Nat):=srt (ddp (ends2 B) (ends2 B).length)
theorem zgQ (B:List (List Nat)):(ddp (ends2 B) (ends2 B).length).Nodup:=(zcL _ _ (Nat.le_refl _)).1
theorem zmp:x∈ddp (ends2 B) (ends2 B).length↔isJ B x:=by
 rw[(zcL _ _ (Nat.le_refl _)).2,take_length];unfold ends2 isJ;rw[zP,yQ,yQ]
 constructor
 ·rintro(⟨w,hw,e⟩|⟨w,hw,e⟩)
  ·exact⟨w,hw,.inl e.symm⟩
  ·exact⟨w,hw,.inr e.symm⟩
 ·rintro⟨w,hw,e|e⟩
  ·exact .inl ⟨w,hw,e.symm⟩
  ·exact .inr ⟨w,hw,e.symm⟩
theorem zd2:x∈JS B↔isJ B x:=zca.trans zmp
theorem zrC (hn:K.Nodup) (hK:∀ j,j∈K↔isJ B j):srt K=JS B:=zkA hn (zgQ B) fun x=>(hK x).trans zmp.symm
theorem zlZ (B:List (List Nat)):(JS B).Nodup:=(za5 _).nodup_iff.2 (zgQ B)
structure JB (B:List (List Nat)):Prop where
 few:∀ K:List (List Nat),K.Nodup→(∀ j∈K,isJ B j)→K.length < 64
 flat:∀ K:List (List Nat),K.Nodup→(∀ j∈K,isJ B j)→K.length < 2∨∀ t∈K,t≠[]
 ne:B≠[]
 cnt:B.length < 64
theorem znv (w:List Nat):(pre w).length=w.length - 1:=by unfold pre;rw[length_take,Nat.min_eq_left (Nat.sub_le ..)]
theorem zfI (w:List Nat):(suf w).length=w.length - 1:=by unfold suf;rw[length_drop]
theorem zjm (hz:∀ w∈B,w.length=Z) (hj:isJ B j):j.length=Z - 1:=by
 obtain⟨w,hw,rfl|rfl⟩:=hj
 ·rw[znv,hz w hw]
 ·rw[zfI,hz w hw]
def Least (B:List (List Nat)) (m:List Nat):Prop:=m∈B∧∀ t∈B,wlt t m=false
theorem Least.eq (ha:Least B a) (hb:Least B b):a=b:=zeh.tot _ _ (hb.2 a ha.1) (ha.2 b hb.1)
theorem zgx (hB:B≠[]):∃ m rest,srt B=m::rest∧Least B m:=by
 have hu:=ziv B;have hp:=za5 B
 cases hs:srt B with
 |nil=>rw[hs] at hp;exact absurd (List.nil_perm.1 hp) hB
 |cons m rest =>
  rw[hs] at hu hp;refine⟨m,rest,rfl,hp.mem_iff.1 (zZ ..),fun t ht=>?_⟩
  rcases zN.1 (hp.mem_iff.2 ht) with rfl|h
  ·exact zeh.irr _
  ·exact(List.pairwise_cons.1 hu).1 t h
inductive Lack (b:Nat) (B:List (List Nat)) (v:V) (g:H):Prop
 |uneven (c:Nat) (j:List Nat) (p q:List (List Nat)) (e:v=.tup [.str "uneven",.ref c]) (lo:b≤c) (at':g[c]?=some (.list (V.nats j))) (js:JS B=p++j::q) (ev:∀ i∈p,ins B i=outs B i) (ne:ins B j≠outs B j)
 |apart (c:Nat) (m:List Nat) (M:List (List Nat)) (e:v=.tup [.str "apart",.ref c]) (lo:b≤c) (at':g[c]?=some (.list (V.lists (srt M)))) (ev:∀ i∈JS B,ins B i=outs B i) (le:Least B m) (nd:M.Nodup) (mem:∀ x,x∈M↔Rch B (pre m) x) (lt:M.length < (JS B).length)
 |fine (m:List Nat) (M:List (List Nat)) (e:v=.none) (ev:∀ i∈JS B,ins B i=outs B i) (le:Least B m) (nd:M.Nodup) (mem:∀ x,x∈M↔Rch B (pre m) x) (ge:¬ M.length < (JS B).length)
theorem ziQ {B K:List (List Nat)}(hn:K.Nodup) (hK:∀ w∈B,pre w∈K):(K.flatMap (tails B)).length=B.length:=by
 have p:(K.flatMap fun k=>B.filter fun w=>decide (pre w=k)).Perm B:=List.perm_iff_count.2 fun w=>by
  rw[zdb w hn]
  by_cases h:pre w∈K
  ·rw[zT h]
  ·rw[zR h];exact(List.count_eq_zero.2 fun q=>h (hK w q)).symm
 have e:K.flatMap (tails B)=(K.flatMap fun k=>B.filter fun w=>decide (pre w=k)).map suf:=by
  rw[List.map_flatMap];rfl
 rw[e,zJ,p.length_eq]
section
variable {n b d:Nat}{h g:H}{F:Fn}{ρ:List V}{K:List (List Nat)}{r:List Nat→Nat}{B:List (List Nat)}{s:List Nat}
theorem callT (ea:evEs true F ρ args h=.ok vs h'') (hc:F true f vs h''=.ok v h'):evE true F ρ (.call true f args) h=.ok v h':=by
 rw[zed,ea,R.bind_ok];exact hc
theorem ziC {α:Type}{F:Fn}{t:Watch}{x:Nat}{it:PIt}{body:List PS}{ρ:List V}{h h':H}{l:List α}{c:α→V}(Inv:List α→List V→H→Prop) (Post:V→List V→H→Prop)
  (hi:evIt true F ρ it h=.ok (l.map c,t) h') (hw:∀ p ρ g,Inv p ρ g→t.ok g=true) (h0:Inv [] ρ h')
  (hb:∀ p a q ρ g,l=p++a::q→Inv p ρ g→(∃ ρ' g',exSs true F body (ρ.set x (c a)) g=.ok .next ρ' g'∧Inv (p++[a]) ρ' g')∨∃ v ρ' g',exSs true F body (ρ.set x (c a)) g=.ok (.ret v) ρ' g'∧Post v ρ' g') :
  (∃ ρ' g',exS true F (.for1 x it body) ρ h=.ok .next ρ' g'∧Inv l ρ' g')∨∃ v ρ' g',exS true F (.for1 x it body) ρ h=.ok (.ret v) ρ' g'∧Post v ρ' g':=by
 rw[s_for1',zR (by decide),hi,R.st_ok]
 have key:∀ (q p:List α) (ρ:List V) (g:H),l=p++q→Inv p ρ g→(∃ ρ' g',forL t (bind1 x) (fun ρ h=>exSs true F body ρ h) (q.map c) ρ g=.ok .next ρ' g'∧Inv l ρ' g')∨∃ v ρ' g',forL t (bind1 x) (fun ρ h=>exSs true F body ρ h) (q.map c) ρ g=.ok (.ret v) ρ' g'∧Post v ρ' g':=by
  intro q
  induction q with
  |nil=>intro p ρ g e hi;rw[append_nil] at e;subst e;exact .inl ⟨ρ,g,by rw[map_nil,zgS,zT (hw _ _ _ hi)],hi⟩
  |cons a q ih =>
   intro p ρ g e hi;have st:∀ R,(exSs true F body (ρ.set x (c a)) g).then (fun ρ h=>forL t (bind1 x) (fun ρ h=>exSs true F body ρ h) (q.map c) ρ h)=R→forL t (bind1 x) (fun ρ h=>exSs true F body ρ h) ((a::q).map c) ρ g=R:=fun R e=>by
    rw[yY,zfi,zT (hw _ _ _ hi)];exact e
   rcases hb p a q ρ g e hi with⟨ρ1,g1,e1,i1⟩|⟨v,ρ1,g1,e1,i1⟩
   ·rcases ih (p++[a]) ρ1 g1 (by rw[e,yJ];rfl) i1 with⟨ρ2,g2,e2,i2⟩|⟨v,ρ2,g2,e2,i2⟩
    ·exact .inl ⟨ρ2,g2,st _ (by rw[e1,RS.then_next];exact e2),i2⟩
    ·exact .inr ⟨v,ρ2,g2,st _ (by rw[e1,RS.then_next];exact e2),i2⟩
   ·exact .inr ⟨v,ρ1,g1,st _ (by rw[e1];rfl),i1⟩
 exact key l [] ρ h' rfl h0
theorem zo7 {α:Type}{x:Nat}{it:PIt}{body:List PS}{h':H}{l:List α}{c:α→V}{t:Watch}{w₀:V}(b:α→Bool)
  (hi:evIt true F ρ it h=.ok (l.map c,t) h') (ht:t.ok h'=true) (hx:ρ.set x w₀=ρ)
  (hb:∀ a∈l,b a=true→exSs true F body (ρ.set x (c a)) h'=.ok .next (ρ.set x (c a)) h') :
  ((∀ a∈l,b a=true)∧∃ w,exS true F (.for1 x it body) ρ h=.ok .next (ρ.set x w) h') ∨
  ∃ p a q,l=p++a::q∧(∀ d∈p,b d=true)∧b a=false∧∀ v ρ' g',exSs true F body (ρ.set x (c a)) h'=.ok (.ret v) ρ' g'→exS true F (.for1 x it body) ρ h=.ok (.ret v) ρ' g':=by
 rw[s_for1',zR (by decide),hi,R.st_ok]
 have key:∀ (q:List α) (w:V),(∀ a∈q,a∈l)→((∀ a∈q,b a=true)∧∃ w',forL t (bind1 x) (fun ρ h=>exSs true F body ρ h) (q.map c) (ρ.set x w) h'=.ok .next (ρ.set x w') h') ∨
   ∃ p a q',q=p++a::q'∧(∀ d∈p,b d=true)∧b a=false∧∀ v ρ' g',exSs true F body (ρ.set x (c a)) h'=.ok (.ret v) ρ' g'→forL t (bind1 x) (fun ρ h=>exSs true F body ρ h) (q.map c) (ρ.set x w) h'=.ok (.ret v) ρ' g':=by
  intro q
  induction q with
  |nil=>intro w _;exact .inl ⟨fun z h=>(nomatch h),w,by rw[map_nil,zgS,zT ht]⟩
  |cons a q ih =>
   intro w hq;have st:∀ R,(exSs true F body (ρ.set x (c a)) h').then (fun ρ h=>forL t (bind1 x) (fun ρ h=>exSs true F body ρ h) (q.map c) ρ h)=R→forL t (bind1 x) (fun ρ h=>exSs true F body ρ h) ((a::q).map c) (ρ.set x w) h'=R:=fun R e=>by
    rw[yY,zfi,zT ht];show((exSs true F body ((ρ.set x w).set x (c a)) h').then _)=R;rw[set_set];exact e
   cases hba:b a with
   |true =>
    have e:=hb a (hq a (zZ ..)) hba
    rcases ih (c a) (fun d hd=>hq d (zY _ hd)) with⟨h1,w',h2⟩|⟨p,a',q',h1,h2,h3,h4⟩
    ·refine .inl ⟨fun d hd=>?_,w',st _ (by rw[e,RS.then_next];exact h2)⟩
     rcases zN.1 hd with rfl|hd
     ·exact hba
     ·exact h1 d hd
    ·refine .inr ⟨a::p,a',q',by rw[h1];rfl,fun d hd=>?_,h3,fun v ρ' g' hv=>st _ (by rw[e,RS.then_next];exact h4 v ρ' g' hv)⟩
     rcases zN.1 hd with rfl|hd
     ·exact hba
     ·exact h2 d hd
   |false=>exact .inr ⟨[],a,q,rfl,fun z h=>(nomatch h),hba,fun v ρ' g' hv=>st _ (by rw[hv];rfl)⟩
 have:=key l w₀ fun z h=>h;rw[hx] at this;exact this
theorem zgK (e:exS true F st ρ h=.ok (.ret v) ρ' g'):(exSs true F (st::ss) ρ h).out=.ok v g':=by rw[ss_cons',e];rfl
theorem Ways.app {T:List Nat→List V}(W:Ways b g d K r T) (k:H):Ways b (g++k) d K r T:=⟨zaJ W.dc,fun j hj=>zaJ (W.ls j hj),W.nd,W.inj,W.lo⟩
theorem zen (ea:evE true F ρ a h=.ok (.ref i) h) (hd:h[i]?=some (.dict es)):evE true F ρ (.bf .len a) h=.ok (.int es.length) h:=by
 rw[zlQ (f:=.len) rfl,ea,R.bind_ok];show R.opt (match h[i]? with|some (.list vs)=>some (V.int vs.length)|some (.dict es)=>some (.int es.length)|none=>Option.none) h=_
 rw[hd];rfl
noncomputable def unBody:List PS:=[
  .ifs (.cmp .ne (.get (.v 2) (.v 3) (.int 0)) (.bf .len (.idx (.v 1) (.v 3)))) [
   .ret (.tup [.str "uneven",.own (.bf .list (.v 3))])] []]
theorem zqR (W:Ways b g d K r (tV B)) (hj:j∈K) (he:g[e]?=some (.dict es)) (hc:∀ j,(dfind (V.tw j) es).getD (.int 0)=.int (ins B j)) :
  evE true F (Ea bv d e (V.tw j) o f x) (.cmp .ne (.get (.v 2) (.v 3) (.int 0)) (.bf .len (.idx (.v 1) (.v 3)))) g=.ok (.bool (!decide (ins B j=outs B j))) g:=by
 have e1:=(zjq (F:=F) (ρ:=Ea bv d e (V.tw j) o f x) (o:=.v 2) (k:=.v 3) (t:=j) rfl rfl he).trans (by rw[hc])
 have e2:evE true F (Ea bv d e (V.tw j) o f x) (.idx (.v 1) (.v 3)) g=.ok (.ref (r j)) g:=by
  rw[zee,show evE true F (Ea bv d e (V.tw j) o f x) (.v 1) g=.ok (.ref d) _ from rfl,R.bind_ok,show evE true F (Ea bv d e (V.tw j) o f x) (.v 3) g=.ok (V.tw j) _ from rfl,R.bind_ok,zbY (v:=.ref (r j)) W.dc (by rw[zat,zT hj])];rfl
 have e3:=(zaO e2 (zab (W.ls j hj))).trans (by unfold tV;rw[tups_len,zii])
 exact zol e1 e3 (by rw[pyEq_int,decide_eq_decide.2 Int.natCast_inj])
theorem zmV (W:Ways b g d K r (tV B)) (hj:j∈K) (he:g[e]?=some (.dict es)) (hc:∀ j,(dfind (V.tw j) es).getD (.int 0)=.int (ins B j)) :
  exSs true F unBody (Ea bv d e (V.tw j) o f x) g=if ins B j=outs B j then .ok .next (Ea bv d e (V.tw j) o f x) g else .ok (.ret (.tup [.str "uneven",.ref g.length])) (Ea bv d e (V.tw j) o f x) (g++[.list (V.nats j)]):=by
 have t:=zqR (F:=F) (bv:=bv) (o:=o) (f:=f) (x:=x) W hj he hc;unfold unBody
 by_cases q:ins B j=outs B j
 ·rw[zW q] at t
  rw[zT q,zaW t];rfl
 ·rw[zU q] at t
  rw[zR q,zbk t];rfl
end
section
variable {n b d:Nat}{h g:H}{F:Fn}{ρ:List V}{K:List (List Nat)}{r:List Nat→Nat}{B:List (List Nat)}{s:List Nat}
theorem zmg (ea:evE true F ρ a h=.ok bv h) (hb:HB h bv L) (hL:L≠[]):∃ q∈L,evE true F ρ (.bf .min a) h=.ok q.1 h∧Least (L.map (·.2)) q.2:=by
 cases L with
 |nil=>exact absurd rfl hL
 |cons p L =>
  obtain⟨q,hq,e,hm⟩:=zi5 hb.wd;refine⟨q,hq,?_,yQ.2 ⟨q,hq,rfl⟩,fun t ht=>?_⟩
  ·rw[zlQ (f:=.min) rfl,ea,R.bind_ok]
   show R.opt ((litems h bv).bind (minVs h)) h=_;rw[hb.it,Option.bind_some,e];rfl
  ·obtain⟨x,hx,rfl⟩:=yQ.1 ht
   exact hm x hx
theorem zlU (hd:g[i]?=some (.dict (dk tt M))) (h64:M.length < 64) (h0:M.length < 2∨∀ t∈M,t≠[]):evE true F [w1,w2,w3,w4,w5,.ref i,x] (.own (.comp (.bf .list (.v 6)) 6 (.seq (.bf .sorted (.v 5))) .none)) g=.ok (.ref g.length) (g++[.list (V.lists (srt M))]):=by
 refine zcu ?_;refine zbL (l:=srt M) (c:=V.tw) (t:=Option.none) (zbq (vs:=tups (srt M)) (zaX (a:=.v 5) (v:=.ref i) (vs:=tups M) rfl (by rw[zc2 hd,zdq]) (zcY g M h64 h0))) rfl (fun t=>.l (V.nats t)) (fun a z=>rfl) (za1 ?_)
 rw[zJ,zfJ];exact zX (Nat.le_of_lt h64) (by decide)
inductive InvU (G:H) (bv:V) (d e:Nat) (o:V) (B p:List (List Nat)):List V→H→Prop
 |mk (w:V) (ev:∀ i∈p,ins B i=outs B i):InvU G bv d e o B p (Ea bv d e w o .uu .uu) G
inductive EndU (G:H) (B:List (List Nat)):V→H→Prop
 |mk (j:List Nat) (p q:List (List Nat)) (hpq:JS B=p++j::q) (hp:∀ i∈p,ins B i=outs B i) (hj:ins B j≠outs B j):EndU G B (.tup [.str "uneven",.ref G.length]) (G++[.list (V.nats j)])
theorem zlb {bv:V}{L:List (V × List Nat)}(hb:HB h bv L) (jb:JB (L.map (·.2))):∃ v g',run PP (n+2) true "lack_of" [bv] h=.ok v g'∧Ext h g'∧Lack h.length (L.map (·.2)) v g':=by
 have hv:=(zbC hb.it).val;have hL:L.length < 64:=by have:=jb.cnt;rw[zJ] at this;exact this
 obtain⟨g,K,r,e1,x1,W,hK⟩:=zhC (n:=n) hb (zX (Nat.le_of_lt hL) (by decide))
 generalize hB:L.map (·.2)=B at *
 have hpre:∀ w∈B,pre w∈K:=fun w hw=>(hK _).2 ⟨w,hw,.inl rfl⟩;obtain⟨es,j0,o0,hes,e2⟩:=zly (F:=run PP (n+1)) (bv:=bv) (f:=.uu) (x:=.uu) W hpre (by rw[ziQ W.nd hpre];exact zX (Nat.le_of_lt jb.cnt) (by decide))
 have W2:=W.app [.dict es];have x2:=x1.app [.dict es];have hE:(g++[Cell.dict es])[g.length]?=some (.dict es):=zah _ _;have hJ:srt K=JS B:=zrC W.nd hK;have k64:=jb.few K W.nd fun j hj=>(hK j).1 hj;have kfl:=jb.flat K W.nd fun j hj=>(hK j).1 hj;have go:∀ res,(exSs true (run PP (n+1)) (zb8.body.drop 3) (Ea bv h.length g.length j0 o0 .uu .uu) (g++[.dict es])).out=res→run PP (n+2) true "lack_of" [bv] h=res:=fun res hres =>
  start zim rfl (ρ:=[bv,.uu,.uu,.uu,.uu,.uu,.uu]) rfl (zai (v:=.ref h.length) (h':=g) (callT (zbi (zao (v:=bv) rfl hv) rfl) e1) (ρ':=[bv,.ref h.length,.uu,.uu,.uu,.uu,.uu]) rfl (zai (v:=.ref g.length) (h':=g++[Cell.dict []]) rfl (ρ':=Ea bv h.length g.length .uu .uu .uu .uu) rfl (zaB e2 hres)))
 generalize hG:g++[Cell.dict es]=G at *
 have ie:evIt true (run PP (n+1)) (Ea bv h.length g.length j0 o0 .uu .uu) (.seq (.bf .sorted (.v 1))) G=.ok ((JS B).map V.tw,Option.none) G:=by
  rw[←hJ];exact zbq (zaX (a:=.v 1) (v:=.ref h.length) (vs:=tups K) rfl (by rw[zc2 W2.dc,zdq]) (zcY G K k64 kfl))
 have inK:∀ j∈JS B,j∈K:=fun j hj=>(hK j).2 (zd2.1 hj)
 rcases ziC (F:=run PP (n+1)) (x:=3) (body:=unBody) (InvU G bv h.length g.length o0 B) (fun v z=>EndU G B v) ie (fun z z z z=>rfl) ⟨j0,fun z h=>nomatch h⟩ (fun p j q ρ g' hp I=>by
  obtain⟨w,ev⟩:=I;have x:=zmV (F:=run PP (n+1)) (bv:=bv) (o:=o0) (f:=.uu) (x:=.uu) W2 (inK j (by rw[hp];exact mem_append_right _ (zZ ..))) hE hes
  by_cases hj:ins B j=outs B j
  ·rw[zT hj] at x
   refine .inl ⟨_,_,x,_,fun i hi=>?_⟩
   rcases zP.1 hi with hi|hi
   ·exact ev i hi
   ·rw[zK.1 hi];exact hj
  ·rw[zR hj] at x
   exact .inr ⟨_,_,_,x,j,p,q,hp,ev,hj⟩) with⟨ρ',g',e3,⟨w,hev⟩⟩|⟨v,ρ',g',e3,⟨j,p,q,hpq,hp,hj⟩⟩
 ·have hbG:=x2.B hb
  obtain⟨m,hm,em,le⟩:=zmg (F:=run PP (n+1)) (ρ:=Ea bv h.length g.length w o0 .uu .uu) (a:=.v 0) (zao rfl hv) hbG (fun e=>jb.ne (by rw[←hB,e];rfl))
  rw[hB] at le;have hs:pre m.2∈K:=hpre _ le.1;obtain⟨M,hM,hr,e4⟩:=zlL (n:=n) W2 hK hs (zX (Nat.le_of_lt k64) (by decide))
  have ea:evEs true (run PP (n+1)) (Ea bv h.length g.length w o0 .uu .uu) [.v 1,.bf .tuple (.slice (.bf .min (.v 0)) .none (some (.neg 1)))] G=.ok [.ref h.length,V.tw (pre m.2)] G :=
   zbi rfl (zbi (zbB (zc1 em (hbG.wd m hm)) (IsL.lst _ _)) rfl)
  have x3:Ext h (HC G M []):=x2.app _;have lK:(JS B).length=K.length:=by rw[←hJ,zfJ]
  have lt:evE true (run PP (n+1)) (Ea bv h.length g.length w o0 (.ref G.length) .uu) (.cmp .lt (.bf .len (.v 5)) (.bf .len (.v 1))) (HC G M [])=.ok (.bool (decide (M.length < (JS B).length))) (HC G M []):=by
   rw[zbQ,zen (a:=.v 5) rfl (zoM M []),R.bind_ok,zen (a:=.v 1) rfl (zqL W2.dc),R.bind_ok,zb0,zb0,cmp_lt_int,lK];exact congrArg (fun x=>R.ok (V.bool x) _) (decide_eq_decide.2 Int.ofNat_lt)
  have go2:∀ res,(exSs true (run PP (n+1)) (zb8.body.drop 5) (Ea bv h.length g.length w o0 (.ref G.length) .uu) (HC G M [])).out=res→run PP (n+2) true "lack_of" [bv] h=res:=fun res hres =>
   go res (zaB e3 (zai (callT ea e4) (ρ':=Ea bv h.length g.length w o0 (.ref G.length) .uu) rfl hres))
  by_cases hlt:M.length < (JS B).length
  ·rw[zW hlt] at lt
   have hMJ:∀ j∈M,isJ B j:=fun j hj=>((hr j).1 hj).isJ ((hK _).1 hs);refine⟨_,_,go2 _ (zej lt (zaA (v:=.tup [.str "apart",.ref (HC G M []).length]) (h':=HC G M []++[.list (V.lists (srt M))]) ?_)),x3.app _,.apart (HC G M []).length m.2 M rfl x3.len (zah _ _) hev le hM hr hlt⟩;have e6:=zlU (F:=run PP (n+1)) (x:=.uu) (w1:=bv) (w2:=.ref h.length) (w3:=.ref g.length) (w4:=w) (w5:=o0) (zoM (g:=G) M []) (jb.few M hM hMJ) (jb.flat M hM hMJ)
   rw[zns,zbF,zrJ,R.bind_ok,zbF,e6];rfl
  ·rw[zU hlt] at lt
   exact⟨.none,_,go2 _ (zbH lt (zaA rfl)),x3,.fine m.2 M rfl hev le hM hr hlt⟩
 ·exact⟨_,_,go _ (zgK e3),x2.app [.list (V.nats j)],.uneven G.length j p q rfl x2.len (zah _ _) hpq hp hj⟩
end
def Bal (L:List (List Nat)) (j s:List Nat):Prop:=∀ x,outs L x+(if x=s then 1 else 0)=ins L x+(if x=j then 1 else 0)
noncomputable def cP (L A:List (List Nat)):Nat:=(L.filter fun w=>decide (pre w∈A)).length
noncomputable def cS (L A:List (List Nat)):Nat:=(L.filter fun w=>decide (suf w∈A)).length
theorem zjX {f:List Nat→List Nat}(hx:x ∉ A):∀ L:List (List Nat),(L.filter fun w=>decide (f w∈x::A)).length=(L.filter fun w=>decide (f w=x)).length+(L.filter fun w=>decide (f w∈A)).length:=by
 intro l__
 induction l__ with
 |nil=>exact rfl
 |cons w L ih =>
  have ih:=ih;have pos:∀ (p:List Nat→Bool),p w=true→((w::L).filter p).length=(L.filter p).length+1:=fun p h=>by rw[filter_cons_of_pos h];rfl
  have neg:∀ (p:List Nat→Bool),p w=false→((w::L).filter p).length=(L.filter p).length:=fun p h=>by rw[filter_cons_of_neg (by rw[h];exact Bool.false_ne_true)]
  by_cases h1:f w=x
  ·rw[pos (fun w=>decide (f w∈x::A)) (zW (by rw[h1];exact zZ ..)),pos (fun w=>decide (f w=x)) (zW h1),neg (fun w=>decide (f w∈A)) (zU (by rw[h1];exact hx)),ih];exact Nat.add_right_comm _ _ _
  ·rw[neg (fun w=>decide (f w=x)) (zU h1)]
   by_cases h2:f w∈A
   ·rw[pos (fun w=>decide (f w∈x::A)) (zW (zY _ h2)),pos (fun w=>decide (f w∈A)) (zW h2),ih];rfl
   ·rw[neg (fun w=>decide (f w∈x::A)) (zU fun q=>(zN.1 q).elim h1 h2),neg (fun w=>decide (f w∈A)) (zU h2),ih]
theorem Bal.sum (b:Bal L j s):∀ {A:List (List Nat)},A.Nodup→cP L A+(if s∈A then 1 else 0)=cS L A+(if j∈A then 1 else 0):=by
 intro l__
 induction l__ with
 |nil =>
  intro _;have:∀ f:List Nat→List Nat,(L.filter fun w=>decide (f w∈([]:List (List Nat))))=[]:=fun f=>List.filter_eq_nil_iff.2 fun w z=>by simp
  unfold cP cS;rw[this,this];rfl
 |cons x A ih =>
  intro hn;rw[yZ] at hn;have ih:=ih hn.2;have hb:=b x;unfold outs ins at hb;unfold cP cS at *
  rw[zjX hn.1,zjX hn.1];have e:∀ y:List Nat,(if y∈x::A then 1 else 0)=(if x=y then 1 else 0)+(if y∈A then 1 else 0:Nat):=fun y=>by
   by_cases h1:x=y
   ·rw[zT h1,zT (by rw[h1];exact zZ ..),zR (by rw[←h1];exact hn.1)]
   ·rw[zR h1,Nat.zero_add]
    by_cases h2:y∈A
    ·rw[zT h2,zT (zY _ h2)]
    ·rw[zR h2,zR fun q=>(zN.1 q).elim (fun q=>h1 q.symm) h2]
  rw[e,e,Nat.add_add_add_comm,hb,ih,Nat.add_add_add_comm]
theorem zb1 {f:List Nat→Bool}{L:List (List Nat)}{e:List Nat}(he:e∈L):(L.filter f).length=((L.erase e).filter f).length+(if f e=true then 1 else 0):=by
 have p:=(List.perm_cons_erase he).filter f;rw[p.length_eq]
 by_cases h:f e=true
 ·rw[filter_cons_of_pos h,zT h];rfl
 ·rw[filter_cons_of_neg h,zR h];rfl
theorem Bal.step {L:List (List Nat)}{j s e:List Nat}(b:Bal L j s) (he:e∈L) (hj:pre e=j):Bal (L.erase e) (suf e) s:=fun x=>by
 have hb:=b x;unfold outs ins at *
 rw[zb1 (f:=fun w=>decide (pre w=x)) he,zb1 (f:=fun w=>decide (suf w=x)) he] at hb;have e1:(if decide (pre e=x)=true then 1 else 0:Nat)=if x=j then 1 else 0:=by
  by_cases h:x=j
  ·rw[zT h,zT (zW (by rw[hj,h]))]
  ·rw[zR h,zR (by rw[zU fun q=>h (q.symm.trans hj)];exact Bool.false_ne_true)]
 have e2:(if decide (suf e=x)=true then 1 else 0:Nat)=if x=suf e then 1 else 0:=by
  by_cases h:x=suf e
  ·rw[zT h,zT (zW h.symm)]
  ·rw[zR h,zR (by rw[zU fun q=>h q.symm];exact Bool.false_ne_true)]
 rw[e1,e2] at hb;exact Nat.add_right_cancel ((Nat.add_right_comm _ _ _).trans hb)
def AllR (L:List (List Nat)) (j:List Nat):Prop:=∀ w∈L,Rch L j (pre w)
def Good (L:List (List Nat)) (e:List Nat):Prop:=AllR (L.erase e) (suf e)
theorem zkM (L:List (List Nat)) (s:List Nat):∃ A:List (List Nat),A.Nodup∧∀ x,x∈A↔Rch L s x:=by
 have h:=Classical.propDecidable;refine⟨(ddp (s::L.map suf) (s::L.map suf).length).filter fun x=>@decide (Rch L s x) (h _),(zcL _ _ (Nat.le_refl _)).1.filter _,fun x=>?_⟩;rw[mem_filter,(zcL _ _ (Nat.le_refl _)).2,take_length,decide_eq_true_eq];refine⟨And.right,fun r=>⟨?_,r⟩⟩
 cases r with
 |base=>exact zZ ..
 |step hw _=>exact zY _ (yQ.2 ⟨_,hw,rfl⟩)
theorem zkX (r:Rch L j x):x=j∨∃ e∈L,pre e=j:=by
 induction r with
 |base=>exact .inl rfl
 |step hw _ ih=>exact .inr (ih.elim (fun e=>⟨_,hw,e⟩) id)
theorem back (ar:AllR L j) (h:Rch (L.erase e) (suf e) j):Good L e:=by
 intro w hw;have key:∀ x,Rch L j x→Rch (L.erase e) (suf e) x:=fun x r=>by
  induction r with
  |base=>exact h
  |@step w' hw' _ ih =>
   by_cases q:w'=e
   ·rw[q];exact .base
   ·exact .step ((mem_erase_of_ne q).2 hw') ih
 exact key _ (ar w (mem_of_mem_erase hw))
theorem shut {L:List (List Nat)}{j s e:List Nat}(b:Bal L j s) (he:e∈L) (hj:pre e=j) (h:¬ Rch (L.erase e) (suf e) j):Rch (L.erase e) (suf e) s∧∀ w∈L.erase e,Rch (L.erase e) (suf e) (suf w)→Rch (L.erase e) (suf e) (pre w):=by
 obtain⟨A,nd,mem⟩:=zkM (L.erase e) (suf e);have hs:=(b.step he hj).sum nd;rw[zT ((mem _).2 .base)] at hs;have sub:∀ w∈L.erase e,decide (pre w∈A)=true→decide (suf w∈A)=true:=fun w hw q=>zW ((mem _).2 (.step hw ((mem _).1 (zV q))));have le:cP (L.erase e) A≤cS (L.erase e) A:=by
  unfold cP cS;rw[←List.countP_eq_length_filter,← List.countP_eq_length_filter];exact List.countP_mono_left sub
 have s1:s∈A:=Classical.byContradiction fun q=>by rw[zR q] at hs;exact absurd hs (Nat.ne_of_lt (Nat.lt_succ_of_le le))
 rw[zT s1] at hs;refine⟨(mem s).1 s1,fun w hw r=>Classical.byContradiction fun q=>?_⟩;have:=zfl (p:=fun w=>decide (pre w∈A)) (q:=fun w=>decide (suf w∈A)) sub hw (zU fun m=>q ((mem _).1 m)) (zW ((mem _).2 r));rw[List.countP_eq_length_filter,List.countP_eq_length_filter] at this;exact absurd (Nat.succ.inj hs) (Nat.ne_of_lt this)
theorem zdV (b:Bal L s s) (ar:AllR L s) (he:e∈L) (hs:pre e=s):Good L e :=
 Classical.byContradiction fun q=>(fun h=>q (back ar (shut b he hs h).1)) fun h=>q (back ar h)
theorem zfh (nd:L.Nodup) (b:Bal L j s) (ar:AllR L j) (hL:L≠[]):∃ e∈L,pre e=j∧Good L e:=by
 obtain⟨e1,h1,p1⟩:∃ e∈L,pre e=j:=by
  cases L with
  |nil=>exact absurd rfl hL
  |cons w L=>exact(zkX (ar w (zZ ..))).elim (fun e=>⟨w,zZ ..,e⟩) id
 by_cases h2:∃ e∈L,pre e=j∧e≠e1
 ·obtain⟨e2,h2,p2,ne⟩:=h2
  by_cases q1:Rch (L.erase e1) (suf e1) j
  ·exact⟨e1,h1,p1,back ar q1⟩
  ·by_cases q2:Rch (L.erase e2) (suf e2) j
   ·exact⟨e2,h2,p2,back ar q2⟩
   ·obtain⟨s1,w1⟩:=shut b h1 p1 q1
    obtain⟨s2,_⟩:=shut b h2 p2 q2;have key:∀ x,Rch (L.erase e2) (suf e2) x→¬ Rch (L.erase e1) (suf e1) x:=fun x r=>by
     induction r with
     |base=>exact fun q=>q1 (by rw[←p2];exact w1 e2 ((mem_erase_of_ne ne).2 h2) q)
     |@step w hw r ih =>
      by_cases q:w=e1
      ·rw[q,p1] at r;exact absurd r q2
      ·exact fun t=>ih (w1 w ((mem_erase_of_ne q).2 (mem_of_mem_erase hw)) t)
    exact absurd s1 (key s s2)
 ·refine⟨e1,h1,p1,fun w hw=>?_⟩
  have only:∀ e∈L,pre e=j→e=e1:=fun e he hp=>Classical.byContradiction fun q=>h2 ⟨e,he,hp,q⟩;have key:∀ x,Rch L j x→x=j∨Rch (L.erase e1) (suf e1) x:=fun x r=>by
   induction r with
   |base=>exact .inl rfl
   |@step w' hw' _ ih =>
    by_cases q:w'=e1
    ·rw[q];exact .inr .base
    ·refine .inr (.step ((mem_erase_of_ne q).2 hw') (ih.resolve_left fun h=>q (only w' hw' h)))
  have hw':=mem_of_mem_erase hw;refine(key _ (ar w hw')).resolve_left fun h=>?_;rw[only w hw' h] at hw;exact(List.Nodup.not_mem_erase nd) hw
theorem Bal.nil (b:Bal [] j s):j=s:=by
 have:=b s;rw[zT rfl] at this
 by_cases h:s=j
 ·exact h.symm
 ·rw[zR h] at this;exact absurd this (show ¬ 0+1=0+0 by decide)
noncomputable def lst (w:List Nat):Nat:=w.getD (w.length - 1) 0
theorem zdQ (j:List Nat) (s:Nat):pre (j++[s])=j:=by
 unfold pre;rw[zQ,length_singleton,Nat.add_sub_cancel,take_left'];rfl
theorem zpH (j:List Nat) (s:Nat):lst (j++[s])=s:=by
 unfold lst;rw[zQ,length_singleton,Nat.add_sub_cancel,List.getD_eq_getElem?_getD,List.getElem?_append_right (Nat.le_refl _),Nat.sub_self];rfl
theorem zbA (h:0 < w.length):pre w++[lst w]=w:=by
 have e:=take_append_drop (w.length - 1) w;have hl:w.length - 1 < w.length:=Nat.sub_lt h Nat.one_pos;rw[List.drop_eq_getElem_cons hl,Nat.sub_add_cancel h,drop_length] at e;unfold pre lst;rw[List.getD_eq_getElem?_getD,zM hl];exact e
theorem zl3 (e:j++[a]=j++[b]):a=b:=by
 have:=List.append_cancel_left e;exact(List.cons.inj this).1
structure Lf (b:Nat) (g:H) (d:Nat) (K:List (List Nat)) (r:List Nat→Nat) (C:List Nat→List Nat) (L:List (List Nat)):Prop where
 W:Ways b g d K r fun j=>V.nats (C j)
 nd:∀ j,(C j).Nodup
 mem:∀ j s,s∈C j↔j++[s]∈L
 inK:∀ j,j ∉ K→C j=[]
theorem zma {C:List Nat→List Nat}(nd:∀ j,(C j).Nodup) (mem:∀ j s,s∈C j↔j++[s]∈L) (hL:L.Nodup) (h0:∀ w∈L,0 < w.length) (j:List Nat):(C j).length=outs L j:=by
 have p:((C j).map fun s=>j++[s]).Perm (L.filter fun w=>decide (pre w=j)):=by
  refine(List.perm_ext_iff_of_nodup ?_ (hL.filter _)).2 fun w=>?_
  ·rw[List.Nodup,List.pairwise_map]
   exact(nd j).imp fun ne e=>ne (zl3 e)
  ·rw[yQ,mem_filter,decide_eq_true_eq]
   constructor
   ·rintro⟨s,hs,rfl⟩
    exact⟨(mem j s).1 hs,zdQ j s⟩
   ·rintro⟨hw,rfl⟩
    exact⟨lst w,(mem _ _).2 (by rw[zbA (h0 w hw)];exact hw),zbA (h0 w hw)⟩
 unfold outs;rw[←p.length_eq,zJ]
section
variable {n b d:Nat}{h g:H}{F:Fn}{ρ:List V}{K:List (List Nat)}{r:List Nat→Nat}{C:List Nat→List Nat}{L:List (List Nat)}{s:List Nat}
theorem zjr (eo:evE true F ρ o h=.ok (.ref i) h) (ek:evE true F ρ k h=.ok (V.tw t) h) (ee:evE true F ρ e h=.ok z h) (hd:h[i]?=some (.dict es)):evE true F ρ (.get o k e) h=.ok ((dfind (V.tw t) es).getD z) h:=by
 have hc:dcell h (.ref i)=true:=by
  show(match h[i]? with|some (.dict _)=>true|_=>false)=true
  rw[hd]
 rw[zpe,eo,R.bind_ok,zT hc,ek,R.bind_ok,ee,R.bind_ok];show(match h[i]? with|some (.dict es)=>if keyOk (V.tw t) then R.ok ((dfind (V.tw t) es).getD z) h else R.bad|_=>.bad)=_
 rw[hd];show(if keyOk (V.tw t) then _ else R.bad)=_;rw[zbf,zT rfl]
theorem Lf.get (f:Lf b g d K r C L) (t:List Nat) (k:H):∃ v w,litems (g++k) v=some (V.nats (C t))∧(∀ k',iterOf (g++k') v=some ((C t).map fun s:Nat=>V.int s,w)∧Watch.ok w (g++k')=true) ∧
  ∀ (F:Fn) (ρ:List V) (o x:PE),evE true F ρ o (g++k)=.ok (.ref d) (g++k)→evE true F ρ x (g++k)=.ok (V.tw t) (g++k)→evE true F ρ (.get o x (.list [])) (g++k)=.ok v (g++k):=by
 by_cases ht:t∈K
 ·have hl:=f.W.ls t ht
  refine⟨.ref (r t),some (r t,.list (V.nats (C t))),zab (zaJ hl),fun k'=>⟨zdm (zaJ hl),zW (zaJ hl)⟩,fun F ρ o x eo ex=>?_⟩;rw[zjr eo ex (z:=.l []) rfl (zaJ f.W.dc),zat,zT ht];rfl
 ·refine⟨.l [],Option.none,by rw[f.inK t ht];rfl,fun k'=>⟨by rw[f.inK t ht];rfl,rfl⟩,fun F ρ o x eo ex=>?_⟩
  rw[zjr eo ex (z:=.l []) rfl (zaJ f.W.dc),zat,zR ht];rfl
theorem zik {a c:PE}{j:List Nat}{s:Nat}(ea:evE true F ρ a h=.ok (V.tw j) h) (ec:evE true F ρ c h=.ok (.int s) h) (hj:j.length≤1000):evE true F ρ (.bin .add a (.tup [c])) h=.ok (V.tw (j++[s])) h:=by
 rw[zhq,ea,R.bind_ok,zns,zbi ec (rfl:evEs true F ρ [] h=.ok [] h),R.bind_ok];show R.opt (mkT (V.nats j++[.int s])) h=_;rw[zpG (by rw[zQ,nats_length];exact zX (Nat.succ_le_succ hj) (by decide))]
 unfold V.tw;rw[zav];rfl
theorem zd7 {a c:PE}{j:List Nat}{s:Nat}(ea:evE true F ρ a h=.ok (V.tw j) h) (ec:evE true F ρ c h=.ok (.int s) h) (hj:j.length≤1000):evE true F ρ (.rev (.bin .add a (.tup [c]))) h=.ok (V.tw (suf (j++[s]))) h:=by
 rw[zpi,zik ea ec hj,R.bind_ok];have:tailOf (V.tw (j++[s]))=some (.tup ((V.nats (j++[s])).drop 1)):=zT (by rw[nats_length,zQ];exact Nat.succ_pos _)
 rw[this,zde];rfl
noncomputable def goBody:List PS:=[
   .asg 8 (.rev (.bin .add (.v 6) (.tup [.v 7]))),
   .ifs (.cmp .notIn (.v 8) (.v 3)) [
    .setIdx (.v 3) (.v 8) (.bool true),
    .expr (.append (.v 4) (.v 8))] []]
noncomputable abbrev Eg (d g:Nat) (s:V) (many words:Int) (here sign other:V):List V:=[.ref d,s,.int many,.ref g,.ref (g+1),.int words,here,sign,other]
theorem zpY {D Wt M:List (List Nat)}{t:List Nat}{sg:Nat}{sv ov:V}{many words:Int}(c:Cm L s D Wt M) (hr:Rch L s (suf (t++[sg]))) (ht:t.length≤1000) (hM:M.length≤1000) (hW:Wt.length≤1000):∃ Wt' M',Cm L s D Wt' M'∧(∀ x∈M,x∈M')∧suf (t++[sg])∈M' ∧
  exSs true F goBody (Eg d g.length sv many words (V.tw t) (.int sg) ov) (HC g M Wt)=.ok .next (Eg d g.length sv many words (V.tw t) (.int sg) (V.tw (suf (t++[sg])))) (HC g M' Wt'):=by
 have e1:=zd7 (F:=F) (ρ:=Eg d g.length sv many words (V.tw t) (.int sg) ov) (h:=HC g M Wt) (a:=.v 6) (c:=.v 7) (j:=t) (s:=sg) rfl rfl ht;generalize suf (t++[sg])=o at *
 have e:=ze1 (F:=F) (ρ:=Eg d g.length sv many words (V.tw t) (.int sg) (V.tw o)) (a:=.v 8) (b:=.v 3) (t:=o) rfl rfl (zoM (g:=g) M Wt);unfold goBody;rw[zap e1];show ∃ Wt' M',_∧_∧_∧exSs true F _ (Eg d g.length sv many words (V.tw t) (.int sg) (V.tw o)) _=_
 by_cases h:o∈M
 ·rw[zW h] at e
  exact⟨Wt,M,c,fun x hx=>hx,h,(zaW e).trans rfl⟩
 ·rw[zU h] at e
  refine⟨Wt++[o],M++[o],c.add h hr,fun x hx=>mem_append_left _ hx,mem_append_right _ (zZ ..),?_⟩;rw[zbk e];show exSs true F [.setIdx (.v 3) (.v 8) (.bool true),.expr (.append (.v 4) (.v 8))] _ _=_;rw[zcV (o:=.v 3) (i:=.v 8) (t:=o) (v:=.bool true) rfl rfl rfl (zoM M Wt) (by rw[zb0];exact hM),dput_new h,show dk tt M++[(V.tw o,V.bool true)]=dk tt (M++[o]) from(zfk tt M o).symm,zqE,zaD (zbz (o:=.v 4) (a:=.v 8) (y:=V.tw o) rfl (zoL (M++[o]) Wt) rfl (by rw[tups_len];exact hW)),zcB,zl0];rfl
end
section
variable {n b d:Nat}{h g:H}{F:Fn}{ρ:List V}{K:List (List Nat)}{r:List Nat→Nat}{C:List Nat→List Nat}{L:List (List Nat)}{s:List Nat}
theorem Cm.inU (c:Cm L s D Wt M):M.length≤L.length+1∧(D++Wt).length≤L.length+1:=by
 have h1:∀ x∈M,x∈s::L.map suf:=fun x hx=>by
  cases c.rch x hx with
  |base=>exact zZ ..
  |step hw _=>exact zY _ (yQ.2 ⟨_,hw,rfl⟩)
 have e:(s::L.map suf).length=L.length+1:=congrArg (·+1) (zJ ..);rw[←e];exact⟨within c.nd h1,within c.nd2 fun x hx=>h1 x ((c.mem x).2 (zP.1 hx))⟩
theorem zox (ht:t ∉ D):cP L (D++[t])=cP L D+outs L t:=by
 have e:cP L (D++[t])=cP L (t::D):=congrArg List.length (List.filter_congr fun w z=>decide_eq_decide.2 (by rw[zP,zK,zN,or_comm]))
 rw[e,Nat.add_comm];exact zjX (f:=pre) ht L
noncomputable def zgc:List PS:=[
  .asg 6 (.pop (.v 4)),
  .asg 5 (.bin .add (.v 5) (.bf .len (.get (.v 0) (.v 6) (.list [])))),
  .for1 7 (.seq (.get (.v 0) (.v 6) (.list []))) goBody]
inductive InvG (L:List (List Nat)) (s:List Nat) (g:H) (d:Nat) (many:Int) (k:Nat):List V→H→Prop
 |mk (D Wt M:List (List Nat)) (he sg ot:V) (c:Cm L s D Wt M) (hc:∀ w∈L,pre w∈D→suf w∈M) (hm:s∈M) (hk:D.length+k=L.length+1):InvG L s g d many k (Eg d g.length (V.tw s) many (cP L D:Nat) he sg ot) (HC g M Wt)
inductive EndG (L:List (List Nat)) (s:List Nat) (g:H) (d:Nat) (many:Int):List V→H→Prop
 |mk (D M:List (List Nat)) (he sg ot:V) (c:Cm L s D [] M) (hc:∀ w∈L,pre w∈D→suf w∈M) (hm:s∈M):EndG L s g d many (Eg d g.length (V.tw s) many (cP L D:Nat) he sg ot) (HC g M [])
inductive InvH (L:List (List Nat)) (s:List Nat) (g:H) (d:Nat) (many:Int) (D:List (List Nat)) (t:List Nat) (M:List (List Nat)) (q:List Nat):List V→H→Prop
 |mk (Wt' M':List (List Nat)) (sg ot:V) (c:Cm L s (D++[t]) Wt' M') (hM:∀ x∈M,x∈M') (hq:∀ a∈q,suf (t++[a])∈M'):InvH L s g d many D t M q (Eg d g.length (V.tw s) many (cP L (D++[t]):Nat) (V.tw t) sg ot) (HC g M' Wt')
theorem zlo (f:Lf b g d K r C L) (hL:L.Nodup) (h0:∀ w∈L,0 < w.length) (h9:∀ w∈L,w.length≤9) (hs:s.length≤9) (hn:L.length≤900){many:Int}{D Wt M:List (List Nat)}{t:List Nat}{he sg ot:V}(c:Cm L s D (Wt++[t]) M) (hc:∀ w∈L,pre w∈D→suf w∈M) (hm:s∈M){k:Nat}(hk:D.length+k=L.length+1) :
  ∃ k' ρ' g',k'+1=k∧exSs true F zgc (Eg d g.length (V.tw s) many (cP L D:Nat) he sg ot) (HC g M (Wt++[t]))=.ok .next ρ' g'∧InvG L s g d many k' ρ' g':=by
 have c1:=c.take;have htM:t∈M:=(c.mem t).2 (.inr (mem_append_right _ (zZ ..)));have htD:t ∉ D:=fun q=>(List.nodup_append.1 c.nd2).2.2 t q t (mem_append_right _ (zZ ..)) rfl;have ht9:t.length≤9:=by
  cases c.rch t htM with
  |base=>exact hs
  |step hw _=>rw[zfI];exact zX (Nat.sub_le ..) (h9 _ hw)
 have hU:=c.inU.2;rw[zQ,zQ] at hU;have pe:evE true F (Eg d g.length (V.tw s) many (cP L D:Nat) he sg ot) (.pop (.v 4)) (HC g M (Wt++[t]))=.ok (V.tw t) (HC g M Wt):=by
  rw[zgI (o:=.v 4) (vs:=tups Wt) (y:=V.tw t) rfl (by rw[zcB];exact zoL _ _) (by
   rw[tups_len];exact zX (zX (Nat.le_succ _) (zX (Nat.le_add_left ..) hU)) (zX (Nat.succ_le_succ hn) (by decide))),zl0]
 obtain⟨v,w,hv,hw,hg⟩:=f.get t [.dict (dk tt M),.list (tups Wt)];have wl:(C t).length=outs L t:=zma f.nd f.mem hL h0 t;have ew:evE true F (Eg d g.length (V.tw s) many (cP L D:Nat) (V.tw t) sg ot) (.bin .add (.v 5) (.bf .len (.get (.v 0) (.v 6) (.list [])))) (HC g M Wt)=.ok (.int (cP L (D++[t]):Nat)) (HC g M Wt):=by
  refine(zb5 (x:=(cP L D:Nat)) rfl (zaO (hg F _ (.v 0) (.v 6) rfl rfl) hv)).trans ?_;rw[nats_length,wl,zox htD,Int.natCast_add];rfl
 have ie:evIt true F (Eg d g.length (V.tw s) many (cP L (D++[t]):Nat) (V.tw t) sg ot) (.seq (.get (.v 0) (.v 6) (.list []))) (HC g M Wt)=.ok ((C t).map fun s:Nat=>V.int s,w) (HC g M Wt):=by
  rw[i_seq,show evE true F (Eg d g.length (V.tw s) many (cP L (D++[t]):Nat) (V.tw t) sg ot) (.get (.v 0) (.v 6) (.list [])) (HC g M Wt)=.ok v (HC g M Wt) from hg F _ (.v 0) (.v 6) rfl rfl,R.bind_ok,show iterOf (HC g M Wt) v=_ from(hw _).1];rfl
 obtain⟨ρ',g',e,⟨Wt',M',sg',ot',c',hM',hq⟩⟩:=zaE (F:=F) (x:=7) (body:=goBody) (InvH L s g d many D t M) ie (fun q ρ g' I=>by
   obtain⟨Wt',M',sg',ot',_⟩:=I;exact(hw _).2) ⟨Wt,M,sg,ot,c1,fun x hx=>hx,fun z h=>nomatch h⟩ (fun q a q' ρ g' hp I=>by
   obtain⟨Wt',M',sg',ot',c',hM',hq⟩:=I;have ha:a∈C t:=by rw[hp];exact mem_append_right _ (zZ ..)
   have hl:=c'.inU;rw[zQ] at hl;have h1000:L.length+1≤1000:=zX (Nat.succ_le_succ hn) (by decide)
   obtain⟨Wt2,M2,c2,h2,h3,e2⟩:=zpY (F:=F) (d:=d) (g:=g) (t:=t) (sg:=a) (sv:=V.tw s) (ov:=ot') (many:=many) (words:=(cP L (D++[t]):Nat)) c' (.step ((f.mem t a).1 ha) (by rw[zdQ];exact c.rch t htM)) (zX ht9 (by decide)) (zX hl.1 h1000) (zX (zX (Nat.le_add_left ..) hl.2) h1000)
   refine⟨_,_,e2,Wt2,M2,_,_,c2,fun x hx=>h2 x (hM' x hx),fun y hy=>?_⟩
   rcases zP.1 hy with hy|hy
   ·exact h2 _ (hq y hy)
   ·rw[zK.1 hy];exact h3)
 have hk1:1≤k:=Nat.le_of_add_le_add_left (a:=D.length) (by rw[hk];exact zX (Nat.add_le_add_left (Nat.le_add_left 1 Wt.length) _) hU)
 refine⟨k - 1,_,_,Nat.sub_add_cancel hk1,?_,D++[t],Wt',M',V.tw t,sg',ot',c',fun w hw hp=>?_,hM' s hm,?_⟩
 ·unfold zgc
  rw[zap pe];show exSs true F _ (Eg d g.length (V.tw s) many (cP L D:Nat) (V.tw t) sg ot) _=_;rw[zap ew,ss_cons'];show(exS true F _ (Eg d g.length (V.tw s) many (cP L (D++[t]):Nat) (V.tw t) sg ot) _).then _=_;rw[e];rfl
 ·rcases zP.1 hp with hp|hp
  ·exact hM' _ (hc w hw hp)
  ·have e1:=zK.1 hp
   have e2:=zbA (h0 w hw);rw[e1] at e2;rw[←e2];exact hq _ ((f.mem t _).2 (by rw[e2];exact hw))
 ·rw[zQ]
  show D.length+1+(k - 1)=_;rw[Nat.add_assoc,Nat.add_comm 1,Nat.sub_add_cancel hk1];exact hk
theorem zqq:cP L M=L.length↔∀ w∈L,pre w∈M:=by
 unfold cP;rw[List.length_filter_eq_length_iff];exact⟨fun h w hw=>zV (h w hw),fun h w hw=>zW (h w hw)⟩
theorem zpX (f:Lf b g d K r C L) (hL:L.Nodup) (h0:∀ w∈L,0 < w.length) (h9:∀ w∈L,w.length≤9) (hs:s.length≤9) (hn:L.length≤900):∃ v:Bool,pcall g (run PP (n+1) true "goes_on" [.ref d,V.tw s,.int (L.length:Nat)] g)=.ok (.bool v) g∧(v=true↔AllR L s):=by
 have t0:=zdJ (q:=true) (F:=run PP n) (ρ:=[.ref d,V.tw s,.int (L.length:Nat),.uu,.uu,.uu,.uu,.uu,.uu]) (h:=g) (a:=.v 2) (b:=.int 0) (x:=(L.length:Nat)) (y:=0) rfl rfl
 by_cases he:L.length=0
 ·rw[he] at t0
  refine⟨true,?_,fun z=>?_,fun z=>rfl⟩
  ·rw[he,start zeS rfl (ρ:=[.ref d,V.tw s,.int ((0:Nat):Int),.uu,.uu,.uu,.uu,.uu,.uu]) rfl (zej t0 (zaA rfl)),pcall_bool]
  ·rw[eq_nil_of_length_eq_zero he];exact fun z h=>nomatch h
 ·rw[zU fun q=>he (Int.natCast_eq_zero.1 q)] at t0
  have i0:InvG L s g d (L.length:Nat) (L.length+1) (Eg d g.length (V.tw s) (L.length:Nat) ((0:Nat):Int) .uu .uu .uu) (HC g [s] [s]):=by
   have i:=InvG.mk (L:=L) (s:=s) (g:=g) (d:=d) (many:=(L.length:Nat)) (k:=L.length+1) [] [s] [s] .uu .uu .uu Cm.one (fun z z h=>(nomatch h)) (zZ ..) (Nat.zero_add _);rw[show cP L []=0 from by unfold cP;rw[List.filter_eq_nil_iff.2 fun w z=>by simp];rfl] at i
   exact i
  obtain⟨ρ',g',e,⟨D,M,h1,h2,h3,c,hc,hm⟩⟩:=zgC (F:=run PP n) (t:=.cmp .gt (.bf .len (.v 4)) (.int 0)) (body:=zgc) (ρ:=Eg d g.length (V.tw s) (L.length:Nat) ((0:Nat):Int) .uu .uu .uu) (h:=HC g [s] [s]) (InvG L s g d (L.length:Nat)) (EndG L s g d (L.length:Nat)) (L.length+1) (zgM (zX (Nat.succ_le_succ hn) (by decide)))
   i0 (fun k ρ g' I=>by
    obtain⟨D,Wt,M,he,sg,ot,c,hc,hm,hk⟩:=I;have t:=zmt (F:=run PP n) (ρ:=Eg d g.length (V.tw s) (L.length:Nat) (cP L D:Nat) he sg ot) (a:=.v 4) (v:=.ref (g.length+1)) rfl (zab (zoL M Wt));rw[tups_len] at t
    rcases List.eq_nil_or_concat Wt with rfl|⟨Wt0,t0,rfl⟩
    ·exact .inl ⟨t,D,M,he,sg,ot,c,hc,hm⟩
    ·rw[List.concat_eq_append] at *
     rw[zW (by rw[zQ];exact Nat.succ_pos _)] at t
     exact .inr ⟨t,zlo f hL h0 h9 hs hn c hc hm hk⟩)
  have mD:∀ x,x∈M↔x∈D:=fun x=>(c.mem x).trans ⟨fun q=>q.resolve_right fun h=>(nomatch h),.inl⟩;have mr:∀ x,x∈D↔Rch L s x:=fun x=>⟨fun q=>c.rch x ((mD x).2 q),fun q=>by
   induction q with
   |base=>exact(mD s).1 hm
   |step hw _ ih=>exact(mD _).1 (hc _ hw ih)⟩
  refine⟨decide (((cP L D:Nat):Int)=(L.length:Nat)),?_,?_⟩
  ·rw[start zeS rfl (ρ:=[.ref d,V.tw s,.int (L.length:Nat),.uu,.uu,.uu,.uu,.uu,.uu]) rfl (zbH t0 (zai (v:=.ref g.length) (h':=g++[.dict (dk tt [s])]) ?_ (ρ':=[.ref d,V.tw s,.int (L.length:Nat),.ref g.length,.uu,.uu,.uu,.uu,.uu]) rfl (zai (v:=.ref (g.length+1)) (h':=HC g [s] [s]) ?_ (ρ':=[.ref d,V.tw s,.int (L.length:Nat),.ref g.length,.ref (g.length+1),.uu,.uu,.uu,.uu]) rfl (zai (v:=.int ((0:Nat):Int)) (h':=HC g [s] [s]) rfl (ρ':=Eg d g.length (V.tw s) (L.length:Nat) ((0:Nat):Int) .uu .uu .uu) rfl (zaB e (zaA (zdJ (x:=(cP L D:Nat)) (y:=(L.length:Nat)) rfl rfl)))))))]
   ·exact zc9 g [.dict (dk tt M),.list (tups [])] rfl
   ·exact zg0 rfl
   ·have e2:evE true (run PP n) [.ref d,V.tw s,.int (L.length:Nat),.ref g.length,.uu,.uu,.uu,.uu,.uu] (.list [.v 1]) (g++[.dict (dk tt [s])])=.ok (.l (tups [s])) (g++[.dict (dk tt [s])]):=rfl
    rw[zcu e2];unfold HC;rw[zQ,yJ];rfl
  ·rw[decide_eq_true_eq,Int.natCast_inj,zqq]
   exact⟨fun q w hw=>(mr _).1 (q w hw),fun q w hw=>(mr _).2 (q w hw)⟩
end
noncomputable def nlt (a b:Nat):Bool:=decide (a < b)
noncomputable def srtN (l:List Nat):List Nat:=isort nlt l
theorem zm8 (l:List Nat):(srtN l).Pairwise (·≤·):=zeC (lt:=nlt) (le:=(·≤·)) (fun a b e=>Nat.le_of_lt (zV e)) (fun a b e=>Nat.le_of_not_lt (of_decide_eq_false e)) (fun a b c h1 h2=>zX h1 h2) l
theorem zcW (l:List Nat):(srtN l).Perm l:=za2 l
theorem zfL (h:H) (l:List Nat) (h64:l.length < 64):sortVs h (V.nats l)=some (V.nats (srtN l)):=by
 have e1:keyed keyI (V.nats l)=some (l.map fun d:Nat=>((d:Int),V.nat d)):=zbW (f:=keyI) V.nat (fun d:Nat=>(d:Int)) l fun z z=>rfl;have e:isort (fun a b:Int × V=>decide (a.1 < b.1)) (l.map fun d:Nat=>((d:Int),V.nat d))=(srtN l).map fun d:Nat=>((d:Int),V.nat d):=zff (lt:=nlt) (fun d:Nat=>((d:Int),V.nat d)) (fun a b=>decide_eq_decide.2 Int.ofNat_lt) l;unfold sortVs;rw[e1];show sortBy _ _=_;unfold sortBy
 rw[zT,e,map_map];rfl
 rw[Bool.and_eq_true];refine⟨zW (by rw[zJ];exact h64),?_⟩
 rw[all_eq_true];intro p hp;rw[all_eq_true];intro q hq;obtain⟨a,_,rfl⟩:=yQ.1 hp;obtain⟨b,_,rfl⟩:=yQ.1 hq;exact zW fun e=>congrArg V.int e
theorem zkJ {l:List Nat}{a:Nat}(h:a∈l):rmvI (.int a) (V.nats l)=some (.none,V.nats (l.erase a)):=by
 have e1:(zi l).findIdx? (fun i=>i == (a:Int))=l.idxOf? a:=by
  unfold zi;rw[List.findIdx?_map];unfold List.idxOf?
  congr 1
  funext i
  exact Bool.eq_iff_iff.2 ⟨fun q=>beq_iff_eq.2 (Int.natCast_inj.1 (eq_of_beq q)),fun q=>beq_iff_eq.2 (congrArg _ (eq_of_beq q))⟩
 have e2:=List.erase_eq_eraseIdx l a;show((asInts (V.nats l)).bind fun l'=>(l'.findIdx? fun i=>i == (a:Int)).map fun j=>(V.none,(V.nats l).eraseIdx j))=_;rw[zaR,Option.bind_some,e1]
 cases hi:l.idxOf? a with
 |none=>exact absurd h (List.idxOf?_eq_none_iff.1 hi)
 |some j =>
  rw[hi] at e2;rw[e2];show some (V.none,(List.map V.nat l).eraseIdx j)=some (V.none,List.map V.nat (l.eraseIdx j));rw[List.eraseIdx_eq_take_drop_succ,List.eraseIdx_eq_take_drop_succ,map_append,map_take,map_drop]
section
variable {n b d:Nat}{h g:H}{F:Fn}{ρ:List V}{K:List (List Nat)}{r:List Nat→Nat}{C:List Nat→List Nat}{L:List (List Nat)}{j:List Nat}{a:Nat}
theorem zkr (C:List Nat→List Nat) (j:List Nat) (l:List Nat):(fun i=>if i=j then V.nats l else V.nats (C i))=fun i=>V.nats ((fun i=>if i=j then l else C i) i):=by
 funext i
 by_cases e:i=j
 ·rw[zT e];show _=V.nats (if i=j then l else C i);rw[zT e]
 ·rw[zR e];show _=V.nats (if i=j then l else C i);rw[zR e]
theorem Lf.put (f:Lf b g d K r C L) (hj:j∈K) (nd:l.Nodup) (m1:∀ s,s∈l↔j++[s]∈L') (m2:∀ i s,i≠j→(i++[s]∈L↔i++[s]∈L')):Lf b (g.set (r j) (.list (V.nats l))) d K r (fun i=>if i=j then l else C i) L':=by
 refine⟨by rw[←zkr];exact f.W.push hj (V.nats l),fun i=>?_,fun i s=>?_,fun i hi=>?_⟩
 ·by_cases e:i=j
  ·rw[zT e];exact nd
  ·rw[zR e];exact f.nd i
 ·by_cases e:i=j
  ·rw[zT e,e];exact m1 s
  ·rw[zR e];exact(f.mem i s).trans (m2 i s e)
 ·rw[zR fun(e:i=j)=>hi (e ▸ hj)];exact f.inK i hi
theorem Lf.take (f:Lf b g d K r C L) (hL:L.Nodup) (hj:j∈K):Lf b (g.set (r j) (.list (V.nats ((C j).erase a)))) d K r (fun i=>if i=j then(C j).erase a else C i) (L.erase (j++[a])):=by
 refine f.put hj ((f.nd j).erase a) (fun s=>?_) fun i s ne=>?_
 ·rw[(f.nd j).mem_erase_iff,hL.mem_erase_iff,f.mem]
  exact and_congr_left fun z=>not_congr ⟨fun e=>by rw[e],zl3⟩
 ·rw[hL.mem_erase_iff]
  exact⟨fun q=>⟨fun e=>ne (by rw[←zdQ i s,e,zdQ]),q⟩,And.right⟩
theorem setset (g:H) (i:Nat) (a b:Cell):(g.set i a).set i b=g.set i b:=set_set ..
end
section
variable {n b d:Nat}{h g:H}{F:Fn}{ρ:List V}{K:List (List Nat)}{r:List Nat→Nat}{C:List Nat→List Nat}{L:List (List Nat)}{j:List Nat}{a:Nat}
noncomputable abbrev En (d:Nat) (j:List Nat) (many:Int) (w o:V):List V:=[.ref d,V.tw j,.int many,w,o]
noncomputable def nsBody:List PS:=[
  .expr (.remove (.idx (.v 0) (.v 1)) (.v 3)),
  .asg 4 (.rev (.bin .add (.v 1) (.tup [.v 3]))),
  .ifs (.call false "goes_on" [.v 0,.v 4,.bin .sub (.v 2) (.int 1)]) [
   .ret (.v 3)] [],
  .expr (.append (.idx (.v 0) (.v 1)) (.v 3))]
theorem idxW {T:List Nat→List V}(W:Ways b g d K r T) (hj:j∈K) (eo:evE true F ρ o g=.ok (.ref d) g) (ex:evE true F ρ x g=.ok (V.tw j) g):evE true F ρ (.idx o x) g=.ok (.ref (r j)) g:=by
 rw[zee,eo,R.bind_ok,ex,R.bind_ok,zbY (v:=.ref (r j)) W.dc (by rw[zat,zT hj])];rfl
theorem zo9 {o k:PE}{c:Nat}{l:List Nat}(eo:evE true F ρ o g=.ok (.ref c) g) (hc:g[c]?=some (.list (V.nats l))) (ek:evE true F ρ k g=.ok (.int a) g) (ha:a∈l) (hl:l.length≤1000):evE true F ρ (.remove o k) g=.ok .none (g.set c (.list (V.nats (l.erase a)))):=by
 rw[zq3,eo,R.bind_ok,zT (zbV hc),ek,R.bind_ok,za0 hc _ .none (V.nats (l.erase a)) (zkJ ha) (by rw[nats_length];exact zX (length_erase_le ..) (zX hl (by decide)))]
def Keep (K:List (List Nat)) (r:List Nat→Nat) (g g':H):Prop:=g'.length=g.length∧∀ i,(∀ x∈K,i≠r x)→g'[i]?=g[i]?
theorem Keep.set (k:Keep K r g g') (hj:j∈K) (c:Cell):Keep K r g (g'.set (r j) c):=⟨by rw[length_set];exact k.1,fun i hi=>by rw[List.getElem?_set_ne (hi j hj).symm];exact k.2 i hi⟩
theorem zpC (f:Lf b g d K r C L) (hL:L.Nodup) (h0:∀ w∈L,0 < w.length) (h9:∀ w∈L,w.length≤9) (hj:j∈K) (hn:L.length≤900) (hc:(C j).length≤1000) (ha:a∈C j) (o:V) :
  (Good L (j++[a])∧exSs true (run PP (n+1)) nsBody (En d j (L.length:Nat) (.int a) o) g=.ok (.ret (.int a)) (En d j (L.length:Nat) (.int a) (V.tw (suf (j++[a])))) (g.set (r j) (.list (V.nats ((C j).erase a))))) ∨
  ¬ Good L (j++[a])∧exSs true (run PP (n+1)) nsBody (En d j (L.length:Nat) (.int a) o) g=.ok .next (En d j (L.length:Nat) (.int a) (V.tw (suf (j++[a])))) (g.set (r j) (.list (V.nats ((C j).erase a++[a])))):=by
 have hw:=(f.mem j a).1 ha;have hjl:j.length≤8:=by have:=h9 _ hw;rw[zQ] at this;exact Nat.le_of_succ_le_succ this
 have e1:=zo9 (F:=run PP (n+1)) (ρ:=En d j (L.length:Nat) (.int a) o) (k:=.v 3) (idxW f.W hj (o:=.v 0) (x:=.v 1) rfl rfl) (f.W.ls j hj) rfl ha hc;have f1:=f.take (a:=a) hL hj;have hc1:(g.set (r j) (.list (V.nats ((C j).erase a))))[r j]?=some (.list (V.nats ((C j).erase a))):=by rw[List.getElem?_set_self (List.getElem?_eq_some_iff.1 (f.W.ls j hj)).1]
 generalize hg1:g.set (r j) (.list (V.nats ((C j).erase a)))=g1 at e1 f1 hc1;have e2:=zd7 (F:=run PP (n+1)) (ρ:=En d j (L.length:Nat) (.int a) o) (h:=g1) (a:=.v 1) (c:=.v 3) (j:=j) (s:=a) rfl rfl (zX hjl (by decide))
 have nd1:=hL.erase (j++[a]);have sub:∀ w∈L.erase (j++[a]),w∈L:=fun w hw=>mem_of_mem_erase hw;have s9:(suf (j++[a])).length≤9:=by rw[zfI];exact zX (Nat.sub_le ..) (h9 _ hw)
 obtain⟨v,ev,hv⟩:=zpX (n:=n) f1 nd1 (fun w hw=>h0 w (sub w hw)) (fun w hw=>h9 w (sub w hw)) s9 (zX (length_erase_le ..) hn);have em:evE true (run PP (n+1)) (En d j (L.length:Nat) (.int a) (V.tw (suf (j++[a])))) (.bin .sub (.v 2) (.int 1)) g1=.ok (.int ((L.erase (j++[a])).length:Nat)) g1:=by
  refine(zfn (x:=(L.length:Nat)) (y:=1) rfl rfl).trans ?_;rw[length_erase_of_mem hw,Int.ofNat_sub (length_pos_of_mem hw)];rfl
 have ec:=zaV (F:=run PP (n+1)) (ρ:=En d j (L.length:Nat) (.int a) (V.tw (suf (j++[a])))) (h:=g1) (a:=.v 0) (b:=.v 4) (v:=.ref d) (w:=V.tw (suf (j++[a]))) rfl rfl em ev;have go:exSs true (run PP (n+1)) nsBody (En d j (L.length:Nat) (.int a) o) g=exSs true (run PP (n+1)) (nsBody.drop 2) (En d j (L.length:Nat) (.int a) (V.tw (suf (j++[a])))) g1:=by
  unfold nsBody;rw[zaD e1,zap e2];rfl
 rw[go]
 cases v with
 |true=>exact .inl ⟨hv.1 rfl,(zbk ec).trans rfl⟩
 |false =>
  refine .inr ⟨fun q=>absurd (hv.2 q) (by decide),(zaW ec).trans ?_⟩
  show exSs true (run PP (n+1)) [.expr (.append (.idx (.v 0) (.v 1)) (.v 3))] _ _=_;rw[zaD (zbz (y:=.int a) (idxW f1.W hj (o:=.v 0) (x:=.v 1) rfl rfl) hc1 rfl (by rw[nats_length];exact zX (length_erase_le ..) hc)),← hg1,setset,zav];rfl
inductive InvN (b d:Nat) (g:H) (K:List (List Nat)) (r:List Nat→Nat) (L:List (List Nat)) (j:List Nat) (p:List Nat):List V→H→Prop
 |mk (C':List Nat→List Nat) (w o:V) (g':H) (kp:Keep K r g g') (f':Lf b g' d K r C' L) (bad:∀ s∈p,¬ Good L (j++[s])):InvN b d g K r L j p (En d j (L.length:Nat) w o) g'
inductive EndN (b d:Nat) (g:H) (K:List (List Nat)) (r:List Nat→Nat) (L:List (List Nat)) (j:List Nat):V→H→Prop
 |mk (sg:Nat) (C':List Nat→List Nat) (g':H) (kp:Keep K r g g') (f':Lf b g' d K r C' (L.erase (j++[sg]))) (hm:j++[sg]∈L) (gd:Good L (j++[sg])) (le:∀ s,s < sg→j++[s]∈L→¬ Good L (j++[s])):EndN b d g K r L j (.int (sg:Nat)) g'
theorem zk0 (f:Lf b g d K r C L) (hL:L.Nodup) (h0:∀ w∈L,0 < w.length) (h9:∀ w∈L,w.length≤9) (hj:j∈K) (hn:L.length < 64) (ex:∃ e∈L,pre e=j∧Good L e) :
  ∃ sg C' g',run PP (n+2) true "next_sign" [.ref d,V.tw j,.int (L.length:Nat)] g=.ok (.int (sg:Nat)) g'∧Keep K r g g'∧Lf b g' d K r C' (L.erase (j++[sg]))∧j++[sg]∈L∧Good L (j++[sg])∧∀ s,s < sg→j++[s]∈L→¬ Good L (j++[s]):=by
 have cl:∀ {C':List Nat→List Nat}{g':H},Lf b g' d K r C' L→(C' j).length < 64:=fun f'=>by
  rw[zma f'.nd f'.mem hL h0 j];exact Nat.lt_of_le_of_lt (length_filter_le ..) hn
 have ie:evIt true (run PP (n+1)) (En d j (L.length:Nat) .uu .uu) (.seq (.bf .sorted (.idx (.v 0) (.v 1)))) g=.ok ((srtN (C j)).map fun s:Nat=>V.int s,Option.none) g :=
  zbq (zaX (idxW f.W hj (o:=.v 0) (x:=.v 1) rfl rfl) (zbP (zab (f.W.ls j hj))) (zfL g (C j) (cl f)))
 rcases ziC (F:=run PP (n+1)) (x:=3) (body:=nsBody) (InvN b d g K r L j) (fun v z=>EndN b d g K r L j v)
   ie (fun z z z z=>rfl) ⟨C,.uu,.uu,_,⟨rfl,fun z z=>rfl⟩,f,fun z h=>nomatch h⟩ (fun p a q ρ g' hp I=>by
    obtain⟨C',w,o,g',kp,f',bad⟩:=I;have hC:a∈C j:=(zcW _).mem_iff.1 (by rw[hp];exact mem_append_right _ (zZ ..))
    have ha:a∈C' j:=(f'.mem j a).2 ((f.mem j a).1 hC)
    rcases zpC (n:=n) f' hL h0 h9 hj (zX (Nat.le_of_lt hn) (by decide)) (zX (Nat.le_of_lt (cl f')) (by decide)) ha o with⟨gd,e⟩|⟨bd,e⟩
    ·refine .inr ⟨_,_,_,e,a,_,_,kp.set hj _,f'.take hL hj,(f.mem j a).1 hC,gd,fun s hs hm=>?_⟩
     have hs':s∈srtN (C j):=(zcW _).mem_iff.2 ((f.mem j s).2 hm);have up:=zm8 (C j);rw[hp] at hs' up
     rcases zP.1 hs' with hs'|hs'
     ·exact bad s hs'
     ·rcases zN.1 hs' with rfl|hs'
      ·exact absurd hs (Nat.lt_irrefl _)
      ·exact absurd hs (Nat.not_lt.2 ((List.pairwise_cons.1 (List.pairwise_append.1 up).2.1).1 s hs'))
    ·refine .inl ⟨_,_,e,_,_,_,_,kp.set hj _,f'.put hj ?_ (fun s=>?_) fun z z z=>Iff.rfl,fun s hs=>?_⟩
     ·rw[nodup_append]
      exact⟨(f'.nd j).erase a,by simp,fun x hx y hy e=>by rw[e,zK.1 hy] at hx;exact(f'.nd j).not_mem_erase hx⟩
     ·rw[zP,zK,(f'.nd j).mem_erase_iff,← f'.mem]
      exact⟨fun q=>q.elim And.right fun e=>e ▸ ha,fun q=>Classical.byCases (fun e:s=a=>.inr e) fun e=>.inl ⟨e,q⟩⟩
     ·rcases zP.1 hs with hs|hs
      ·exact bad s hs
      ·rw[zK.1 hs];exact bd) with⟨ρ',g',e,⟨C',w,o,g',kp,f',bad⟩⟩|⟨v,ρ',g',e,⟨sg,C',g',r1,r2,r3,r4,r5⟩⟩
 ·obtain⟨x,hx,px,gx⟩:=ex
  have e1:=zbA (h0 x hx);rw[px] at e1;exact absurd (by rw[e1];exact gx) (bad (lst x) ((zcW _).mem_iff.2 ((f.mem j _).2 (by rw[e1];exact hx))))
 ·exact⟨sg,C',g',start zfC rfl (ρ:=En d j (L.length:Nat) .uu .uu) rfl (zgK e),r1,r2,r3,r4,r5⟩
end
noncomputable def sgs (B:List (List Nat)) (j:List Nat):List Nat:=(B.filter fun w=>decide (pre w=j)).map lst
theorem zne (B:List (List Nat)) (w:List Nat):(fun j=>if j=pre w then V.nats (sgs B (pre w)++[lst w]) else V.nats (sgs B j))=fun j=>V.nats (sgs (B++[w]) j):=by
 funext j
 unfold sgs;rw[filter_append,map_append]
 by_cases e:j=pre w
 ·rw[zT e,filter_cons_of_pos (p:=fun w=>decide (pre w=j)) (zW e.symm),e];rfl
 ·rw[zR e,filter_cons_of_neg (p:=fun w=>decide (pre w=j)) (by rw[zU fun q=>e q.symm];exact Bool.false_ne_true)];exact congrArg V.nats (append_nil _).symm
theorem ziA (h:∀ w∈B,pre w≠j):sgs B j=[]:=by
 unfold sgs;rw[List.filter_eq_nil_iff.2];rfl
 intro w hw e;exact h w hw (zV e)
theorem znd (h0:∀ w∈B,0 < w.length) (j:List Nat) (s:Nat):s∈sgs B j↔j++[s]∈B:=by
 unfold sgs;rw[yQ]
 constructor
 ·rintro⟨w,hw,rfl⟩
  obtain⟨h1,h2⟩:=List.mem_filter.1 hw;rw[←zV h2,zbA (h0 w h1)];exact h1
 ·exact fun h=>⟨_,List.mem_filter.2 ⟨h,zW (zdQ j s)⟩,zpH j s⟩
theorem zo3 (hB:B.Nodup) (h0:∀ w∈B,0 < w.length) (j:List Nat):(sgs B j).Nodup:=by
 unfold sgs;rw[List.Nodup,List.pairwise_map];refine(hB.filter _).imp_of_mem fun {a b} ha hb ne e=>ne ?_;obtain⟨a1,a2⟩:=List.mem_filter.1 ha;obtain⟨b1,b2⟩:=List.mem_filter.1 hb;rw[←zbA (h0 a a1),← zbA (h0 b b1),zV a2,zV b2,e]
section
variable {n b d:Nat}{h g:H}{F:Fn}{ρ:List V}
theorem zi9 {a:PE}{v:V}{w:List Nat}(ea:evE true F ρ a h=.ok v h) (hl:IsL h v w) (h0:0 < w.length):evE true F ρ (.idx a (.neg 1)) h=.ok (.int (lst w)) h:=by
 have hl':litems h v=some (V.nats (pre w)++[.int (lst w)]):=by
  have e:V.nats w=V.nats (pre w)++[.int (lst w)]:=by
   conv=>lhs;rw[←zbA h0]
   rw[zav];rfl
  rw[←e];exact hl
 generalize V.nats (pre w)=vs at hl';generalize lst w=l at hl' ⊢
 have hp:(place (vs++[V.int l]).length (-1)).bind (fun j=>(vs++[V.int l])[j]?)=some (.int l):=by
  unfold place;rw[zR (by decide),zQ,show(-1:Int)+((vs.length+[V.int (l:Int)].length:Nat):Int)=vs.length from zdd _,zT (Int.natCast_nonneg _)]
  show(vs++[V.int l])[((vs.length:Nat):Int).toNat]?=_;rw[Int.toNat_natCast,List.getElem?_append_right (Nat.le_refl _),Nat.sub_self];rfl
 rw[zee,ea,R.bind_ok];show R.opt (pyIdx h v (.int (-1))) h=_
 rcases zaa hl' with rfl|⟨i,rfl,hc⟩
 ·show R.opt ((place (vs++[V.int l]).length (-1)).bind fun j=>(vs++[V.int l])[j]?) h=_
  rw[hp];rfl
 ·unfold pyIdx
  dsimp only;rw[hc];dsimp only;rw[hp];rfl
noncomputable abbrev Er (S Z:V) (bv left word first joint found many sign:V):List V:=[S,Z,bv,left,word,first,joint,found,many,sign]
noncomputable def lfBody:List PS:=[
  .expr (.append (.setdef (.v 3) (.bf .tuple (.slice (.v 4) .none (some (.neg 1)))) (.own (.list []))) (.idx (.v 4) (.neg 1)))]
inductive InvF (h:H) (S Z bv:V) (B:List (List Nat)):List V→H→Prop
 |mk (K:List (List Nat)) (r:List Nat→Nat) (w:V) (g:H) (x:Ext h g) (W:Ways h.length g h.length K r (fun j=>V.nats (sgs B j))) (hK:∀ j,j∈K↔∃ w∈B,j=pre w) (hl:K.length≤B.length):InvF h S Z bv B (Er S Z bv (.ref h.length) w .uu .uu .uu .uu .uu) g
theorem zk8 (hb:HB h bv L) (hL:L.length≤400) (nd:(L.map (·.2)).Nodup) (h0:∀ w∈L.map (·.2),0 < w.length):∃ g K r w,exS true F (.for1 4 (.seq (.v 2)) lfBody) (Er S Z bv (.ref h.length) .uu .uu .uu .uu .uu .uu) (h++[.dict []])=.ok .next (Er S Z bv (.ref h.length) w .uu .uu .uu .uu .uu) g∧Ext h g∧Lf h.length g h.length K r (sgs (L.map (·.2))) (L.map (·.2))∧∀ w∈L.map (·.2),pre w∈K:=by
 have hv:=(zbC hb.it).val;obtain⟨t,ht⟩:=zeB hb.it;have e0:Ext h (h++[Cell.dict []]):=(Ext.refl h).app _;obtain⟨ρ',g',e,⟨K,r,w,g',x,W,hK,_⟩⟩:=zaE (F:=F) (h:=h++[.dict []]) (x:=4) (it:=.seq (.v 2)) (body:=lfBody) (ρ:=Er S Z bv (.ref h.length) .uu .uu .uu .uu .uu .uu) (t:=t) (l:=L) (c:=(·.1)) (h':=h++[.dict []])
  (fun p=>InvF h S Z bv (p.map (·.2))) (by rw[i_seq,zao (v:=bv) rfl hv,R.bind_ok,(ht _).1];rfl) (fun p ρ g I=>by
   obtain⟨_,_,_,_,e,_⟩:=I;exact(e.W ht).2) ⟨[],fun z=>0,.uu,_,e0,⟨zah _ _,fun z h=>(nomatch h),.nil,fun z h=>(nomatch h),fun z h=>(nomatch h)⟩,fun j=>⟨fun h=>(nomatch h),fun⟨_,h,_⟩=>(nomatch h)⟩,Nat.zero_le _⟩ (fun p a q ρ g hp I=>by
   obtain⟨K,r,w,g,x,W,hK,hl⟩:=I;rw[zJ] at hl;have ha:a∈L:=by rw[hp];exact mem_append_right _ (zZ ..)
   have ia:=x.L (hb.wd a ha);have a0:0 < a.2.length:=h0 a.2 (yQ.2 ⟨a,ha,rfl⟩);have hpl:p.length≤400:=by rw[hp,zQ] at hL;exact zX (Nat.le_add_right ..) hL
   obtain⟨g1,r1,W1,b1,x1,v1⟩:=W.touch (pre a.2) x.len (zX hl (zX hpl (by decide))) (fun q=>congrArg V.nats (ziA fun w hw e=>q ((hK _).2 ⟨w,hw,e.symm⟩))) (Nat.le_refl _)
   have e1:=x1 h (Nat.le_refl _) x;have mj:pre a.2∈touch K (pre a.2):=zaN.2 (.inr rfl);have W2:=W1.push mj (V.nats (sgs (p.map (·.2)) (pre a.2)++[lst a.2]));rw[zne] at W2;have ia1:=e1.L (hb.wd a ha);have s1:=zbz (F:=F) (v1 F (Er S Z bv (.ref h.length) a.1 .uu .uu .uu .uu .uu) (.v 3) _ rfl (zbB (zc1 (a:=.v 4) (zao (v:=a.1) rfl ia.val) ia) (IsL.lst _ _))) (W1.ls _ mj) (zi9 (a:=.v 4) (zao (v:=a.1) rfl ia1.val) ia1 a0) (by
    rw[nats_length];unfold sgs;rw[zJ];exact zX (length_filter_le ..) (by rw[zJ];exact zX hpl (by decide)))
   refine⟨Er S Z bv (.ref h.length) a.1 .uu .uu .uu .uu .uu,g1.set (r1 (pre a.2)) (.list (V.nats (sgs (p.map (·.2)) (pre a.2)++[lst a.2]))),?_,touch K (pre a.2),r1,a.1,_,e1.set (W1.lo _ mj) _,?_,fun j=>?_,?_⟩
   ·show exSs true F lfBody (Er S Z bv (.ref h.length) a.1 .uu .uu .uu .uu .uu) g=_
    unfold lfBody;rw[zaD s1,zav];rfl
   ·rw[map_append];exact W2
   ·rw[zaN,hK,map_append]
    constructor
    ·rintro(⟨w,hw,e⟩|e)
     ·exact⟨w,mem_append_left _ hw,e⟩
     ·exact⟨a.2,mem_append_right _ (zZ ..),e⟩
    ·rintro⟨w,hw,e⟩
     rcases zP.1 hw with hw|hw
     ·exact .inl ⟨w,hw,e⟩
     ·rw[zK.1 hw] at e;exact .inr e
   ·rw[zJ,zQ];exact zX (zbN ..) (Nat.succ_le_succ hl))
 refine⟨g',K,r,w,e,x,⟨W,zo3 nd h0,znd h0,fun j hj=>ziA fun w hw e=>hj ((hK j).2 ⟨w,hw,e.symm⟩)⟩,fun w hw=>(hK _).2 ⟨w,hw,rfl⟩⟩
end
noncomputable def hd (w:List Nat):Nat:=w.getD 0 0
section
variable {n b d:Nat}{h g:H}{F:Fn}{ρ:List V}{B:List (List Nat)}
theorem zjt (hb:b≤c) (hc:g[c]?=some (.list X)) (hp:V.plains X=true):frz b g (.tup [.str s,.ref c])=some (.tup [.str s,.l X]):=by
 have:V.mapRef (frzAt 4 b g) (.ref c)=some (.l X):=by
  show frzAt 4 b g c=_;rw[zbK,zR (Nat.not_lt.2 hb),hc];show Option.map _ (V.mapRefs _ X)=_;rw[zam _ _ hp];rfl
 show(V.mapRefs _ [.str s,.ref c]).map V.tup=_;show((V.mapRef _ (.str _)).bind fun v'=>((V.mapRef _ (.ref c)).bind fun w'=>(V.mapRefs _ []).map (w'::·)).map (v'::·)).map V.tup=_;rw[this];rfl
theorem zbS (e:Ext h g) (hf:frz h.length g v=some w):pcall h (.ok v g)=.ok w h:=by
 show(if g.take h.length=h then R.opt (frz h.length g v) h else .bad)=_;rw[zT (show g.take h.length=h from e),hf];rfl
theorem zoE {M J:List (List Nat)}(hM:M.Nodup) (hs:∀ x∈M,x∈J) (hl:¬ M.length < J.length):∀ x∈J,x∈M:=fun x hx=>Classical.byContradiction fun q=>hl (by
 have:=within (b:=J.erase x) hM fun y hy=>(mem_erase_of_ne (a:=y) (b:=x) fun e=>q (e ▸ hy)).2 (hs y hy);rw[length_erase_of_mem hx] at this;exact Nat.lt_of_le_of_lt this (Nat.sub_lt (length_pos_of_mem hx) Nat.one_pos))
def Fine (B:List (List Nat)) (m:List Nat):Prop:=Least B m∧Bal B (pre m) (pre m)∧AllR B (pre m)
def Whole (B:List (List Nat)):Prop:=(∀ j,isJ B j→ins B j=outs B j)∧∃ m,Least B m∧AllR B (pre m)
theorem Fine.whole (f:Fine B m):Whole B:=⟨fun j z=>(Nat.add_right_cancel (f.2.1 j)).symm,m,f.1,f.2.2⟩
theorem zmo {bv:V}{L:List (V × List Nat)}(hb:HB h bv L) (jb:JB (L.map (·.2))):(∃ m,Fine (L.map (·.2)) m∧pcall h (run PP (n+2) true "lack_of" [bv] h)=.ok .none h)∨¬ Whole (L.map (·.2))∧∃ a c,pcall h (run PP (n+2) true "lack_of" [bv] h)=.ok (.tup [a,c]) h:=by
 obtain⟨v,g',e,x,l⟩:=zlb (n:=n) hb jb;rw[e];generalize L.map (·.2)=B at *
 cases l with
 |uneven c j p q e lo at' js ev ne=>subst e;exact .inr ⟨fun W=>ne (W.1 j (zd2.1 (by rw[js];exact mem_append_right _ (zZ ..)))),_,_,zbS x (zjt lo at' (za9 _))⟩
 |apart c m M e lo at' ev le nd mem lt=>subst e;exact .inr ⟨fun W=>by
  obtain⟨_,m',le',all⟩:=W;rw[le'.eq le] at all;refine Nat.not_lt.2 (within (zlZ B) fun y hy=>(mem y).2 ?_) lt;obtain⟨w,hw,rfl|rfl⟩:=zd2.1 hy
  ·exact all w hw
  ·exact .step hw (all w hw),_,_,zbS x (zjt lo at' (lists_plains _))⟩
 |fine m M e ev le nd mem ge =>
  subst e;refine .inl ⟨m,⟨le,fun y=>?_,fun w hw=>?_⟩,zbS x rfl⟩
  ·have:outs B y=ins B y:=by
    by_cases hy:isJ B y
    ·exact(ev y (zd2.2 hy)).symm
    ·unfold outs ins
     rw[List.filter_eq_nil_iff.2 fun w hw e=>hy ⟨w,hw,.inl (zV e).symm⟩,List.filter_eq_nil_iff.2 fun w hw e=>hy ⟨w,hw,.inr (zV e).symm⟩]
   rw[this]
  ·exact(mem _).1 (zoE nd (fun y hy=>zd2.2 (((mem y).1 hy).isJ ⟨m,le.1,.inl rfl⟩)) ge _ (zd2.2 ⟨w,hw,.inl rfl⟩))
theorem Lf.app {r:List Nat→Nat}{C:List Nat→List Nat}(f:Lf b g d K r C L) (k:H):Lf b (g++k) d K r C L:=⟨f.W.app k,f.nd,f.mem,f.inK⟩
theorem Ext.keep {r:List Nat→Nat}(e:Ext h g) (k:Keep K r g g') (lo:∀ x∈K,h.length≤r x):Ext h g':=by
 unfold Ext at *
 rw[←e];have hl:h.length≤g.length:=Ext.len e;have e':(List.take h.length g).length=h.length:=by rw[length_take,Nat.min_eq_left hl]
 rw[e'];refine List.ext_getElem? fun i=>?_
 by_cases hi:i < h.length
 ·rw[List.getElem?_take_of_lt hi,List.getElem?_take_of_lt hi,k.2 i fun x hx q=>absurd (lo x hx) (Nat.not_le.2 (q ▸ hi))]
 ·rw[List.getElem?_eq_none (by rw[length_take,k.1,Nat.min_eq_left hl];exact Nat.le_of_not_lt hi),List.getElem?_eq_none (by rw[e'];exact Nat.le_of_not_lt hi)]
theorem zcI {a:PE}{v:V}{b:Bool}(ea:evE true F ρ a h=.ok v h) (e:pyIs v .none=some b):evE true F ρ (.cmp .isNot a .none) h=.ok (.bool (!b)) h:=by
 rw[zbQ,ea,R.bind_ok];show R.opt (((pyIs v .none).map (!·)).map V.bool) h=_;rw[e];rfl
theorem zpW (h0:0 < w.length):(V.nats w)[0]?=some (.int (hd w)):=zk5 (by
 unfold hd;rw[List.getD_eq_getElem?_getD,zM h0];rfl)
noncomputable def rgBody:List PS:=[
  .asg 9 (.call true "next_sign" [.v 3,.v 6,.v 8]),
  .expr (.append (.v 7) (.idx (.bin .add (.v 6) (.tup [.v 9])) (.int 0))),
  .asg 6 (.rev (.bin .add (.v 6) (.tup [.v 9])))]
structure St10 (h:H) (B:List (List Nat)) (m:List Nat) (c:Nat) (es L:List (List Nat)) (j:List Nat) (g:H):Prop where
 ext:Ext h g
 lf:∃ K r C,Lf h.length g h.length K r C L∧(∀ w∈L,pre w∈K)∧∀ x∈K,c≠r x
 fc:g[c]?=some (.list (V.nats (es.map hd)))
 tr:(es++L).Perm B
 bal:Bal L j (pre m)
 all:AllR L j
theorem znm {m j:List Nat}{c:Nat}{es L:List (List Nat)}{S Z bv wd fi sg:V}(nd:L.Nodup) (h0:∀ w∈L,0 < w.length) (h9:∀ w∈L,w.length≤9) (hn:L.length < 64) (he:es.length≤900) (hc:h.length≤c) (hL:L≠[]) (s:St10 h B m c es L j g) :
  ∃ e sg' g',e∈L∧St10 h B m c (es++[e]) (L.erase e) (suf e) g'∧exSs true (run PP (n+2)) rgBody (Er S Z bv (.ref h.length) wd fi (V.tw j) (.ref c) (.int (L.length:Nat)) sg) g=.ok .next (Er S Z bv (.ref h.length) wd fi (V.tw (suf e)) (.ref c) (.int (L.length:Nat)) sg') g':=by
 obtain⟨K,r,C,f,hK,hr⟩:=s.lf;obtain⟨x,hx,px,gx⟩:=zfh nd s.bal s.all hL;have hj:j∈K:=px ▸ hK x hx;obtain⟨a,C',g1,e1,kp,f1,hw,gd,lst'⟩:=zk0 (n:=n) f nd h0 h9 hj hn ⟨x,hx,px,gx⟩;have hjl:j.length≤8:=by have:=h9 _ hw;rw[zQ] at this;exact Nat.le_of_succ_le_succ this
 have fc1:g1[c]?=some (.list (V.nats (es.map hd))):=by rw[kp.2 c hr];exact s.fc
 have cl:c < g1.length:=(List.getElem?_eq_some_iff.1 fc1).1;have ea:∀ (j':V) (g':H),evEs true (run PP (n+2)) (Er S Z bv (.ref h.length) wd fi (V.tw j) (.ref c) (.int (L.length:Nat)) sg) [.v 3,.v 6,.v 8] g'=.ok [.ref h.length,V.tw j,.int (L.length:Nat)] g':=fun z z=>rfl;have t1:=zik (F:=run PP (n+2)) (ρ:=Er S Z bv (.ref h.length) wd fi (V.tw j) (.ref c) (.int (L.length:Nat)) (.int a)) (h:=g1) (a:=.v 6) (c:=.v 9) (j:=j) (s:=a) rfl rfl (zX hjl (by decide))
 have t2:evE true (run PP (n+2)) (Er S Z bv (.ref h.length) wd fi (V.tw j) (.ref c) (.int (L.length:Nat)) (.int a)) (.idx (.bin .add (.v 6) (.tup [.v 9])) (.int 0)) g1=.ok (.int (hd (j++[a]))) g1:=by
  rw[zee,t1,R.bind_ok,zrK,R.bind_ok,show pyIdx g1 (V.tw (j++[a])) (.int 0)=some (.int (hd (j++[a]))) from zn5 (j:=0) (zpW (by rw[zQ];exact Nat.succ_pos _))];rfl
 have t3:=zbz (F:=run PP (n+2)) (ρ:=Er S Z bv (.ref h.length) wd fi (V.tw j) (.ref c) (.int (L.length:Nat)) (.int a)) (o:=.v 7) rfl fc1 t2 (by rw[nats_length,zJ];exact zX he (by decide))
 have e4:V.nats (es.map hd)++[.int (hd (j++[a]))]=V.nats ((es++[j++[a]]).map hd):=by rw[map_append,zav];rfl
 rw[e4] at t3;have f2:Lf h.length (g1.set c (.list (V.nats ((es++[j++[a]]).map hd)))) h.length K r C' (L.erase (j++[a])):=by
  refine⟨⟨?_,fun i hi=>?_,f1.W.nd,f1.W.inj,f1.W.lo⟩,f1.nd,f1.mem,f1.inK⟩
  ·rw[List.getElem?_set_ne (fun q=>by have:=f1.W.dc;rw[←q,fc1] at this;cases this)];exact f1.W.dc
  ·rw[List.getElem?_set_ne (hr i hi)];exact f1.W.ls i hi
 refine⟨j++[a],.int a,_,hw,⟨(s.ext.keep kp f.W.lo).set hc _,⟨K,r,C',f2,fun w hw=>hK w (mem_of_mem_erase hw),hr⟩,?_,by rw[yJ];exact((List.perm_cons_erase hw).symm.append_left es).trans s.tr,?_,gd⟩,?_⟩
 ·rw[List.getElem?_set_self cl]
 ·exact s.bal.step hw (zdQ j a)
 ·unfold rgBody
  rw[zap (callT (ea (V.tw j) g) e1)];show exSs true (run PP (n+2)) _ (Er S Z bv (.ref h.length) wd fi (V.tw j) (.ref c) (.int (L.length:Nat)) (.int a)) g1=_;rw[zaD t3,zap (zd7 (a:=.v 6) (c:=.v 9) (j:=j) (s:=a) rfl rfl (zX hjl (by decide)))];rfl
end
section
variable {n b d:Nat}{h g:H}{F:Fn}{ρ:List V}
theorem zoo (hx:evE true F ρ x h=.ok (.int (N:Nat)) h) (hN:1≤N) (hm:N≤1000):evIt true F ρ (.range3 (.bin .sub x (.int 1)) (.int 0) (.neg 1)) h=.ok ((List.range (N - 1)).map fun i:Nat=>V.int (((N - 1:Nat):Int) - (i:Int)),Option.none) h:=by
 have e1:evE true F ρ (.bin .sub x (.int 1)) h=.ok (.int ((N - 1:Nat):Int)) h:=by
  refine(zfn (y:=1) hx rfl).trans ?_;rw[Int.ofNat_sub hN];rfl
 rw[zrG,e1,R.bind_ok];show(if -1000000≤((N - 1:Nat):Int)∧((N - 1:Nat):Int)≤1000000∧-1000000≤(0:Int)∧(0:Int)≤1000000 then rng3 ((N - 1:Nat):Int) 0 (-1) h else .bad)=_;rw[zT ⟨Int.le_trans (by decide) (Int.natCast_nonneg _),Int.ofNat_le.2 (zX (Nat.sub_le ..) (zX hm (by decide))),by decide,by decide⟩]
 show(if(-1:Int)=-1 then R.ok (downTo ((N - 1:Nat):Int) 0,Option.none) h else .bad)=_;rw[zT rfl];unfold downTo;rw[Int.sub_zero,Int.toNat_natCast]
inductive InvR (h:H) (B:List (List Nat)) (m:List Nat) (c:Nat) (S Z bv wv fi:V) (k:Nat):List V→H→Prop
 |mk (es L':List (List Nat)) (j:List Nat) (mv sg:V) (g:H) (st:St10 h B m c es L' j g) (hes:es.length=k+1):InvR h B m c S Z bv wv fi k (Er S Z bv (.ref h.length) wv fi (V.tw j) (.ref c) mv sg) g
theorem zdN {B:List (List Nat)}(nd:B.Nodup){es L':List (List Nat)}(p:(es++L').Perm B):es.length+L'.length=B.length∧L'.Nodup∧∀ x∈L',x∈B:=by
 exact⟨by rw[←zQ,p.length_eq],(List.nodup_append.1 (p.nodup_iff.2 nd)).2.1,fun x hx=>p.mem_iff.1 (mem_append_right _ hx)⟩
theorem ziD {B:List (List Nat)}{m:List Nat}{g1:H}{c:Nat}{S Z bv wv fi:V}{it:PIt}(hm:m∈B) (nd:B.Nodup) (h0:∀ w∈B,0 < w.length) (h9:∀ w∈B,w.length≤9) (hn:B.length < 64) (hc:h.length≤c)
  (ie:evIt true (run PP (n+4)) (Er S Z bv (.ref h.length) wv fi (V.tw (suf m)) (.ref c) .uu .uu) it g1=.ok ((List.range (B.length - 1)).map fun i:Nat=>V.int (((B.length - 1:Nat):Int) - (i:Int)),Option.none) g1) (st0:St10 h B m c [m] (B.erase m) (suf m) g1) :
  ∃ es g' j mv sg,exS true (run PP (n+4)) (.for1 8 it rgBody) (Er S Z bv (.ref h.length) wv fi (V.tw (suf m)) (.ref c) .uu .uu) g1=.ok .next (Er S Z bv (.ref h.length) wv fi (V.tw j) (.ref c) mv sg) g'∧St10 h B m c es [] j g':=by
 obtain⟨ρ',g',e,⟨es,L',j,mv,sg,g',st,hes⟩⟩:=zaE (F:=run PP (n+4)) (x:=8) (body:=rgBody) (fun p=>InvR h B m c S Z bv wv fi p.length) ie (fun z z z z=>rfl) (InvR.mk [m] _ _ _ _ _ st0 rfl) (fun p a q' ρ g hp I=>by
  obtain⟨es,L',j,mv,sg,g,st,hes⟩:=I;obtain⟨rfl,hlt⟩:=range_at hp;obtain⟨n1,n2,n3⟩:=zdN nd st.tr;have hl:L'.length=B.length - 1 - p.length:=by
   rw[←n1,hes,Nat.add_right_comm,Nat.add_sub_cancel,Nat.add_sub_cancel_left]
  have hpos:0 < L'.length:=by rw[hl];exact Nat.sub_pos_of_lt hlt
  obtain⟨e',sg',g',he',st',ex⟩:=znm (n:=n+2) (S:=S) (Z:=Z) (bv:=bv) (wd:=wv) (fi:=fi) (sg:=sg) n2 (fun x hx=>h0 x (n3 x hx)) (fun x hx=>h9 x (n3 x hx)) (Nat.lt_of_le_of_lt (by rw[←n1];exact Nat.le_add_left ..) hn) (zX (by rw[←n1];exact Nat.le_add_right ..) (zX (Nat.le_of_lt hn) (by decide))) hc (fun e=>by rw[e] at hpos;exact absurd hpos (Nat.lt_irrefl 0)) st
  have em:(((B.length - 1:Nat):Int) - (p.length:Int))=(L'.length:Nat):=by rw[hl,Int.ofNat_sub (Nat.le_of_lt hlt)]
  refine⟨_,g',?_,es++[e'],_,_,.int (L'.length:Nat),sg',_,st',by rw[zQ,zQ,hes];rfl⟩
  show exSs true (run PP (n+4)) rgBody (Er S Z bv (.ref h.length) wv fi (V.tw j) (.ref c) (.int (((B.length - 1:Nat):Int) - (p.length:Int))) sg) g=_;rw[em];exact ex)
 rw[length_range] at hes;obtain⟨n1,_,_⟩:=zdN nd st.tr;have hL':L'=[]:=eq_nil_of_length_eq_zero (by
  rw[hes,Nat.sub_add_cancel (length_pos_of_mem hm)] at n1;exact Nat.add_left_cancel (n:=B.length) (k:=0) n1)
 subst hL';exact⟨es,g',j,mv,sg,e,st⟩
theorem zkL (hf:Fit S Z) (hb:HB h bv L) (w:GW S Z (L.map (·.2))) (jb:JB (L.map (·.2))) (hZ:1≤Z∧Z≤8) :
  (∃ (es:List (List Nat)) (g':H) (c:Nat) (m:List Nat),run PP (n+5) true "ring_of" [.int S,.int Z,bv] h=.ok (.ref c) g'∧Ext h g'∧h.length≤c∧g'[c]?=some (.list (V.nats (es.map hd)))∧Fine (L.map (·.2)) m)∨run PP (n+5) true "ring_of" [.int S,.int Z,bv] h=.err "NoRing" h∧¬ Whole (L.map (·.2)):=by
 have hv:=(zbC hb.it).val;have e0:evE true (run PP (n+4)) (Er (.int S) (.int Z) bv .uu .uu .uu .uu .uu .uu .uu) (.call false "need_book" [.v 0,.v 1,.v 2]) h=.ok .none h:=zaV (zao (v:=.int S) rfl trivial) (zao (v:=.int Z) rfl trivial) (zao (v:=bv) rfl hv) (zmf  hf hb w);have hLn:L.length < 64:=by have:=jb.cnt;rw[zJ] at this;exact this
 rcases zmo (n:=n+2) hb jb with⟨m,fi,el⟩|⟨nw,a,c,el⟩
 ·refine .inl ?_
  obtain⟨le,bal,all⟩:=fi;have h0:∀ x∈L.map (·.2),0 < x.length:=fun x hx=>by rw[w.len x hx];exact hZ.1
  have h9:∀ x∈L.map (·.2),x.length≤9:=fun x hx=>by rw[w.len x hx];exact Nat.le_succ_of_le hZ.2
  obtain⟨g,K,r,wv,e2,x2,f,hK⟩:=zk8 (F:=run PP (n+4)) (S:=.int S) (Z:=.int Z) hb (zX (Nat.le_of_lt hLn) (by decide)) w.nodup h0
  have hbg:=x2.B hb;obtain⟨q,hq,em,lq⟩:=zmg (F:=run PP (n+4)) (ρ:=Er (.int S) (.int Z) bv (.ref h.length) wv .uu .uu .uu .uu .uu) (a:=.v 2) (zao rfl hv) hbg (fun e=>w.ne (by rw[e];rfl))
  have hqm:q.2=m:=lq.eq le;have iq:IsL g q.1 m:=hqm ▸ hbg.wd q hq;have m0:=h0 m le.1;have v5:∀ j c mn sg,evE true (run PP (n+4)) (Er (.int S) (.int Z) bv (.ref h.length) wv q.1 j c mn sg) (.v 5) g=.ok q.1 g:=fun j c mn sg=>zao rfl iq.val;have e3:=zbB (zeV (v5 .uu .uu .uu .uu) iq) (IsL.lst _ _);have hKm:=hK m le.1;have hlm:lst m∈sgs (L.map (·.2)) (pre m):=(f.mem _ _).2 (by rw[zbA m0];exact le.1)
  have e4:=zo9 (F:=run PP (n+4)) (ρ:=Er (.int S) (.int Z) bv (.ref h.length) wv q.1 (V.tw (suf m)) .uu .uu .uu) (idxW f.W hKm (o:=.v 3) rfl (zbB (zc1 (v5 (V.tw (suf m)) .uu .uu .uu) iq) (IsL.lst _ _))) (f.W.ls _ hKm) (zi9 (v5 (V.tw (suf m)) .uu .uu .uu) iq m0) hlm (by
   unfold sgs;rw[zJ];exact zX (length_filter_le ..) (zX (Nat.le_of_lt jb.cnt) (by decide)))
  have f1:=f.take (a:=lst m) w.nodup hKm;rw[zbA m0] at f1;have x3:=x2.set (f.W.lo _ hKm) (.list (V.nats ((sgs (L.map (·.2)) (pre m)).erase (lst m))));generalize g.set (r (pre m)) (.list (V.nats ((sgs (L.map (·.2)) (pre m)).erase (lst m))))=g1 at e4 f1 x3;have e5:evE true (run PP (n+4)) (Er (.int S) (.int Z) bv (.ref h.length) wv q.1 (V.tw (suf m)) .uu .uu .uu) (.own (.list [.idx (.v 5) (.int 0)])) g1=.ok (.ref g1.length) (g1++[.list (V.nats ([m].map hd))]):=by
   refine zcu ?_;have iq1:IsL g1 q.1 m:=hqm ▸ (x3.B hb).wd q hq;rw[ziJ,zbi (zaP (j:=0) (i:=.int 0) (zao (i:=5) rfl iq1.val) rfl iq1 (zpW m0)) rfl];rfl
  have st0:St10 h (L.map (·.2)) m g1.length [m] ((L.map (·.2)).erase m) (suf m) (g1++[.list (V.nats ([m].map hd))]) :=
   ⟨x3.app _,⟨K,r,_,f1.app _,fun x hx=>hK x (mem_of_mem_erase hx),fun x hx q=>absurd (List.getElem?_eq_some_iff.1 (f1.W.ls x hx)).1 (by rw[q];exact Nat.lt_irrefl _)⟩,zah _ _,(List.perm_cons_erase le.1).symm,bal.step le.1 rfl,zdV bal all le.1 rfl⟩
  have hN:(L.map (·.2)).length=L.length:=zJ ..
  have ie:=zoo (F:=run PP (n+4)) (ρ:=Er (.int S) (.int Z) bv (.ref h.length) wv q.1 (V.tw (suf m)) (.ref g1.length) .uu .uu) (h:=g1++[.list (V.nats ([m].map hd))]) (x:=.bf .len (.v 2)) (zaO (a:=.v 2) (zao (v:=bv) rfl hv) ((x3.app _).B hb).it) (by rw[zJ,← hN];exact length_pos_of_mem le.1) (by rw[zJ];exact zX (Nat.le_of_lt hLn) (by decide))
  rw[zJ,← hN] at ie;obtain⟨es,g',j,mv,sg,e,st⟩:=ziD (n:=n) le.1 w.nodup h0 h9 jb.cnt x3.len ie st0;refine⟨es,g',g1.length,m,?_,st.ext,x3.len,st.fc,le,bal,all⟩;exact start zeQ rfl (ρ:=Er (.int S) (.int Z) bv .uu .uu .uu .uu .uu .uu .uu) rfl (zcw e0 (zbH (h':=h) (zcI (zb3 (a:=.v 2) (zao (v:=bv) rfl hv) el) rfl) (zai (v:=.ref h.length) (h':=h++[Cell.dict []]) rfl (ρ':=Er (.int S) (.int Z) bv (.ref h.length) .uu .uu .uu .uu .uu .uu) rfl (zaB e2 (zai em (ρ':=Er (.int S) (.int Z) bv (.ref h.length) wv q.1 .uu .uu .uu .uu) rfl (zai e3 (ρ':=Er (.int S) (.int Z) bv (.ref h.length) wv q.1 (V.tw (suf m)) .uu .uu .uu) rfl (zcw e4 (zai e5 (ρ':=Er (.int S) (.int Z) bv (.ref h.length) wv q.1 (V.tw (suf m)) (.ref g1.length) .uu .uu) rfl (zaB e (zaA rfl))))))))))
 ·exact .inr ⟨start zeQ rfl (ρ:=Er (.int S) (.int Z) bv .uu .uu .uu .uu .uu .uu .uu) rfl (zcw e0 (zej (h':=h) (zcI (zb3 (a:=.v 2) (zao (v:=bv) rfl hv) el) rfl) rfl)),nw⟩
end
section
variable {γ:Type}
noncomputable def alt (g:(γ→Int)→List (γ→Int)→Int):List (γ→Int)→List (γ→Int)→Int
 |_,[]=>0
 |p,r::q=>g r (p++q) - alt g (p++[r]) q
theorem zco (g:(γ→Int)→List (γ→Int)→Int) (p:List (γ→Int)) (r:γ→Int) (q:List (γ→Int)):alt g p (r::q)=g r (p++q) - alt g (p++[r]) q:=rfl
noncomputable def D:List γ→List (γ→Int)→Int
 |[],[]=>1
 |[],_::_=>0
 |c::cs,rs=>alt (fun r rest=>r c * D cs rest) [] rs
theorem D_c (c:γ) (cs:List γ) (rs:List (γ→Int)):D (c::cs) rs=alt (fun r rest=>r c * D cs rest) [] rs:=rfl
theorem D_n (r:γ→Int) (Y:List (γ→Int)):∀ X:List (γ→Int),D [] (X++r::Y)=0
 |[]=>rfl
 |_::_=>rfl
theorem add4 (a b c d:Int):a+b+(c+d)=a+c+(b+d):=by rw[Int.add_assoc,Int.add_left_comm b,← Int.add_assoc]
theorem zi4 (h:a+b=0):b=-a:=by omega
theorem lin0:(0:Int)=s * 0+t * 0:=by rw[Int.mul_zero,Int.mul_zero];rfl
theorem lin2 {s t x x1 x2 y y1 y2:Int}(h1:x=s * x1+t * x2) (h2:y=s * y1+t * y2):x - y=s * (x1 - y1)+t * (x2 - y2):=by
 rw[h1,h2,Int.mul_sub,Int.mul_sub,Int.sub_eq_add_neg,Int.neg_add,add4];rfl
theorem lin3 {s t m x x1 x2:Int}(h:x=s * x1+t * x2):m * x=s * (m * x1)+t * (m * x2):=by
 rw[h,Int.mul_add,Int.mul_left_comm m s,Int.mul_left_comm m t]
theorem lin4 {s t m x x1 x2:Int}(h:x=s * x1+t * x2):x * m=s * (x1 * m)+t * (x2 * m):=by
 rw[h,Int.add_mul,Int.mul_assoc,Int.mul_assoc]
theorem neg2 (h1:x=-x') (h2:y=-y'):x - y=-(x' - y'):=by
 rw[h1,h2,Int.neg_sub,Int.sub_neg,Int.add_comm];rfl
theorem neg3 (h:z=-z'):x - (y - z)=-(y - (x - z')):=by
 rw[h,Int.neg_sub,Int.sub_neg,Int.sub_sub,Int.add_comm]
theorem neg0 (h:x=-x):x=0:=by
 have h:x+x=0:=(congrArg (x+·) h).trans (Int.add_right_neg x);rw[←Int.two_mul] at h;exact(Int.mul_eq_zero.1 h).resolve_left (by decide)
section
variable {g:(γ→Int)→List (γ→Int)→Int}{a b r:γ→Int}{s t:Int}{Y:List (γ→Int)}
theorem zlW (h1:∀ x P Q,g x (P++r::Q)=s * g x (P++a::Q)+t * g x (P++b::Q)):∀ (Y P Q:List (γ→Int)),alt g (P++r::Q) Y=s * alt g (P++a::Q) Y+t * alt g (P++b::Q) Y:=by
 intro l__
 induction l__ with
 |nil=>exact fun P Q=>lin0
 |cons y Y ih =>
  intro P Q;have e1:=h1 y P (Q++Y);have e2:=ih P (Q++[y]);rw[zco,zco,zco,yJ,yJ,yJ,yJ,yJ,yJ];exact lin2 e1 e2
theorem zoD (h1:∀ x P Q,g x (P++r::Q)=s * g x (P++a::Q)+t * g x (P++b::Q)) (h2:∀ R,g r R=s * g a R+t * g b R):∀ (X p:List (γ→Int)),alt g p (X++r::Y)=s * alt g p (X++a::Y)+t * alt g p (X++b::Y):=by
 intro l__
 induction l__ with
 |nil=>exact fun p=>lin2 (h2 _) (zlW h1 Y p [])
 |cons x X ih =>
  intro p;have e1:=h1 x (p++X) Y;have e2:=ih (p++[x]);rw[yJ,yJ,yJ] at e1;exact lin2 e1 e2
theorem zj8 (h1:∀ x P Q,g x (P++a::b::Q)=-g x (P++b::a::Q)):∀ (Y P Q:List (γ→Int)),alt g (P++a::b::Q) Y=-alt g (P++b::a::Q) Y:=by
 intro l__
 induction l__ with
 |nil=>exact fun P Q=>rfl
 |cons y Y ih =>
  intro P Q;have e1:=h1 y P (Q++Y);have e2:=ih P (Q++[y]);rw[zco,zco,yJ,yJ,yJ,yJ];exact neg2 e1 e2
theorem zlX (h1:∀ x P Q,g x (P++a::b::Q)=-g x (P++b::a::Q)):∀ (X p:List (γ→Int)),alt g p (X++a::b::Y)=-alt g p (X++b::a::Y):=by
 intro l__
 induction l__ with
 |nil =>
  intro p;have e:=zj8 h1 Y p [];show alt g p (a::b::Y)=-alt g p (b::a::Y);rw[zco,zco,zco,zco,yJ,yJ,yJ,yJ];exact neg3 e
 |cons x X ih =>
  intro p;have e1:=h1 x (p++X) Y;have e2:=ih (p++[x]);rw[yJ,yJ] at e1;exact neg2 e1 e2
theorem zeK:∀ (q p:List (γ→Int)),(∀ r∈q,∀ R,g r R=0)→alt g p q=0:=by
 intro l__
 induction l__ with
 |nil=>exact fun z z=>rfl
 |cons r q ih =>
  intro p h;rw[zco,h r (zZ ..),ih _ fun x hx=>h x (zY _ hx)];rfl
end
theorem zkl {a b r:γ→Int}{s t:Int}(hr:∀ c,r c=s * a c+t * b c):∀ (cs:List γ) (X Y:List (γ→Int)),D cs (X++r::Y)=s * D cs (X++a::Y)+t * D cs (X++b::Y):=by
 intro l__
 induction l__ with
 |nil =>
  intro X Y;rw[D_n,D_n,D_n];exact lin0
 |cons c cs ih=>exact fun X Y=>zoD (fun x P Q=>lin3 (ih P Q)) (fun R=>lin4 (hr c)) X []
theorem zkm {a b:γ→Int}:∀ (cs:List γ) (X Y:List (γ→Int)),D cs (X++a::b::Y)=-D cs (X++b::a::Y):=by
 intro l__
 induction l__ with
 |nil =>
  intro X Y;rw[D_n,D_n];rfl
 |cons c cs ih=>exact fun X Y=>zlX (fun x P Q=>by rw[ih P Q,Int.mul_neg]) X []
theorem zl1 {a:γ→Int}{Y:List (γ→Int)}:∀ (M X:List (γ→Int)),D cs (X++a::(M++a::Y))=0:=by
 intro l__
 induction l__ with
 |nil=>exact fun X=>neg0 (zkm (a:=a) (b:=a) cs X Y)
 |cons m M ih =>
  intro X;have e:=ih (X++[m]);rw[yJ] at e;exact(zkm (a:=a) (b:=m) cs X (M++a::Y)).trans (congrArg (- ·) e)
theorem zqF {a b:γ→Int}(X M Y:List (γ→Int)):D cs (X++a::(M++b::Y))=-D cs (X++b::(M++a::Y)):=by
 have two:∀ u:γ→Int,D cs (X++u::(M++(fun c=>a c+b c)::Y))=D cs (X++u::(M++a::Y))+D cs (X++u::(M++b::Y)):=fun u=>by
  have e:=zkl (a:=a) (b:=b) (r:=fun c=>a c+b c) (s:=1) (t:=1) (fun c=>by rw[Int.one_mul,Int.one_mul]) cs (X++u::M) Y
  rw[Int.one_mul,Int.one_mul,yJ,yJ,yJ] at e;exact e
 have e1:=zkl (a:=a) (b:=b) (r:=fun c=>a c+b c) (s:=1) (t:=1) (fun c=>by rw[Int.one_mul,Int.one_mul]) cs X (M++(fun c=>a c+b c)::Y)
 rw[zl1,two,two,zl1,zl1,Int.one_mul,Int.one_mul,Int.zero_add,Int.add_zero] at e1;exact zi4 ((Int.add_comm ..).trans e1.symm)
theorem zoH {r:γ→Int}{Y:List (γ→Int)}:∀ (X W:List (γ→Int)),D cs (W++r::(X++Y))=0→D cs (W++(X++r::Y))=0:=by
 intro l__
 induction l__ with
 |nil=>exact fun z h=>h
 |cons x X ih =>
  intro W h;have e2:=ih (W++[x]) (by
   rw[yJ];exact(zkm (a:=x) (b:=r) cs W (X++Y)).trans (congrArg (- ·) h))
  rw[yJ] at e2;exact e2
theorem zoG {f h:(γ→Int)→γ→Int}:∀ (Q X:List (γ→Int)),(∀ r∈Q,∀ c,f r c=l * h r c)→D cs (X++Q.map f)=l ^ Q.length * D cs (X++Q.map h):=by
 intro l__
 induction l__ with
 |nil =>
  intro X _;rw[map_nil,map_nil,length_nil,Int.pow_zero,Int.one_mul]
 |cons q Q ih =>
  intro X hf;have e1:=zkl (a:=h q) (b:=h q) (r:=f q) (s:=l) (t:=0) (fun c=>by rw[Int.zero_mul,Int.add_zero];exact hf q (zZ ..) c) cs X (Q.map f)
  have e2:=ih (X++[h q]) (fun r hr=>hf r (zY _ hr));rw[yJ,yJ] at e2;rw[yY,yY,e1,Int.zero_mul,Int.add_zero,show D cs (X++h q::Q.map f)=l ^ Q.length * D cs (X++h q::Q.map h) from e2,length_cons,Int.pow_succ,Int.mul_assoc];exact Int.mul_left_comm ..
noncomputable def el (r0:γ→Int) (c:γ) (r:γ→Int) (j:γ):Int:=r0 c * r j - r c * r0 j
theorem zrD {r0:γ→Int}:∀ (Q X:List (γ→Int)),D (c::cs) (r0::(X++Q.map (el r0 c)))=r0 c ^ Q.length * D (c::cs) (r0::(X++Q)):=by
 intro l__
 induction l__ with
 |nil =>
  intro X;rw[map_nil,length_nil,Int.pow_zero,Int.one_mul]
 |cons q Q ih =>
  intro X;have e1:=zkl (a:=q) (b:=r0) (r:=el r0 c q) (s:=r0 c) (t:=-q c) (fun j=>by unfold el;rw[Int.neg_mul];rfl) (c::cs) (r0::X) (Q.map (el r0 c))
  have e2:=ih (X++[q]);rw[yJ,yJ] at e2;refine e1.trans ?_;rw[show D (c::cs) (r0::X++r0::Q.map (el r0 c))=0 from zl1 X [],Int.mul_zero,Int.add_zero,show D (c::cs) (r0::X++q::Q.map (el r0 c))=r0 c ^ Q.length * D (c::cs) (r0::(X++q::Q)) from e2,length_cons,Int.pow_succ,Int.mul_assoc];exact Int.mul_left_comm ..
theorem zmJ {r0:γ→Int}{Q:List (γ→Int)}(h:∀ q∈Q,q c=0):D (c::cs) (r0::Q)=r0 c * D cs Q:=by
 rw[D_c,zco,zeK Q _ fun q hq R=>by rw[h q hq,Int.zero_mul],Int.sub_zero];rfl
theorem zrE {r0:γ→Int}{Q:List (γ→Int)}:r0 c * D cs (Q.map (el r0 c))=r0 c ^ Q.length * D (c::cs) (r0::Q):=by
 rw[←zmJ fun q hq=>?_]
 ·exact zrD Q []
 ·obtain⟨r,_,rfl⟩:=yQ.1 hq
  show r0 c * r c - r c * r0 c=0;rw[Int.mul_comm,Int.sub_self]
noncomputable def sm (f:γ→Int):List γ→Int
 |[]=>0
 |c::cs=>f c+sm f cs
theorem zfx (f:γ→Int) (c:γ) (cs:List γ):sm f (c::cs)=f c+sm f cs:=rfl
theorem zgz {f g:γ→Int}:∀ cs:List γ,sm (fun c=>s * f c+t * g c) cs=s * sm f cs+t * sm g cs:=by
 intro l__
 induction l__ with
 |nil=>exact lin0
 |cons c cs ih =>
  rw[zfx,zfx,zfx,ih,Int.mul_add,Int.mul_add,add4]
theorem zbt {f g:γ→Int}:∀ {cs:List γ},(∀ c∈cs,f c=g c)→sm f cs=sm g cs:=by
 intro l__
 induction l__ with
 |nil=>exact fun z=>rfl
 |cons c cs ih =>
  intro h;rw[zfx,zfx,h c (zZ ..),ih fun x hx=>h x (zY _ hx)]
theorem zc0 {f:γ→Int}(h:∀ c∈cs,f c=0):sm f cs=0:=by
 induction cs with
 |nil=>rfl
 |cons c cs ih=>rw[zfx,h c (zZ ..),ih fun x hx=>h x (zY _ hx)];rfl
theorem znV (h1:q * x+a=0) (h2:p * x+b=0):p * a+-q * b=0:=by
 rw[zi4 h1,zi4 h2,Int.mul_neg,Int.neg_mul_neg,Int.mul_left_comm,Int.add_left_neg]
theorem zqH {x:γ→Int}:∀ (cs:List γ) (rs:List (γ→Int)),(∀ r∈rs,sm (fun c=>r c * x c) cs=0)→(∃ c∈cs,x c≠0)→D cs rs=0:=by
 intro l__
 induction l__ with
 |nil=>exact fun y y h=>(not_mem_nil h.choose_spec.1).elim
 |cons c cs ih =>
  intro rs hk hx
  by_cases hz:∀ r∈rs,r c=0
  ·exact zeK rs [] fun r hr R=>by rw[hz r hr,Int.zero_mul]
  ·obtain⟨r,hz⟩:=Classical.not_forall.1 hz
   obtain⟨hr,p0⟩:=Classical.not_imp.1 hz;obtain⟨X,Y,rfl⟩:=List.append_of_mem hr;refine zoH X [] ?_;have e:=zrE (r0:=r) (c:=c) (cs:=cs) (Q:=X++Y);have kr:=hk r hr;have z:D cs ((X++Y).map (el r c))=0:=by
    by_cases hc:∃ c'∈cs,x c'≠0
    ·refine ih _ (fun q hq=>?_) hc
     obtain⟨q,hm,rfl⟩:=yQ.1 hq;have kq:=hk q (by rcases zP.1 hm with h|h;exact mem_append_left _ h;exact mem_append_right _ (zY _ h))
     refine Eq.trans ?_ (znV kq kr);rw[←zgz];exact zbt fun c' y=>by
      show(r c * q c' - q c * r c') * x c'=_;rw[Int.sub_mul,Int.mul_assoc,Int.mul_assoc,Int.neg_mul];rfl
    ·have h0:∀ c'∈cs,x c'=0:=fun c' h'=>Classical.byContradiction fun q=>hc ⟨c',h',q⟩
     rw[zfx,zc0 fun c' h'=>by rw[h0 c' h',Int.mul_zero],Int.add_zero] at kr
     obtain⟨c',h',n0⟩:=hx
     rcases zN.1 h' with rfl|h'
     ·exact absurd kr (Int.mul_ne_zero p0 n0)
     ·exact absurd (h0 c' h') n0
   rw[z,Int.mul_zero] at e;exact(Int.mul_eq_zero.1 e.symm).resolve_left (Int.pow_ne_zero p0)
end
section
variable {γ:Type}
structure BI (K:List γ) (P:List (γ→Int)) (last:Int) (Q:List ((γ→Int) × (γ→Int))):Prop where
 ne:last≠0
 inv:∀ (I:List ((γ→Int) × (γ→Int))) (J:List γ),(∀ q∈I,q∈Q)→I≠[]→D J (I.map (·.1))=last ^ (I.length - 1) * D (K++J) (P++I.map (·.2))
theorem BI.start (rs:List (γ→Int)):BI [] [] 1 (rs.map fun r=>(r,r)):=by
 refine⟨by decide,fun I J h z=>?_⟩
 have:I.map (·.1)=I.map (·.2):=map_congr_left fun q hq=>by
  obtain⟨r,_,rfl⟩:=yQ.1 (h q hq);rfl
 rw[Int.one_pow,Int.one_mul,this];rfl
noncomputable def stp (m0:γ→Int) (c:γ) (last:Int) (q:(γ→Int) × (γ→Int)):(γ→Int) × (γ→Int):=(fun j=>(el m0 c q.1 j).fdiv last,q.2)
theorem D_1 (j:γ) (m:γ→Int):D [j] [m]=m j:=by
 show m j * 1 - 0=m j;rw[Int.mul_one,Int.sub_zero]
theorem D_2 (c j:γ) (m0 m:γ→Int):D [c,j] [m0,m]=el m0 c m j:=by
 show m0 c * D [j] [m] - (m c * D [j] [m0] - 0)=_;rw[D_1,D_1,Int.sub_zero];rfl
theorem znO {α β:Type}{f:α→β}{Q:List α}:∀ {I:List β},(∀ q∈I,q∈Q.map f)→∃ L:List α,I=L.map f∧∀ q∈L,q∈Q:=by
 intro l__
 induction l__ with
 |nil=>exact fun z=>⟨[],rfl,fun z h=>(not_mem_nil h).elim⟩
 |cons b I ih =>
  intro h;obtain⟨a,ha,rfl⟩:=yQ.1 (h b (zZ ..));obtain⟨L,rfl,hL⟩:=ih fun q hq=>h q (zY _ hq);exact⟨a::L,rfl,fun q hq=>(zN.1 hq).elim (fun e=>e ▸ ha) (hL q)⟩
theorem zow {p l x y:Int}{t:Nat}(hp:p≠0) (hl:l≠0) (h:p * (l ^ (t+1) * x)=p ^ (t+1) * (l ^ (t+1) * y)):x=p ^ t * y:=by
 rw[Int.pow_succ p,Int.mul_comm (p ^ t) p,Int.mul_assoc] at h;have h:=Int.eq_of_mul_eq_mul_left hp h;rw[Int.mul_left_comm] at h;exact Int.eq_of_mul_eq_mul_left (Int.pow_ne_zero hl) h
theorem BI.exact {P:List (γ→Int)}{Q:List ((γ→Int) × (γ→Int))}(b:BI K P last Q){q0 q:(γ→Int) × (γ→Int)}(h0:q0∈Q) (hq:q∈Q) (c j:γ):el q0.1 c q.1 j=last * (stp q0.1 c last q).1 j:=by
 have e:=b.inv [q0,q] [c,j] (fun x hx=>(zN.1 hx).elim (fun e=>e ▸ h0) fun hx=>by rw[zK.1 hx];exact hq) (fun h=>nomatch h)
 have e:D [c,j] [q0.1,q.1]=last ^ 1 * D (K++[c,j]) (P++[q0.2,q.2]):=e;rw[D_2,Int.pow_succ,Int.pow_zero,Int.one_mul] at e;show _=last * (el q0.1 c q.1 j).fdiv last;rw[e,Int.mul_fdiv_cancel_left _ b.ne]
theorem BI.step {K:List γ}{P:List (γ→Int)}{last:Int}{Q L:List ((γ→Int) × (γ→Int))}(b:BI K P last Q){q0:(γ→Int) × (γ→Int)}{c:γ}(h0:q0∈Q) (p0:q0.1 c≠0) (hL:∀ q∈L,q∈Q):BI (K++[c]) (P++[q0.2]) (q0.1 c) (L.map (stp q0.1 c last)):=by
 refine⟨p0,fun I' J hI hne=>?_⟩;obtain⟨I,rfl,hM⟩:=znO hI;have hI:∀ q∈I,q∈Q:=fun q hq=>hL q (hM q hq);rw[zJ];have e1:=b.inv (q0::I) (c::J) (fun q hq=>(zN.1 hq).elim (fun e=>e ▸ h0) (hI q)) (fun h=>nomatch h);have e2:=zrE (r0:=q0.1) (c:=c) (cs:=J) (Q:=I.map (·.1));have e1:D (c::J) (q0.1::I.map (·.1))=last ^ I.length * D (K++c::J) (P++q0.2::I.map (·.2)):=e1;have e3:=zoG (l:=last) (cs:=J) (f:=fun q=>el q0.1 c q) (h:=fun q j=>(el q0.1 c q j).fdiv last) (I.map (·.1)) [] (fun r hr j=>by
  obtain⟨q,hq,rfl⟩:=yQ.1 hr;exact b.exact h0 (hI q hq) c j)
 rw[List.nil_append,List.nil_append,zJ,map_map] at e3;rw[e1,zJ,map_map] at e2;rw[map_map,map_map,yJ,yJ];rw[show D J (I.map ((fun q=>el q0.1 c q)∘(·.1)))=_ from e3] at e2
 cases I with
 |nil=>exact absurd rfl hne
 |cons q I =>
  rw[length_cons] at e2 ⊢
  rw[map_map] at e2;exact zow p0 b.ne e2
theorem BI.zero {P:List (γ→Int)}{Q:List ((γ→Int) × (γ→Int))}(b:BI K P last Q) (hz:∀ q∈Q,q.1 c=0) (hne:Q≠[]):D (K++c::J) (P++Q.map (·.2))=0:=by
 have e:=b.inv Q (c::J) (fun z h=>h) hne;rw[D_c,zeK (Q.map (·.1)) [] fun r hr R=>by
  obtain⟨q,hq,rfl⟩:=yQ.1 hr;rw[hz q hq,Int.zero_mul]] at e
 exact(Int.mul_eq_zero.1 e.symm).resolve_left (Int.pow_ne_zero b.ne)
theorem BI.last {K:List γ}{P:List (γ→Int)}{last:Int}{Q:List ((γ→Int) × (γ→Int))}(b:BI K P last Q){q0:(γ→Int) × (γ→Int)}{c:γ}(h0:q0∈Q):q0.1 c=D (K++[c]) (P++[q0.2]):=by
 have e:=b.inv [q0] [c] (fun x hx=>by rw[zK.1 hx];exact h0) (fun h=>nomatch h)
 have e:D [c] [q0.1]=last ^ 0 * D (K++[c]) (P++[q0.2]):=e;rw[D_1,Int.pow_zero,Int.one_mul] at e;exact e
end
theorem zgA {α:Type}(k:Int):∀ F:List α,sm (fun z=>k) F=(F.length:Int) * k:=by
 intro l__
 induction l__ with
 |nil=>exact(Int.zero_mul k).symm
 |cons f F ih =>
  rw[zfx,ih,length_cons,Int.natCast_succ,Int.add_mul,Int.one_mul,Int.add_comm]
theorem zkB {α:Type} [BEq α] [LawfulBEq α] {g:α→Int}{f:α}:∀ {F:List α},f∈F→sm g (F.erase f)=1 * sm g F+-1 * g f:=by
 intro l__
 induction l__ with
 |nil=>exact fun h=>(not_mem_nil h).elim
 |cons e F ih =>
  intro h
  by_cases q:e=f
  ·rw[q,List.erase_cons_head,zfx,Int.one_mul,Int.neg_mul,Int.one_mul,Int.add_comm,Int.neg_add_cancel_left]
  ·rw[List.erase_cons_tail (by simpa using q),zfx,zfx,ih ((zN.1 h).resolve_left fun e'=>q e'.symm),Int.one_mul,Int.one_mul,Int.add_assoc]
noncomputable def pr {α:Type}(f:α→Int):List α→Int
 |[]=>1
 |c::cs=>f c * pr f cs
theorem zfS {α:Type}(f:α→Int) (c:α) (cs:List α):pr f (c::cs)=f c * pr f cs:=rfl
theorem ziL {α:Type}(f:α→Int) (Y:List α):∀ X:List α,pr f (X++Y)=pr f X * pr f Y:=by
 intro l__
 induction l__ with
 |nil=>exact(Int.one_mul _).symm
 |cons x X ih =>
  rw[cons_append,zfS,zfS,ih,Int.mul_assoc]
theorem zpl {α:Type}:∀ X:List α,pr (fun z=>1) X=1:=by
 intro l__
 induction l__ with
 |nil=>exact rfl
 |cons x X ih =>
  rw[zfS,ih];rfl
theorem zcD {α:Type}{f g:α→Int}:∀ {cs:List α},(∀ c∈cs,f c=g c)→pr f cs=pr g cs:=by
 intro l__
 induction l__ with
 |nil=>exact fun z=>rfl
 |cons c cs ih =>
  intro h;rw[zfS,zfS,h c (zZ ..),ih fun x hx=>h x (zY _ hx)]
noncomputable def fc:Nat→Int
 |0=>1
 |n+1=>((n+1:Nat):Int) * fc n
theorem zru (n:Nat):fc (n+1)=((n+1:Nat):Int) * fc n:=rfl
noncomputable def de (v u:List Nat):Int:=if v=u then 1 else 0
theorem zci (v:List Nat):de v v=1:=zT rfl
theorem zdH (h:v≠u):de v u=0:=zR h
theorem zkC {h:List Nat→Int}:∀ {V:List (List Nat)},V.Nodup→a∈V→sm (fun u=>de a u * h u) V=h a:=by
 intro l__
 induction l__ with
 |nil=>exact fun z m=>(not_mem_nil m).elim
 |cons v V ih =>
  intro nd m;rw[yZ] at nd;rw[zfx]
  by_cases q:a=v
  ·subst q
   rw[zci,Int.one_mul,zc0 fun u hu=>by rw[zdH fun(e:a=u)=>nd.1 (by rw[e];exact hu),Int.zero_mul],Int.add_zero]
  ·rw[zdH q,Int.zero_mul,Int.zero_add,ih nd.2 ((zN.1 m).resolve_left q)]
theorem zr7:∀ {V:List (List Nat)},V.Nodup→D V (V.map de)=1:=by
 intro l__
 induction l__ with
 |nil=>exact fun z=>rfl
 |cons v V ih =>
  intro nd;rw[yZ] at nd;rw[yY,zmJ fun q hq=>?_,zci,Int.one_mul,ih nd.2];obtain⟨u,hu,rfl⟩:=yQ.1 hq;exact zdH fun e=>nd.1 (e ▸ hu)
noncomputable def lv (E:List (List Nat)) (v:List Nat):List (List Nat):=E.filter fun w=>decide (pre w=v)
theorem zax (E:List (List Nat)) (v:List Nat):outs E v=(lv E v).length:=rfl
theorem zaT:f∈lv E v↔f∈E∧pre f=v:=by
 unfold lv;rw[mem_filter,decide_eq_true_eq]
theorem zbc:lv (E.erase f) v=(lv E v).erase f:=(List.erase_filter ..).symm
theorem zcH (h:pre f≠v):lv (E.erase f) v=lv E v:=by
 rw[zbc];exact List.erase_of_not_mem fun m=>h (zaT.1 m).2
noncomputable def Lr (E:List (List Nat)) (v u:List Nat):Int:=sm (fun f=>de v u - de (suf f) u) (lv E v)
noncomputable def Mr (E:List (List Nat)) (v u:List Nat):Int:=if lv E v=[] then de v u else Lr E v u
theorem zgo (h:lv E v=[]):Mr E v=de v:=funext fun z=>zT h
theorem zdu (h:lv E v≠[]):Mr E v=Lr E v:=funext fun z=>zR h
theorem zcN (h:pre f≠v):Mr (E.erase f) v=Mr E v:=by
 funext u;unfold Mr Lr;rw[zcH h]
noncomputable def cnt (r:List Nat):Nat→List Nat→List (List Nat)→Int
 |0,a,_=>if a=r then 1 else 0
 |n+1,a,E=>sm (fun f=>cnt r n (suf f) (E.erase f)) (lv E a)
theorem zry (r:List Nat) (n:Nat) (a:List Nat) (E:List (List Nat)):cnt r (n+1) a E=sm (fun f=>cnt r n (suf f) (E.erase f)) (lv E a):=rfl
noncomputable def fac (r:List Nat) (V E:List (List Nat)):Int:=fc (outs E r) * pr (fun v=>fc (outs E v - 1)) V
section
variable {V E X Y:List (List Nat)}{r a f:List Nat}
noncomputable def Rr (V E X Y:List (List Nat)) (ρ:List Nat→Int):Int:=D V (X.map (Mr E)++ρ::Y.map (Mr E))
theorem zha {ρ σ τ:List Nat→Int}(h:∀ u,ρ u=s * σ u+t * τ u):Rr V E X Y ρ=s * Rr V E X Y σ+t * Rr V E X Y τ :=
 zkl h V _ _
theorem zqA {g:List Nat→List Nat→Int}:∀ F:List (List Nat),Rr V E X Y (fun u=>sm (fun f=>g f u) F)=sm (fun f=>Rr V E X Y (g f)) F:=by
 intro l__
 induction l__ with
 |nil =>
  rw[zha (σ:=de []) (τ:=de []) (s:=0) (t:=0) fun u=>by rw[Int.zero_mul];rfl,Int.zero_mul];rfl
 |cons f F ih =>
  rw[zha (σ:=g f) (τ:=fun u=>sm (fun f=>g f u) F) (s:=1) (t:=1) fun u=>by rw[Int.one_mul,Int.one_mul];rfl,ih,Int.one_mul,Int.one_mul];rfl
theorem zkc (hV:V=X++a::Y) (nd:V.Nodup) (hf:pre f=a):D V (V.map (Mr (E.erase f)))=Rr V E X Y (Mr (E.erase f) a):=by
 rw[hV,nodup_append,yZ] at nd;have hx:X.map (Mr (E.erase f))=X.map (Mr E):=map_congr_left fun v hv=>zcN fun e=>nd.2.2 v hv a (zZ ..) (e ▸ hf);have hy:Y.map (Mr (E.erase f))=Y.map (Mr E):=map_congr_left fun v hv=>zcN fun e=>nd.2.1.1 (by rw[←hf,e];exact hv)
 unfold Rr;rw[←hx,← hy,← yY,← map_append,← hV]
theorem zkb (hV:V=X++a::Y):D V (V.map (Mr E))=Rr V E X Y (Mr E a):=by
 unfold Rr;rw[←yY,← map_append,← hV]
theorem zmu (hV:V=X++a::Y) (nd:V.Nodup) (hr:r ∉ V) (hf:pre f=a) (hm:f∈E):fac r V (E.erase f)=fc (outs E r) * (pr (fun v=>fc (outs E v - 1)) X * (fc (outs E a - 1 - 1) * pr (fun v=>fc (outs E v - 1)) Y)):=by
 have ne:∀ v,v≠a→outs (E.erase f) v=outs E v:=fun v h=>by rw[zax,zax,zcH fun e=>h (e.symm.trans hf)]
 have ea:outs (E.erase f) a=outs E a - 1:=by rw[zax,zax,zbc,length_erase_of_mem (zaT.2 ⟨hm,hf⟩)]
 unfold fac;rw[ne r fun e=>hr (by rw[hV,e];exact mem_append_right _ (zZ ..)),hV,ziL,zfS,ea]
 rw[hV,nodup_append,yZ] at nd;rw[zcD fun v hv=>by rw[ne v fun e=>nd.2.2 v hv a (zZ ..) e],zcD (cs:=Y) fun v hv=>by rw[ne v fun e=>nd.2.1.1 (e ▸ hv)]]
theorem zgV (hV:V=X++a::Y):fac r V E=fc (outs E r) * (pr (fun v=>fc (outs E v - 1)) X * (fc (outs E a - 1) * pr (fun v=>fc (outs E v - 1)) Y)):=by
 unfold fac;rw[hV,ziL,zfS]
end
section
variable {V E X Y:List (List Nat)}{r a f:List Nat}
theorem zdn (h:f∈E):0 < ins E (suf f):=length_pos_of_mem (List.mem_filter.2 ⟨h,zW rfl⟩)
theorem Bal.out (b:Bal E a r) (h:a≠r):outs E a=ins E a+1:=by
 have:=b a;rw[zR h,zT rfl] at this;exact this
theorem Bal.eq (b:Bal E r r) (x:List Nat):outs E x=ins E x:=Nat.add_right_cancel (b x)
theorem zoY {α:Type}{g:α→Int}(F:List α):sm (fun f=>(k - g f) * m) F=((F.length:Int) * k - sm g F) * m:=by
 have:sm (fun f=>(k - g f) * m) F=m * sm (fun z=>k) F+-m * sm g F:=by
  rw[←zgz];exact zbt fun f z=>by rw[Int.sub_mul,Int.mul_comm k,Int.mul_comm (g f),Int.neg_mul];rfl
 rw[this,zgA,Int.sub_mul,Int.mul_comm m,Int.neg_mul,Int.mul_comm m];rfl
theorem alg5 (k R A B K C:Int):((k+1) * R - R) * (A * (B * (K * C)))=R * (A * (B * (k * K * C))):=by
 rw[Int.add_mul,Int.one_mul,Int.add_sub_cancel,Int.mul_assoc k K C,Int.mul_left_comm B k,Int.mul_left_comm A k,Int.mul_left_comm R k,Int.mul_assoc]
theorem best2 (hV:V=X++a::Y) (nd:V.Nodup) (hr:r ∉ V) (d:2≤outs E a){c:List Nat→Int}(ih:∀ f∈lv E a,c f=D V (V.map (Mr (E.erase f))) * fac r V (E.erase f)):sm c (lv E a)=D V (V.map (Mr E)) * fac r V E:=by
 obtain⟨k,hk⟩:∃ k,outs E a=k+2:=⟨outs E a - 2,(Nat.sub_add_cancel d).symm⟩;have e:∀ f∈lv E a,c f=(Rr V E X Y (Lr E a) - Rr V E X Y (fun u=>de a u - de (suf f) u)) * (fc (outs E r) * (pr (fun v=>fc (outs E v - 1)) X * (fc (outs E a - 1 - 1) * pr (fun v=>fc (outs E v - 1)) Y))):=fun f hf=>by
  obtain⟨hm,hp⟩:=zaT.1 hf;have ne:lv (E.erase f) a≠[]:=fun q=>by
   rw[zbc] at q;have:=length_erase_of_mem hf;rw[q,← zax,hk] at this;exact nomatch this
  rw[ih f hf,zmu hV nd hr hp hm,zkc hV nd hp,zdu ne,zha (σ:=Lr E a) (τ:=fun u=>de a u - de (suf f) u) (s:=1) (t:=-1) fun u=>by unfold Lr;rw[zbc,zkB hf],Int.one_mul,Int.neg_mul,Int.one_mul];rfl
 rw[zbt e,zoY,← zqA,← zax,zgV hV,zkb hV,zdu (E:=E) (fun q=>by rw[zax,q] at hk;exact nomatch hk),hk]
 exact alg5 ((k+1:Nat):Int) (Rr V E X Y (Lr E a)) (fc (outs E r)) (pr (fun v=>fc (outs E v - 1)) X) (fc k) (pr (fun v=>fc (outs E v - 1)) Y)
theorem best1 (hV:V=X++a::Y) (nd:V.Nodup) (hr:r ∉ V) (b:Bal E a r) (ar:a≠r) (d:outs E a=1){c:List Nat→Int}(ih:∀ f∈lv E a,c f=D V (V.map (Mr (E.erase f))) * fac r V (E.erase f)):sm c (lv E a)=D V (V.map (Mr E)) * fac r V E:=by
 have hi:ins E a=0:=Nat.succ.inj ((b.out ar).symm.trans d);obtain⟨f,ef⟩:∃ f,lv E a=[f]:=List.length_eq_one_iff.1 d;have hf:f∈lv E a:=by rw[ef];exact zK.2 rfl
 obtain⟨hm,hp⟩:=zaT.1 hf;have no:∀ e∈E,suf e≠a:=fun e he q=>by have:=zdn he;rw[q,hi] at this;exact Nat.lt_irrefl 0 this
 have am:a∈V:=by rw[hV];exact mem_append_right _ (zZ ..)
 have z:Rr V E X Y (de (suf f))=0:=by
  refine zqH (x:=de a) V _ (fun q hq=>?_) ⟨a,am,by rw[zci];decide⟩
  rw[zbt fun u y=>Int.mul_comm (q u) (de a u),zkC nd am];have row:∀ v,v≠a→Mr E v a=0:=fun v hv=>by
   unfold Mr
   by_cases e:lv E v=[]
   ·rw[zT e,zdH hv]
   ·rw[zR e]
    exact zc0 fun e he=>by rw[zdH hv,zdH (no e (zaT.1 he).1)];rfl
  have nd':=nd;rw[hV,nodup_append,yZ] at nd'
  rcases zP.1 hq with hq|hq
  ·obtain⟨v,hv,rfl⟩:=yQ.1 hq
   exact row v fun e=>nd'.2.2 v hv a (zZ ..) e
  ·rcases zN.1 hq with rfl|hq
   ·exact zdH (no f hm)
   ·obtain⟨v,hv,rfl⟩:=yQ.1 hq
    exact row v fun e=>nd'.2.1.1 (e ▸ hv)
 have e0:lv (E.erase f) a=[]:=by rw[zbc,ef];exact List.erase_cons_head ..
 rw[ef];show c f+0=_;rw[Int.add_zero,ih f hf,zmu hV nd hr hp hm,zgV hV,zkc hV nd hp,zkb hV,zgo e0,zdu (E:=E) (by rw[ef];exact fun q=>nomatch q),d,zha (ρ:=Lr E a) (σ:=de a) (τ:=de (suf f)) (s:=1) (t:=-1) fun u=>by
  unfold Lr;rw[ef];show de a u - de (suf f) u+0=_;rw[Int.add_zero,Int.one_mul,Int.neg_mul,Int.one_mul];rfl,z,Int.mul_zero,Int.add_zero,Int.one_mul]
theorem best0 (nd:V.Nodup) (b:Bal E r r) (hp:∀ f∈E,pre f∈V∨pre f=r) (hs:∀ f∈E,suf f∈V∨suf f=r) (d:outs E r=0) (hE:E≠[]):D V (V.map (Mr E))=0:=by
 have no:∀ f∈E,suf f≠r:=fun f hf q=>by have:=zdn hf;rw[q,← b.eq,d] at this;exact Nat.lt_irrefl 0 this
 obtain⟨f,hf⟩:=List.exists_mem_of_ne_nil _ hE;have pf:pre f≠r:=fun q=>by
  have:f∈lv E r:=zaT.2 ⟨hf,q⟩;rw[show lv E r=[] from eq_nil_of_length_eq_zero d] at this;exact nomatch this
 refine zqH (x:=fun u=>if lv E u=[] then 0 else 1) V _ (fun q hq=>?_) ⟨pre f,(hp f hf).resolve_right pf,?_⟩
 ·obtain⟨v,hv,rfl⟩:=yQ.1 hq
  by_cases e:lv E v=[]
  ·rw[zgo e,zkC nd hv];exact zT e
  ·rw[zdu e]
   have key:∀ F:List (List Nat),(∀ f∈F,f∈E)→sm (fun u=>sm (fun f=>de v u - de (suf f) u) F * (if lv E u=[] then 0 else 1)) V=0:=fun F=>by
    induction F with
    |nil=>exact fun z=>zc0 fun u z=>Int.zero_mul _
    |cons g F ih =>
     intro hF;have hg:=hF g (zZ ..);have e1:∀ u∈V,sm (fun f=>de v u - de (suf f) u) (g::F) * (if lv E u=[] then 0 else 1)=1 * (1 * (de v u * (if lv E u=[] then 0 else 1))+-1 * (de (suf g) u * (if lv E u=[] then 0 else 1)))+1 * (sm (fun f=>de v u - de (suf f) u) F * (if lv E u=[] then 0 else 1)):=fun u z=>by
      rw[zfx,Int.add_mul,Int.sub_mul,Int.one_mul,Int.one_mul,Int.one_mul,Int.neg_mul,Int.one_mul];rfl
     have se:lv E (suf g)≠[]:=fun q=>by
      have:=zdn hg;rw[←b.eq,zax,q] at this;exact Nat.lt_irrefl 0 this
     rw[zbt e1,zgz,zgz,zkC nd hv,zkC nd ((hs g hg).resolve_right (no g hg)),ih fun f hf=>hF f (zY _ hf),zR e,zR se];rfl
   exact key (lv E v) fun f hf=>(zaT.1 hf).1
 ·rw[zR fun q=>by
   have:f∈lv E (pre f):=zaT.2 ⟨hf,rfl⟩;rw[q] at this;exact nomatch this]
  decide
theorem best (nd:V.Nodup) (hr:r ∉ V):∀ (n:Nat) (E:List (List Nat)) (a:List Nat),E.length=n→Bal E a r→(a∈V∨a=r)→(∀ f∈E,pre f∈V∨pre f=r)→(∀ f∈E,suf f∈V∨suf f=r)→cnt r n a E=D V (V.map (Mr E)) * fac r V E
 |0,E,a,hn,b,_,_,_=>by
  rw[eq_nil_of_length_eq_zero hn] at b ⊢
  show(if a=r then(1:Int) else 0)=_;have e1:V.map (Mr [])=V.map de:=map_congr_left fun v z=>zgo rfl;have e2:fac r V []=1:=by
   show(1:Int) * pr (fun z=>1) V=1;rw[Int.one_mul,zpl]
  rw[zT b.nil,e1,zr7 nd,e2];rfl
 |n+1,E,a,hn,b,ha,hp,hs=>by
  have ih:∀ f∈lv E a,cnt r n (suf f) (E.erase f)=D V (V.map (Mr (E.erase f))) * fac r V (E.erase f):=fun f hf=>by
   obtain⟨hm,hf⟩:=zaT.1 hf;exact best nd hr n (E.erase f) (suf f) (by rw[length_erase_of_mem hm,hn];rfl) (b.step hm hf) (hs f hm) (fun g hg=>hp g (mem_of_mem_erase hg)) fun g hg=>hs g (mem_of_mem_erase hg)
  rw[zry]
  by_cases ar:a=r
  ·subst ar
   cases d:outs E a with
   |zero =>
    rw[show lv E a=[] from eq_nil_of_length_eq_zero d,best0 nd b hp hs d (fun q=>by rw[q] at hn;exact nomatch hn),Int.zero_mul];rfl
   |succ k =>
    have e:∀ f∈lv E a,cnt a n (suf f) (E.erase f)=D V (V.map (Mr E)) * (fc k * pr (fun v=>fc (outs E v - 1)) V):=fun f hf=>by
     obtain⟨hm,hq⟩:=zaT.1 hf;have ne:∀ v∈V,pre f≠v:=fun v hv q=>hr (by rw[←hq,q];exact hv)
     rw[ih f hf,map_congr_left fun v hv=>zcN (ne v hv)];unfold fac;rw[zcD fun v hv=>by rw[zax,zcH (ne v hv),← zax],show outs (E.erase f) a=k by rw[zax,zbc,length_erase_of_mem hf,← zax,d];rfl]
    rw[zbt e,zgA,← zax,d,Int.mul_left_comm];unfold fac;rw[d,zru,Int.mul_assoc ((k+1:Nat):Int)]
  ·obtain⟨X,Y,hV⟩:=List.append_of_mem (ha.resolve_right ar)
   by_cases d:2≤outs E a
   ·exact best2 hV nd hr d ih
   ·refine best1 hV nd hr b ar (Nat.le_antisymm (Nat.le_of_lt_succ (Nat.lt_of_not_le d)) ?_) ih
    rw[b.out ar];exact Nat.succ_le_succ (Nat.zero_le _)
end
def Bt (a:Nat) (x:Int):Prop:=x.natAbs < 2 ^ a
theorem Bt.mono (h:Bt a x) (l:a≤b):Bt b x:=Nat.lt_of_lt_of_le h (Nat.pow_le_pow_right (by decide) l)
theorem Bt.mul (hx:Bt a x) (hy:Bt b y):Bt (a+b) (x * y):=by
 unfold Bt;rw[Int.natAbs_mul,Nat.pow_add];exact Nat.mul_lt_mul'' hx hy
theorem Bt.add (hx:Bt a x) (hy:Bt a y):Bt (a+1) (x+y):=by
 unfold Bt;rw[Nat.pow_succ,Nat.mul_two];exact Nat.lt_of_le_of_lt (Int.natAbs_add_le x y) (Nat.add_lt_add hx hy)
theorem Bt.neg (hx:Bt a x):Bt a (-x):=by unfold Bt;rw[Int.natAbs_neg];exact hx
theorem Bt.sub (hx:Bt a x) (hy:Bt a y):Bt (a+1) (x - y):=by rw[Int.sub_eq_add_neg];exact hx.add hy.neg
theorem zod (x y:Int):(x.fdiv y).natAbs≤x.natAbs:=by
 cases x with
 |ofNat m=>cases m with
  |zero=>cases y<;>exact Nat.le_refl _
  |succ m=>cases y with
   |ofNat k=>exact Nat.div_le_self ..
   |negSucc k=>exact Nat.succ_le_succ (Nat.div_le_self ..)
 |negSucc m=>cases y with
  |ofNat k=>cases k with
   |zero=>exact Nat.zero_le _
   |succ k=>exact Nat.succ_le_succ (Nat.div_le_self ..)
  |negSucc k=>exact Nat.div_le_self ..
theorem Bt.fdiv (hx:Bt a x) (y:Int):Bt a (x.fdiv y):=Nat.lt_of_le_of_lt (zod x y) hx
theorem Bt.log (hx:Bt a x) (h0:x.natAbs≠0):x.natAbs.log2 < a:=(Nat.log2_lt h0).2 hx
section
variable {n:Nat}{h g:H}{F:Fn}{ρ:List V}
theorem zj1 (ea:evE true F ρ a h=.ok (.int x) h) (eb:evE true F ρ b h=.ok (.int y) h) (hx:Bt c x) (hy:Bt d y) (hs:c+d≤134217728):evE true F ρ (.bin .mul a b) h=.ok (.int (x * y)) h:=by
 rw[zhq,ea,R.bind_ok,eb,R.bind_ok];show R.opt (if _ then _ else _) h=_;rw[zT];rfl
 by_cases h1:x.natAbs=0
 ·exact .inl (by rw[h1];decide)
 ·by_cases h2:y.natAbs=0
  ·exact .inr (.inl (by rw[h2];decide))
  ·exact .inr (.inr (zX (by show _≤(x.natAbs.log2+1)+(y.natAbs.log2+1);rw[Nat.add_add_add_comm];exact Nat.le_refl _) (zX (Nat.add_le_add (hx.log h1) (hy.log h2)) hs)))
theorem zfN {a b:PE}{i j:Nat}(ea:evE true F ρ a h=.ok (.int i) h) (eb:evE true F ρ b h=.ok (.int j) h) (hi:i≤1000) (hj:j≤1000):evIt true F ρ (.range2 a b) h=.ok ((List.range (j - i)).map fun k:Nat=>V.int ((i+k:Nat):Int),Option.none) h:=by
 rw[zrH,ea,R.bind_ok,eb,R.bind_ok];show(if -1000000≤((i:Nat):Int)∧((i:Nat):Int)≤1000000∧-1000000≤((j:Nat):Int)∧((j:Nat):Int)≤1000000 then R.ok (fromTo (i:Nat) (j:Nat),Option.none) h else .bad)=_;rw[zT ⟨Int.le_trans (by decide) (Int.natCast_nonneg _),Int.ofNat_le.2 (zX hi (by decide)),Int.le_trans (by decide) (Int.natCast_nonneg _),Int.ofNat_le.2 (zX hj (by decide))⟩]
 unfold fromTo;rw[show(((j:Nat):Int) - ((i:Nat):Int)).toNat=j - i from Int.toNat_sub j i]
 rfl
theorem zpk (hk:k≤40):Bt 301 (fc k)∧pcall h (run PP (n+1) true "product" [.int k] h)=.ok (.int (fc k)) h:=by
 have it:=zfN (F:=run PP n) (ρ:=[.int k,.int 1,.uu]) (h:=h) (a:=.int 2) (b:=.bin .add (.v 0) (.int 1)) (i:=2) (j:=k+1) rfl (zb5 (x:=k) (y:=1) rfl rfl) (by decide) (zX (Nat.succ_le_succ hk) (by decide))
 obtain⟨ρ',g',e,w,rfl,rfl,hx⟩:=zaE (F:=run PP n) (x:=2) (body:=[.asg 1 (.bin .mul (.v 1) (.v 2))]) (fun p ρ g=>∃ w,ρ=[.int k,.int (fc (p.length+1)),w]∧g=h∧Bt (6 * p.length+1) (fc (p.length+1))) it (fun z z z z=>rfl) ⟨.uu,rfl,rfl,by unfold Bt;decide⟩ (fun p a q ρ g hp I=>by
  obtain⟨w,rfl,rfl,hx⟩:=I;obtain⟨rfl,hlt⟩:=range_at hp;have l40:p.length≤40:=zX (Nat.le_of_lt hlt) (zX (Nat.sub_le_sub_right (Nat.succ_le_succ hk) 2) (by decide))
  have hy:Bt 6 ((2+p.length:Nat):Int):=Nat.lt_of_le_of_lt (Nat.add_le_add_left l40 2) (by decide)
  have em:=zj1 (F:=run PP n) (ρ:=[.int k,.int (fc (p.length+1)),.int ((2+p.length:Nat):Int)]) (h:=g) (a:=.v 1) (b:=.v 2) rfl rfl hx hy (zX (Nat.add_le_add_right (Nat.add_le_add_right (Nat.mul_le_mul_left 6 l40) 1) 6) (by decide))
  have ef:fc (p.length+1) * ((2+p.length:Nat):Int)=fc ((p++[p.length]).length+1):=by
   rw[zQ,length_singleton,zru (p.length+1),Int.mul_comm,Nat.add_comm 2]
  rw[ef] at em;refine⟨_,g,(zap em).trans rfl,_,rfl,rfl,?_⟩;rw[←ef];exact(hx.mul hy).mono (by rw[zQ,length_singleton,Nat.mul_add,Nat.add_right_comm];exact Nat.le_refl _))
 rw[length_range] at e hx;have fk:fc (k+1 - 2+1)=fc k:=by
  cases k with
  |zero=>rfl
  |succ k=>rfl
 rw[fk] at e hx;exact⟨hx.mono (zX (Nat.add_le_add_right (Nat.mul_le_mul_left 6 (Nat.sub_le_sub_right (Nat.succ_le_succ hk) 2)) 1) (by decide)),by rw[start zil rfl (ρ:=[.int k,.uu,.uu]) rfl (zai (v:=.int 1) rfl (ρ':=[.int k,.int 1,.uu]) rfl (zaB e (zaA rfl))),pcall_int]⟩
end
noncomputable def IR (R:List (List Int)):List V:=R.map fun r=>V.l (r.map V.int)
theorem zhc (R:List (List Int)):(IR R).length=R.length:=zJ ..
theorem zkj {R:List (List Int)}{i:Nat}{r:List Int}(e:R[i]?=some r):(IR R)[i]?=some (.l (r.map V.int)):=by unfold IR;rw[List.getElem?_map,e];rfl
theorem ints_at {r:List Int}{i:Nat}(h:i < r.length):(r.map V.int)[i]?=some (.int (r.getD i 0)):=by rw[List.getElem?_map,List.getD_eq_getElem?_getD,zM h];rfl
theorem zki (R:List (List Int)) (i:Nat) (r:List Int):(IR R).set i (.l (r.map V.int))=IR (R.set i r):=by unfold IR;rw[map_set]
noncomputable def fn (r:List Int) (j:Nat):Int:=r.getD j 0
theorem zjA (h:r.length≤j):fn r j=0:=by unfold fn;rw[List.getD_eq_getElem?_getD,List.getElem?_eq_none h];rfl
def RK (N b:Nat) (r:List Int):Prop:=r.length=N∧∀ x∈r,Bt b x
theorem Bt.zero (b:Nat):Bt b 0:=Nat.pow_pos (by decide)
theorem RK.bt (k:RK N b r) (j:Nat):Bt b (fn r j):=by
 unfold fn;rw[List.getD_eq_getElem?_getD]
 cases e:r[j]? with
 |none=>exact Bt.zero b
 |some x=>exact k.2 x (mem_of_getElem? e)
theorem RK.mono (k:RK N b r) (h:b≤c):RK N c r:=⟨k.1,fun x hx=>(k.2 x hx).mono h⟩
noncomputable def bb:Nat→Nat
 |0=>7
 |k+1=>2 * bb k+1
theorem zr6 (k:Nat):bb (k+1)=2 * bb k+1:=rfl
theorem zqv (k:Nat):bb k≤bb (k+1):=by rw[zr6,Nat.two_mul];exact Nat.le_succ_of_le (Nat.le_add_right ..)
theorem zgi (h:j≤k):bb j≤bb k:=by
 induction h with
 |refl=>exact Nat.le_refl _
 |step _ ih=>exact zX ih (zqv _)
section
variable {n:Nat}{h g:H}{F:Fn}{ρ:List V}
theorem zpo (hk:k < N):place N (k:Int)=some k:=by
 unfold place;rw[zT (Int.natCast_nonneg k),zT (Int.ofNat_lt.2 hk)];rfl
theorem zd9 {o i e:PE}{ss:List PS}{r j:Nat}{vs:List V}{v:V}(ee:evE true F ρ e h=.ok v h) (eo:evE true F ρ o h=.ok (.ref r) h) (ei:evE true F ρ i h=.ok (.int j) h) (hr:h[r]?=some (.list vs)) (hj:j < vs.length) :
  exSs true F (.setIdx o i e::ss) ρ h=exSs true F ss ρ (h.set r (.list (vs.set j v))):=by
 have e:seti h (.ref r) (.int j) v=some (h.set r (.list (vs.set j v))):=by
  unfold seti;simp only[hr];show Option.map _ (place vs.length (j:Int))=_;rw[zpo hj];rfl
 rw[ss_cons',zqX,ee,R.st_ok,eo,R.st_ok,ei,R.st_ok,e];rfl
theorem zg8 {α:Type}(X:List α) (r:α) (Y:List α):(X++r::Y)[X.length]?=some r:=by rw[List.getElem?_append_right (Nat.le_refl _),Nat.sub_self];rfl
theorem zfM {α:Type}(X:List α) (r r':α) (Y:List α):(X++r::Y).set X.length r'=X++r'::Y:=by rw[set_append_right _ _ (Nat.le_refl _),Nat.sub_self];rfl
theorem znx (hv:litems h v=some (IR (X++Y))) (hy:∀ r∈Y,r.length=N) (hN:X.length < N) (hl:(X++Y).length≤1000) :
  (pcall h (run PP (n+1) true "pivot_row" [v,.int (X.length:Nat)] h)=.ok .none h∧∀ r∈Y,fn r X.length=0)∨∃ M r Z,Y=M++r::Z∧fn r X.length≠0∧pcall h (run PP (n+1) true "pivot_row" [v,.int (X.length:Nat)] h)=.ok (.int ((X.length+M.length:Nat):Int)) h:=by
 have v0:∀ w,evE true (run PP n) [v,.int (X.length:Nat),w] (.v 0) h=.ok v h:=fun w=>zao rfl (zbC hv).val;have ln:=zaO (v0 .uu) hv;rw[zhc] at ln;have it:=zfN (F:=run PP n) (ρ:=[v,.int (X.length:Nat),.uu]) (h:=h) (a:=.v 1) (i:=X.length) rfl ln (zX (by rw[zQ];exact Nat.le_add_right ..) hl) hl
 rw[zQ,Nat.add_sub_cancel_left] at it;have at':∀ k,k < Y.length→(X++Y)[X.length+k]?=some (Y.getD k []):=fun k hk=>by
  rw[List.getElem?_append_right (Nat.le_add_right ..),Nat.add_sub_cancel_left,List.getD_eq_getElem?_getD,zM hk];rfl
 have ed:∀ k,k < Y.length→evE true (run PP n) [v,.int (X.length:Nat),.int ((X.length+k:Nat):Int)] (.cmp .ne (.idx (.idx (.v 0) (.v 2)) (.v 1)) (.int 0)) h=.ok (.bool (!decide (fn (Y.getD k []) X.length=0))) h:=fun k hk=>by
  have hm:Y.getD k []∈Y:=by rw[List.getD_eq_getElem?_getD,zM hk];exact getElem_mem hk
  exact zol (zaP (zaP (v0 _) (zao (v:=.int ((X.length+k:Nat):Int)) rfl trivial) hv (zkj (at' k hk))) (zao (v:=.int (X.length:Nat)) rfl trivial) (litems_lst _ _) (ints_at (by rw[hy _ hm];exact hN))) (w:=.int 0) rfl (pyEq_int ..)
 rcases zo7 (F:=run PP n) (ρ:=[v,.int (X.length:Nat),.uu]) (x:=2) (body:=[.ifs (.cmp .ne (.idx (.idx (.v 0) (.v 2)) (.v 1)) (.int 0)) [.ret (.v 2)] []]) (w₀:=.uu) (fun k=>decide (fn (Y.getD k []) X.length=0)) it rfl rfl (fun k hk hb=>(zaW ((ed k (List.mem_range.1 hk)).trans (by rw[hb];rfl))).trans rfl) with⟨all,w,e⟩|⟨p,k,q,hp,_,hb,e⟩
 ·refine .inl ⟨by rw[start zcT rfl (ρ:=[v,.int (X.length:Nat),.uu]) rfl (zaB e (zaA rfl)),pcall_none],fun r hr=>?_⟩
  obtain⟨k,hk,rfl⟩:=getElem_of_mem hr;have:=zV (all k (List.mem_range.2 hk));rw[List.getD_eq_getElem?_getD,zM hk] at this;exact this
 ·obtain⟨rfl,hk⟩:=range_at hp
  refine .inr ⟨Y.take p.length,Y.getD p.length [],Y.drop (p.length+1),?_,of_decide_eq_false hb,?_⟩
  ·rw[List.getD_eq_getElem?_getD,zM hk]
   show Y=Y.take p.length++Y[p.length]::Y.drop (p.length+1);rw[←List.drop_eq_getElem_cons hk,take_append_drop]
  ·rw[length_take,Nat.min_eq_left (Nat.le_of_lt hk),start zcT rfl (ρ:=[v,.int (X.length:Nat),.uu]) rfl (zgK (e _ _ _ ((zbk ((ed p.length hk).trans (by rw[hb];rfl))).trans rfl))),pcall_int]
noncomputable def Ew (r:Nat) (la sg:Int) (a3 a4 a5 a6 a7:V):List V:=[.ref r,.int la,.int sg,a3,a4,a5,a6,a7,.uu,.uu]
theorem zbJ (R:List (List Int)):litems (h++[.list (IR R)]) (.ref h.length)=some (IR R):=zab (zah _ _)
theorem zmQ {X M Z:List (List Int)}{r0 r:List Int}{a:Nat}{la sg:Int}{a5 a6 a7:V}{ss:List PS}(ha:a=X.length) :
  ∃ w5,exSs true F (.ifs (.cmp .ne (.v 4) (.v 3)) [
   .asg 5 (.idx (.v 0) (.v 3)),
   .setIdx (.v 0) (.v 3) (.idx (.v 0) (.v 4)),
   .setIdx (.v 0) (.v 4) (.v 5),
   .asg 2 (.bin .sub (.int 0) (.v 2))] []::ss) (Ew h.length la sg (.int (a:Nat)) (.int ((a+(M.length+1):Nat):Int)) a5 a6 a7) (h++[.list (IR (X++r0::(M++r::Z)))])=exSs true F ss (Ew h.length la (-sg) (.int (a:Nat)) (.int ((a+(M.length+1):Nat):Int)) w5 a6 a7) (h++[.list (IR (X++r::(M++r0::Z)))]):=by
 subst ha;have t:=zol (F:=F) (ρ:=Ew h.length la sg (.int (X.length:Nat)) (.int ((X.length+(M.length+1):Nat):Int)) a5 a6 a7) (h:=h++[.list (IR (X++r0::(M++r::Z)))]) (a:=.v 4) (b:=.v 3) (v:=.int ((X.length+(M.length+1):Nat):Int)) (w:=.int (X.length:Nat)) rfl rfl (pyEq_int ..);rw[zU fun e=>absurd (Int.natCast_inj.1 e) (Nat.ne_of_gt (Nat.lt_add_of_pos_right (Nat.succ_pos _)))] at t;have e1:=zg8 X r0 (M++r::Z)
 have l2:∀ x:List Int,(X++x::M).length=X.length+(M.length+1):=fun x=>by rw[zQ];rfl
 have c2:∀ x y:List Int,X++x::(M++y::Z)=(X++x::M)++y::Z:=fun x y=>by rw[yJ];rfl
 have e2:∀ x y:List Int,(X++x::(M++y::Z))[X.length+(M.length+1)]?=some y:=fun x y=>by rw[c2,← l2 x];exact zg8 ..
 have s2:∀ x y z:List Int,(X++x::(M++y::Z)).set (X.length+(M.length+1)) z=X++x::(M++z::Z):=fun x y z=>by rw[c2,← l2 x,zfM,← c2]
 have hl:∀ x y:List Int,(IR (X++x::(M++y::Z))).length=X.length+(M.length+1)+(Z.length+1):=fun x y=>by rw[zhc,c2,zQ,l2];rfl
 refine⟨.l (r0.map V.int),?_⟩;rw[zbk t,cons_append,zap (zaP (v:=.ref h.length) rfl (ei:=rfl) (zbJ _) (zkj e1)),cons_append,zd9 (o:=.v 0) (i:=.v 3) (r:=h.length) (j:=X.length) (zaP (v:=.ref h.length) rfl (ei:=rfl) (zbJ _) (zkj (e2 r0 r))) rfl rfl (zah _ _) (by rw[hl];exact Nat.lt_of_lt_of_le (Nat.lt_add_of_pos_right (Nat.succ_pos _)) (Nat.le_add_right ..)),za6,zki,zfM,cons_append,
  zd9 (o:=.v 0) (i:=.v 4) (r:=h.length) (j:=X.length+(M.length+1)) (e:=.v 5) (v:=.l (r0.map V.int)) rfl rfl rfl (zah _ _) (by rw[hl];exact Nat.lt_add_of_pos_right (Nat.succ_pos _)),za6,zki,s2,cons_append,zap (zfn (x:=0) (y:=sg) rfl rfl),Int.zero_sub]
 rfl
end
section
variable {n:Nat}{h g:H}{F:Fn}{ρ:List V}
noncomputable def up (N a:Nat) (hd:List Int) (la:Int) (r:List Int):List Int:=(List.range N).map fun t=>(fn r t * fn hd a - fn r a * fn hd t).fdiv la
theorem zl4 (N a:Nat) (hd:List Int) (la:Int) (r:List Int):(up N a hd la r).length=N:=by unfold up;rw[zJ,length_range]
theorem zqQ {N a:Nat}{hd r:List Int}(la:Int) (h1:r.length=N) (h2:hd.length=N):fn (up N a hd la r)=fun j=>(el (fn hd) a (fn r) j).fdiv la:=by
 funext j
 unfold el;rw[Int.mul_comm (fn hd a)]
 by_cases hj:j < N
 ·show(up N a hd la r).getD j 0=_
  unfold up;rw[List.getD_eq_getElem?_getD,List.getElem?_map,List.getElem?_range hj];rfl
 ·have hj:=Nat.le_of_not_lt hj
  rw[zjA (by rw[zl4];exact hj),zjA (r:=r) (by rw[h1];exact hj),zjA (r:=hd) (j:=j) (by rw[h2];exact hj),Int.zero_mul,Int.mul_zero]
  exact(Int.zero_fdiv la).symm
theorem zqP {N b a:Nat}{hd r:List Int}(la:Int) (k:RK N b r) (k':RK N b hd):RK N (2 * b+1) (up N a hd la r):=by
 refine⟨zl4 ..,fun x hx=>?_⟩;obtain⟨t,_,rfl⟩:=yQ.1 hx;rw[Nat.two_mul];exact(((k.bt t).mul (k'.bt a)).sub ((k.bt a).mul (k'.bt t))).fdiv la
inductive InvW (h:H) (X:List (List Int)) (hd:List Int) (L:List (List Int)) (f:List Int→List Int) (la sg:Int) (a5:V) (q:List Nat):List V→H→Prop
 |mk {w w7:V}{T U:List (List Int)}(e:L=T++U) (l:T.length=q.length):InvW h X hd L f la sg a5 q (Ew h.length la sg (.int (X.length:Nat)) w a5 (.l (hd.map V.int)) w7) (h++[.list (IR (X++hd::(T.map f++U)))])
set_option tactic.hygienic true in
theorem zmS {N b:Nat}{X L:List (List Int)}{hd:List Int}{la sg:Int}{w4 a5 a7:V}(rk:∀ r∈L,RK N b r) (kh:RK N b hd) (hN:X.length < N) (hl:X.length+1+L.length=N) (h24:N≤16) (b2:b+b≤134217728) (h0:la≠0) :
  ∃ w w7,exS true F (.for1 4 (.range2 (.bin .add (.v 3) (.int 1)) (.bf .len (.v 0))) [
   .asg 7 (.idx (.v 0) (.v 4)),
   .setIdx (.v 0) (.v 4) (.comp (.bin .fdiv (.bin .sub (.bin .mul (.idx (.v 7) (.v 9)) (.idx (.v 6) (.v 3))) (.bin .mul (.idx (.v 7) (.v 3)) (.idx (.v 6) (.v 9)))) (.v 1)) 9 (.range1 (.bf .len (.v 7))) .none)]) (Ew h.length la sg (.int (X.length:Nat)) w4 a5 (.l (hd.map V.int)) a7) (h++[.list (IR (X++hd::L))]) =
  .ok .next (Ew h.length la sg (.int (X.length:Nat)) w a5 (.l (hd.map V.int)) w7) (h++[.list (IR (X++hd::L.map (up N X.length hd la)))]):=by
 have n6:N≤1000000:=zX h24 (by decide)
 have lR:∀ Y:List (List Int),Y.length=L.length→(IR (X++hd::Y)).length=N:=fun Y e=>by rw[zhc,zQ,length_cons,e,Nat.add_comm L.length,← Nat.add_assoc];exact hl
 have ln:=zaO (F:=F) (ρ:=Ew h.length la sg (.int (X.length:Nat)) w4 a5 (.l (hd.map V.int)) a7) (h:=h++[.list (IR (X++hd::L))]) (a:=.v 0) (v:=.ref h.length) rfl (zbJ _);rw[lR L rfl] at ln;have it:=zfN (F:=F) (ρ:=Ew h.length la sg (.int (X.length:Nat)) w4 a5 (.l (hd.map V.int)) a7) (h:=h++[.list (IR (X++hd::L))]) (a:=.bin .add (.v 3) (.int 1)) (i:=X.length+1) (zb5 (x:=X.length) (y:=1) rfl rfl) ln (zX hN (zX h24 (by decide))) (zX h24 (by decide))
 have eL:N - (X.length+1)=L.length:=by rw[←hl,Nat.add_sub_cancel_left]
 rw[eL] at it;obtain⟨ρ',g',e,I⟩:=zaE (F:=F) (x:=4) (body:=[
   .asg 7 (.idx (.v 0) (.v 4)),
   .setIdx (.v 0) (.v 4) (.comp (.bin .fdiv (.bin .sub (.bin .mul (.idx (.v 7) (.v 9)) (.idx (.v 6) (.v 3))) (.bin .mul (.idx (.v 7) (.v 3)) (.idx (.v 6) (.v 9)))) (.v 1)) 9 (.range1 (.bf .len (.v 7))) .none)]) (InvW h X hd L (up N X.length hd la) la sg a5) it (fun z z z z=>rfl) (InvW.mk (T:=[]) rfl rfl) (fun p a q ρ g hp I=>by
  cases I with
  |mk eT lT =>
  rename_i w w7 T U
  obtain⟨rfl,hlt⟩:=range_at hp
  cases U with
  |nil=>rw[eT,append_nil,lT] at hlt;exact absurd hlt (Nat.lt_irrefl _)
  |cons r U =>
  have hr:r∈L:=by rw[eT];exact mem_append_right _ (zZ ..)
  have kr:=rk r hr;have lX:(X++hd::T.map (up N X.length hd la)).length=X.length+1+p.length:=by rw[zQ,length_cons,zJ,lT,Nat.add_comm p.length,Nat.add_assoc]
  have eR:∀ x:List Int,X++hd::(T.map (up N X.length hd la)++x::U)=(X++hd::T.map (up N X.length hd la))++x::U:=fun x=>by rw[yJ];rfl
  have er:(X++hd::(T.map (up N X.length hd la)++r::U))[X.length+1+p.length]?=some r:=by rw[eR,← lX];exact zg8 ..
  generalize hG:h++[Cell.list (IR (X++hd::(T.map (up N X.length hd la)++r::U)))]=G;have hRW:litems G (.ref h.length)=some (IR (X++hd::(T.map (up N X.length hd la)++r::U))):=by rw[←hG];exact zbJ _
  have entry:∀ t,t < N→evE true F ((Ew h.length la sg (.int (X.length:Nat)) (.int ((X.length+1+p.length:Nat):Int)) a5 (.l (hd.map V.int)) (.l (r.map V.int))).set 9 (.int (t:Nat))) (.bin .fdiv (.bin .sub (.bin .mul (.idx (.v 7) (.v 9)) (.idx (.v 6) (.v 3))) (.bin .mul (.idx (.v 7) (.v 3)) (.idx (.v 6) (.v 9)))) (.v 1)) G=.ok (.int ((fn r t * fn hd X.length - fn r X.length * fn hd t).fdiv la)) G:=fun t ht=>by
   have ix:∀ {k i:Nat}{l:List Int}{j:Nat},((Ew h.length la sg (.int (X.length:Nat)) (.int ((X.length+1+p.length:Nat):Int)) a5 (.l (hd.map V.int)) (.l (r.map V.int))).set 9 (.int (t:Nat)))[k]?=some (.l (l.map V.int))→((Ew h.length la sg (.int (X.length:Nat)) (.int ((X.length+1+p.length:Nat):Int)) a5 (.l (hd.map V.int)) (.l (r.map V.int))).set 9 (.int (t:Nat)))[i]?=some (.int (j:Nat))→j < l.length→evE true F ((Ew h.length la sg (.int (X.length:Nat)) (.int ((X.length+1+p.length:Nat):Int)) a5 (.l (hd.map V.int)) (.l (r.map V.int))).set 9 (.int (t:Nat))) (.idx (.v k) (.v i)) G=.ok (.int (fn l j)) G:=fun h1 h2 h3=>zaP (zao h1 trivial) (zao h2 trivial) (litems_lst _ _) (ints_at h3)
   exact zbD (y:=la) (zfn (zj1 (ix (k:=7) (i:=9) (l:=r) (j:=t) rfl rfl (by rw[kr.1];exact ht)) (ix (k:=6) (i:=3) (l:=hd) (j:=X.length) rfl rfl (by rw[kh.1];exact hN)) (kr.bt t) (kh.bt _) b2) (zj1 (ix (k:=7) (i:=3) (l:=r) (j:=X.length) rfl rfl (by rw[kr.1];exact hN)) (ix (k:=6) (i:=9) (l:=hd) (j:=t) rfl rfl (by rw[kh.1];exact ht)) (kr.bt _) (kh.bt t) b2)) rfl h0
  have ln:=zaO (F:=F) (ρ:=Ew h.length la sg (.int (X.length:Nat)) (.int ((X.length+1+p.length:Nat):Int)) a5 (.l (hd.map V.int)) (.l (r.map V.int))) (h:=G) (a:=.v 7) (v:=.l (r.map V.int)) rfl (litems_lst _ _);rw[zJ,kr.1] at ln;have ec:=zbL (x:=9) (zbp ln n6) rfl (fun t:Nat=>V.int ((fn r t * fn hd X.length - fn r X.length * fn hd t).fdiv la)) (fun t ht=>entry t (List.mem_range.1 ht)) (r:=.l ((up N X.length hd la r).map V.int)) (by
   unfold up;rw[map_map];exact za1 (by rw[zJ,length_range];exact n6))
  have lT':(T.map (up N X.length hd la)++r::U).length=L.length:=by rw[eT,zQ,zQ,zJ]
  refine⟨Ew h.length la sg (.int (X.length:Nat)) (.int ((X.length+1+p.length:Nat):Int)) a5 (.l (hd.map V.int)) (.l (r.map V.int)),h++[.list (IR (X++hd::(T.map (up N X.length hd la)++up N X.length hd la r::U)))],((zap (zaP (v:=.ref h.length) (a:=.v 0) (i:=.v 4) rfl rfl hRW (zkj er))).trans (zd9 (o:=.v 0) (i:=.v 4) (r:=h.length) (j:=X.length+1+p.length) (vs:=IR (X++hd::(T.map (up N X.length hd la)++r::U))) ec rfl rfl (by rw[←hG];exact zah _ _) (by rw[lR _ lT',← hl];exact Nat.add_lt_add_left hlt _))).trans (by
   have es:(X++hd::(T.map (up N X.length hd la)++r::U)).set (X.length+1+p.length) (up N X.length hd la r)=X++hd::(T.map (up N X.length hd la)++up N X.length hd la r::U):=by rw[eR,← lX,zfM,← eR]
   rw[←hG,za6,zki,es];rfl),?_⟩
  have:=InvW.mk (h:=h) (X:=X) (hd:=hd) (L:=L) (f:=up N X.length hd la) (la:=la) (sg:=sg) (a5:=a5) (q:=p++[p.length]) (w:=.int ((X.length+1+p.length:Nat):Int)) (w7:=.l (r.map V.int)) (T:=T++[r]) (U:=U) (by rw[eT,yJ];rfl) (by rw[zQ,zQ,lT];rfl)
  rw[map_append,yJ] at this;exact this)
 cases I with
 |mk eT lT =>
 rename_i w w7 T U
 rw[length_range] at lT;have:U=[]:=eq_nil_of_length_eq_zero (by
  have:=congrArg List.length eT;rw[zQ,lT] at this;exact Nat.left_eq_add.1 this)
 subst this;rw[append_nil] at eT;subst eT;rw[append_nil] at e;exact⟨w,w7,e⟩
end
theorem zda (hv:v.plain=true) (h k:H):pcall h (.ok v (h++k))=.ok v h:=by
 show(if(h++k).take h.length=h then R.opt (frz h.length (h++k) v) h else .bad)=_;rw[zT (take_left' rfl),zau _ _ _ hv];rfl
theorem zfO (h:a < N):∃ J,List.range N=List.range a++a::J:=by
 refine⟨(List.range N).drop (a+1),?_⟩;have e:=List.drop_eq_getElem_cons (l:=List.range N) (i:=a) (by rw[length_range];exact h)
 rw[getElem_range] at e;rw[←e];have:=take_append_drop a (List.range N);rw[List.take_range,Nat.min_eq_left (Nat.le_of_lt h)] at this;exact this.symm
noncomputable def swPs:List PS:=[
   .asg 5 (.idx (.v 0) (.v 3)),
   .setIdx (.v 0) (.v 3) (.idx (.v 0) (.v 4)),
   .setIdx (.v 0) (.v 4) (.v 5),
   .asg 2 (.bin .sub (.int 0) (.v 2))]
noncomputable def woBody:List PS:=[
  .asg 4 (.call false "pivot_row" [.v 0,.v 3]),
  .ifs (.cmp .is (.v 4) .none) [
   .ret (.int 0)] [],
  .ifs (.cmp .ne (.v 4) (.v 3)) swPs [],
  .asg 6 (.idx (.v 0) (.v 3)),
  .for1 4 (.range2 (.bin .add (.v 3) (.int 1)) (.bf .len (.v 0))) [
   .asg 7 (.idx (.v 0) (.v 4)),
   .setIdx (.v 0) (.v 4) (.comp (.bin .fdiv (.bin .sub (.bin .mul (.idx (.v 7) (.v 9)) (.idx (.v 6) (.v 3))) (.bin .mul (.idx (.v 7) (.v 3)) (.idx (.v 6) (.v 9)))) (.v 1)) 9 (.range1 (.bf .len (.v 7))) .none)],
  .asg 1 (.idx (.v 6) (.v 3))]
section
variable {n:Nat}{h g:H}{F:Fn}{ρ:List V}
theorem zpn (h:sg=1∨sg=-1):-sg=1∨-sg=-1:=h.elim (fun e=>.inr (by rw[e])) fun e=>.inl (by rw[e];rfl)
theorem zqN {Q QM QZ:List (List Int × (Nat→Int))}{q:List Int × (Nat→Int)}{Pr:List (Nat→Int)}(eQ:Q=QM++q::QZ) (hs:sg=1∨sg=-1) :
  ∃ L sg1 w5,(∀ x∈q::L,x∈Q)∧L.length+1=Q.length∧(sg1=1∨sg1=-1)∧sg1 * D cs (Pr++(q::L).map (·.2))=sg * D cs (Pr++Q.map (·.2)) ∧
  exSs true F (.ifs (.cmp .ne (.v 4) (.v 3)) swPs []::ss) (Ew h.length la sg (.int (X.length:Nat)) (.int ((X.length+QM.length:Nat):Int)) a5 a6 a7) (h++[.list (IR (X++Q.map (·.1)))])=exSs true F ss (Ew h.length la sg1 (.int (X.length:Nat)) (.int ((X.length+QM.length:Nat):Int)) w5 a6 a7) (h++[.list (IR (X++(q::L).map (·.1)))]):=by
 subst eQ
 cases QM with
 |nil =>
  have t:=zol (F:=F) (ρ:=Ew h.length la sg (.int (X.length:Nat)) (.int ((X.length+0:Nat):Int)) a5 a6 a7) (h:=h++[.list (IR (X++(q::QZ).map (·.1)))]) (a:=.v 4) (b:=.v 3) (v:=.int ((X.length+0:Nat):Int)) (w:=.int (X.length:Nat)) rfl rfl (pyEq_int ..);rw[zW (Int.natCast_inj.2 (Nat.add_zero _))] at t;exact⟨QZ,sg,a5,fun z h=>h,rfl,hs,rfl,(zaW t).trans rfl⟩
 |cons q0 QM =>
  obtain⟨w5,e⟩:=zmQ (F:=F) (h:=h) (X:=X) (M:=QM.map (·.1)) (Z:=QZ.map (·.1)) (r0:=q0.1) (r:=q.1) (la:=la) (sg:=sg) (a5:=a5) (a6:=a6) (a7:=a7) (ss:=ss) rfl;rw[zJ] at e;have e1:∀ x y:List Int × (Nat→Int),(x::(QM++y::QZ)).map (·.1)=x.1::(QM.map (·.1)++y.1::QZ.map (·.1)):=fun x y=>by rw[yY,map_append];rfl
  have e2:∀ x y:List Int × (Nat→Int),(x::(QM++y::QZ)).map (·.2)=x.2::(QM.map (·.2)++y.2::QZ.map (·.2)):=fun x y=>by rw[yY,map_append];rfl
  refine⟨QM++q0::QZ,-sg,w5,fun x hx=>?_,?_,zpn hs,?_,?_⟩
  ·rcases zN.1 hx with rfl|hx
   ·exact mem_append_right _ (zZ ..)
   ·rcases zP.1 hx with hx|hx
    ·exact zY _ (mem_append_left _ hx)
    ·rcases zN.1 hx with rfl|hx
     ·exact zZ ..
     ·exact mem_append_right _ (zY _ hx)
  ·rw[cons_append,length_cons,zQ,zQ];rfl
  ·rw[cons_append,e2,e2,zqF Pr (QM.map (·.2)) (QZ.map (·.2)),Int.neg_mul_neg]
  ·rw[cons_append,e1,e1];exact e
inductive WI (h:H) (N:Nat) (D0:Int) (p:List Nat):List V→H→Prop
 |mk {X:List (List Int)}{Q:List (List Int × (Nat→Int))}{Pr:List (Nat→Int)}{la sg:Int}{w3 w4 w5 w6 w7:V}(hX:X.length=p.length) (hN:p.length+Q.length=N) (rk:∀ q∈Q,RK N (bb p.length) q.1) (bi:BI (List.range p.length) Pr la (Q.map fun q=>(fn q.1,q.2))) (lb:Bt (bb p.length) la) (hla:la=D (List.range p.length) Pr) (hs:sg=1∨sg=-1) (hd:sg * D (List.range N) (Pr++Q.map (·.2))=D0):WI h N D0 p (Ew h.length la sg w3 w4 w5 w6 w7) (h++[.list (IR (X++Q.map (·.1)))])
inductive WP (h:H) (D0:Int):V→List V→H→Prop
 |mk (R:List (List Int)) (ρ:List V) (e:D0=0):WP h D0 (.int 0) ρ (h++[.list (IR R)])
set_option tactic.hygienic true in
theorem zmR {N:Nat}{D0:Int}(hN:N≤16){p:List Nat}(hp:p.length < N){ρ:List V}{g:H}(I:WI h N D0 p ρ g) :
  (∃ ρ' g',exSs true (run PP (n+1)) woBody (ρ.set 3 (.int (p.length:Nat))) g=.ok .next ρ' g'∧WI h N D0 (p++[p.length]) ρ' g')∨∃ v ρ' g',exSs true (run PP (n+1)) woBody (ρ.set 3 (.int (p.length:Nat))) g=.ok (.ret v) ρ' g'∧WP h D0 v ρ' g':=by
 cases I with
 |mk hX hQ rk bi lb hla hs hd =>
 rename_i X Q Pr la sg w3 w4 w5 w6 w7
 rw[←hX] at hp ⊢
 have ec:∀ {v:V},pcall (h++[.list (IR (X++Q.map (·.1)))]) (run PP (n+1) true "pivot_row" [.ref h.length,.int (X.length:Nat)] (h++[.list (IR (X++Q.map (·.1)))]))=.ok v (h++[.list (IR (X++Q.map (·.1)))])→exSs true (run PP (n+1)) woBody (Ew h.length la sg (.int (X.length:Nat)) w4 w5 w6 w7) (h++[.list (IR (X++Q.map (·.1)))])=exSs true (run PP (n+1)) (woBody.drop 1) (Ew h.length la sg (.int (X.length:Nat)) v w5 w6 w7) (h++[.list (IR (X++Q.map (·.1)))]):=fun e =>
  (zap (zb2 (a:=.v 0) (b:=.v 3) (v:=.ref h.length) (w:=.int (X.length:Nat)) rfl rfl e)).trans rfl
 rw[←hX] at hQ rk bi lb hla;have hne:Q≠[]:=fun e=>by rw[e] at hQ;exact absurd hQ (Nat.ne_of_lt hp)
 rcases znx (n:=n) (h:=h++[.list (IR (X++Q.map (·.1)))]) (X:=X) (Y:=Q.map (·.1)) (N:=N) (zbJ _) (fun r hr=>by obtain⟨q,hq,rfl⟩:=yQ.1 hr;exact(rk q hq).1) hp (by rw[zQ,zJ,hQ];exact zX hN (by decide)) with⟨e,hz⟩|⟨M,r,Z,eY,hr,e⟩
 ·refine .inr ⟨_,_,_,(ec e).trans ((zbk (by rfl)).trans rfl),⟨_,_,?_⟩⟩
  obtain⟨J,eJ⟩:=zfO hp;have z:=bi.zero (J:=J) (c:=X.length) (fun q hq=>by
   obtain⟨x,hx,rfl⟩:=yQ.1 hq;exact hz x.1 (yQ.2 ⟨x,hx,rfl⟩)) (fun e=>hne (List.map_eq_nil_iff.1 e))
  rw[map_map] at z;rw[←hd,eJ,show D (List.range X.length++X.length::J) (Pr++Q.map (·.2))=0 from z,Int.mul_zero]
 ·obtain⟨QM,Q2,eQ,eM,e2⟩:=List.map_eq_append_iff.1 eY
  obtain⟨q,QZ,rfl,rfl,eZ⟩:=List.map_eq_cons_iff.1 e2;rw[←eM,zJ] at e;obtain⟨L,sg1,v5,mem,lL,hs1,hd1,e1⟩:=zqN (F:=run PP (n+1)) (h:=h) (X:=X) (Pr:=Pr) (cs:=List.range N) (la:=la) (a5:=w5) (a6:=w6) (a7:=w7) (ss:=woBody.drop 3) eQ hs;have mq:=mem q (zZ ..);have bL:bb X.length+bb X.length≤134217728:=zX (Nat.add_le_add (zgi (zX (Nat.le_of_lt hp) hN)) (zgi (zX (Nat.le_of_lt hp) hN))) (by decide)
  obtain⟨w,w7',e3⟩:=zmS (F:=run PP (n+1)) (h:=h) (X:=X) (L:=L.map (·.1)) (hd:=q.1) (sg:=sg1) (w4:=.int ((X.length+QM.length:Nat):Int)) (a5:=v5) (a7:=w7) (fun r hr=>by obtain⟨x,hx,rfl⟩:=yQ.1 hr;exact rk x (mem x (zY _ hx))) (rk q mq) hp (by rw[zJ,Nat.add_assoc,Nat.add_comm 1,lL];exact hQ) hN bL bi.ne
  refine .inl ⟨Ew h.length (fn q.1 X.length) sg1 (.int (X.length:Nat)) w v5 (.l (q.1.map V.int)) w7',h++[.list (IR (X++q.1::(L.map (·.1)).map (up N X.length q.1 la)))],(ec e).trans ((zaW (by rfl)).trans (e1.trans ((zap (x:=6) (zaP (v:=.ref h.length) (a:=.v 0) (i:=.v 3) (j:=X.length) rfl rfl (zbJ _) (zkj (zg8 X q.1 (L.map (·.1)))))).trans (Eq.trans (b:=exSs true (run PP (n+1)) (woBody.drop 5) (Ew h.length la sg1 (.int (X.length:Nat)) w v5 (.l (q.1.map V.int)) w7') (h++[.list (IR (X++q.1::(L.map (·.1)).map (up N X.length q.1 la)))])) ?_ ((zap (x:=1) (zaP (v:=.l (q.1.map V.int)) (a:=.v 6) (i:=.v 3) (j:=X.length) rfl rfl (litems_lst _ _) (ints_at (by rw[(rk q mq).1];exact hp)))).trans rfl))))),?_⟩
  ·refine Eq.trans ?_ (congrArg (fun r:RS=>r.then fun ρ h=>exSs true (run PP (n+1)) (woBody.drop 5) ρ h) e3)
   rfl
  ·have lq:(p++[X.length]).length=X.length+1:=by rw[zQ,hX];rfl
   have bs:=bi.step (q0:=(fn q.1,q.2)) (c:=X.length) (L:=L.map fun q=>(fn q.1,q.2)) (yQ.2 ⟨q,mq,rfl⟩) hr (fun x hx=>by
    obtain⟨y,hy,rfl⟩:=yQ.1 hx;exact yQ.2 ⟨y,mem y (zY _ hy),rfl⟩)
   have bl:=bi.last (q0:=(fn q.1,q.2)) (c:=X.length) (yQ.2 ⟨q,mq,rfl⟩);have eS:(L.map fun x=>(up N X.length q.1 la x.1,x.2)).map (fun q=>(fn q.1,q.2))=(L.map fun q=>(fn q.1,q.2)).map (stp (fn q.1) X.length la):=by
    rw[map_map,map_map];refine map_congr_left fun x hx=>?_;show(fn (up N X.length q.1 la x.1),x.2)=(fun j=>(el (fn q.1) X.length (fn x.1) j).fdiv la,x.2);rw[zqQ la (rk x (mem x (zY _ hx))).1 (rk q mq).1]
   rw[←List.range_succ] at bs bl;have:=WI.mk (h:=h) (N:=N) (D0:=D0) (p:=p++[X.length]) (X:=X++[q.1]) (Q:=L.map fun x=>(up N X.length q.1 la x.1,x.2)) (Pr:=Pr++[q.2]) (la:=fn q.1 X.length) (sg:=sg1) (w3:=.int (X.length:Nat)) (w4:=w) (w5:=v5) (w6:=.l (q.1.map V.int)) (w7:=w7') (by rw[lq,zQ];rfl) (by rw[lq,zJ,Nat.add_assoc,Nat.add_comm 1,lL];exact hQ) (fun x hx=>by
     obtain⟨y,hy,rfl⟩:=yQ.1 hx;rw[lq];exact zqP la (rk y (mem y (zY _ hy))) (rk q mq)) (by rw[lq,eS];exact bs) (by rw[lq];exact((rk q mq).bt _).mono (zqv _)) (by rw[lq];exact bl) hs1 (by
     rw[←hd,← hd1,yJ,map_map];rfl)
   rw[yJ,map_map] at this;rw[map_map];exact this
set_option tactic.hygienic true in
theorem zmP {N:Nat}{R:List (List Int)}(lR:R.length=N) (rk:∀ r∈R,RK N 7 r) (hN:N≤16):Bt 600000 (D (List.range N) (R.map fn))∧pcall h (run PP (n+2) true "worth" [.l (IR R)] h)=.ok (.int (D (List.range N) (R.map fn))) h:=by
 have n6:N≤1000000:=zX hN (by decide)
 have ec:=zbL (F:=run PP (n+1)) (ρ:=[.l (IR R),.uu,.uu,.uu,.uu,.uu,.uu,.uu,.uu,.uu]) (h:=h) (elt:=.bf .list (.v 8)) (x:=8) (l:=R) (c:=fun r=>.l (r.map V.int)) (zbq (a:=.v 0) (vs:=IR R) rfl) rfl (fun r=>.l (r.map V.int)) (fun r u=>zmi (v:=.l (r.map V.int)) rfl (litems_lst _ _)) (r:=.l (IR R)) (za1 (by rw[zJ,lR];exact n6))
 have ln:=zaO (F:=run PP (n+1)) (ρ:=Ew h.length 1 1 .uu .uu .uu .uu .uu) (h:=h++[.list (IR R)]) (a:=.v 0) (v:=.ref h.length) rfl (zbJ R);rw[zhc,lR] at ln;have go:∀ {res:Mine.R V},(exSs true (run PP (n+1)) [.for1 3 (.range1 (.bf .len (.v 0))) woBody,.ret (.bin .mul (.v 2) (.v 1))] (Ew h.length 1 1 .uu .uu .uu .uu .uu) (h++[.list (IR R)])).out=res→run PP (n+2) true "worth" [.l (IR R)] h=res:=fun e =>
  start zm2 rfl (ρ:=[.l (IR R),.uu,.uu,.uu,.uu,.uu,.uu,.uu,.uu,.uu]) rfl (zai (zcu ec) rfl (zai (v:=.int 1) rfl rfl (zai (v:=.int 1) rfl (ρ':=Ew h.length 1 1 .uu .uu .uu .uu .uu) rfl e)))
 have I0:WI h N (D (List.range N) (R.map fn)) [] (Ew h.length 1 1 .uu .uu .uu .uu .uu) (h++[.list (IR R)]):=by
  have e1:(R.map fun r=>(r,fn r)).map (·.1)=R:=by rw[map_map];exact List.map_id' R
  have:=WI.mk (h:=h) (N:=N) (D0:=D (List.range N) (R.map fn)) (p:=[]) (X:=[]) (Q:=R.map fun r=>(r,fn r)) (Pr:=[]) (la:=1) (sg:=1) (w3:=.uu) (w4:=.uu) (w5:=.uu) (w6:=.uu) (w7:=.uu) rfl (by rw[zJ,length_nil,Nat.zero_add];exact lR) (fun q hq=>by
   obtain⟨r,hr,rfl⟩:=yQ.1 hq;exact rk r hr) (by
   have:=BI.start (R.map fn);rw[map_map] at this ⊢;exact this) (by unfold Bt;decide) rfl (.inl rfl) (by rw[Int.one_mul,map_map];rfl)
  rw[e1] at this;exact this
 rcases ziC (F:=run PP (n+1)) (x:=3) (body:=woBody) (WI h N (D (List.range N) (R.map fn))) (WP h (D (List.range N) (R.map fn))) (zbp ln n6) (fun u u u u=>rfl) I0 (fun p a q ρ g hp I=>by
  obtain⟨rfl,hlt⟩:=range_at hp;exact zmR  hN hlt I) with⟨ρ',g',e,I⟩|⟨v,ρ',g',e,⟨R',_,z⟩⟩
 ·cases I with
  |mk hX hQ rk' bi lb hla hs hd =>
  rename_i X Q Pr la sg w3 w4 w5 w6 w7
  rw[length_range] at lb hQ hla;have:Q=[]:=eq_nil_of_length_eq_zero (Nat.add_left_cancel (n:=N) (k:=0) hQ);subst this;rw[map_nil,append_nil,← hla] at hd;have sb:Bt 1 sg:=by rcases hs with rfl|rfl<;>(unfold Bt;decide)
  have b1:1+bb N≤600000:=zX (Nat.add_le_add_left (zgi hN) 1) (by decide)
  rw[←hd];exact⟨(sb.mul lb).mono b1,by rw[go (zaB e (zaA (zj1 (x:=sg) (y:=la) rfl rfl sb lb (zX b1 (by decide))))),zda rfl]⟩
 ·rw[z]
  exact⟨Bt.zero _,by rw[go (zgK e),zda rfl]⟩
end
noncomputable def ix (K:List (List Nat)) (t:List Nat):V:=.int (K.idxOf t:Nat)
theorem zpS (ht:t ∉ K):dk (ix K) K++[(V.tw t,V.int (K.length:Nat))]=dk (ix (K++[t])) (K++[t]):=by
 rw[zfk];have e1:dk (ix (K++[t])) K=dk (ix K) K:=map_congr_left fun s hs=>by unfold ix;rw[List.idxOf_append,zT hs]
 have e2:ix (K++[t]) t=.int (K.length:Nat):=by unfold ix;rw[List.idxOf_append,zR ht,List.idxOf_cons_self,Nat.zero_add]
 rw[e1,e2]
theorem zon {f:List Nat→V}:∀ {K:List (List Nat)},K.Nodup→dput (V.tw t) v (dk f K)=dk (fun s=>if s=t then v else f s) (touch K t):=by
 intro l__
 induction l__ with
 |nil =>
  intro _;unfold touch;rw[zR not_mem_nil];show _=[(V.tw t,if t=t then v else f t)];rw[zT rfl];rfl
 |cons s K ih =>
  intro nd;rw[yZ] at nd;show(if V.tw t=V.tw s then _ else _)=_
  by_cases e:t=s
  ·subst e
   rw[zT rfl];have e2:touch (t::K) t=t::K:=zT (zZ ..);rw[e2];show _=(V.tw t,if t=t then v else f t)::dk _ K;rw[zT rfl];exact congrArg _ (map_congr_left fun j hj=>by show _=(V.tw j,if j=t then v else f j);rw[zR fun(q:j=t)=>nd.1 (q ▸ hj)])
  ·rw[zR fun q=>e (zgt q)]
   show(V.tw s,f s)::dput (V.tw t) v (dk f K)=_;rw[ih nd.2];have e2:touch (s::K) t=s::touch K t:=by
    unfold touch
    by_cases h:t∈K
    ·rw[zT h,zT (zY _ h)]
    ·rw[zR h,zR fun q=>(zN.1 q).elim e h];rfl
   rw[e2];show _=(V.tw s,if s=t then v else f s)::dk _ _;rw[zR fun q=>e q.symm]
theorem zfA (nd:K.Nodup) (t:List Nat):(touch K t).Nodup:=by
 unfold touch
 by_cases h:t∈K
 ·rw[zT h];exact nd
 ·rw[zR h,nodup_append]
  exact⟨nd,yZ.2 ⟨fun h=>(nomatch h),.nil⟩,fun a ha b hb e=>h (by rw[zK.1 hb] at e;rw[←e];exact ha)⟩
noncomputable def CR (R:List (List Int)):H:=R.map fun r=>Cell.list (r.map V.int)
theorem zoI {g:H}{R:List (List Int)}{i:Nat}{r:List Int}(e:R[i]?=some r):(g++CR R)[g.length+i]?=some (.list (r.map V.int)):=by
 rw[List.getElem?_append_right (Nat.le_add_right ..),Nat.add_sub_cancel_left];unfold CR;rw[List.getElem?_map,e];rfl
theorem zqI (g:H) (R:List (List Int)) (i:Nat) (r:List Int):(g++CR R).set (g.length+i) (.list (r.map V.int))=g++CR (R.set i r):=by
 rw[set_append_right _ _ (Nat.le_add_right ..),Nat.add_sub_cancel_left];unfold CR;rw[map_set]
noncomputable def RV (b N:Nat):List V:=(List.range N).map fun i=>.ref (b+i)
theorem zrz (h:i < N):(RV b N)[i]?=some (.ref (b+i)):=by unfold RV;rw[List.getElem?_map,List.getElem?_range h];rfl
section
variable {n:Nat}{h g:H}{F:Fn}{ρ:List V}
theorem zf9 (ea:evE true F ρ a h=.ok (.ref d) h) (ei:evE true F ρ i h=.ok (V.tw t) h) (hd:h[d]?=some (.dict es)) (hv:dfind (V.tw t) es=some v):evE true F ρ (.idx a i) h=.ok v h:=by
 rw[zee,ea,R.bind_ok,ei,R.bind_ok,zbY hd hv];rfl
noncomputable def Em (S Z:Nat) (bv a3 a4 a5 a6 a7 a8 a9 a10:V):List V:=[.int S,.int Z,bv,a3,a4,a5,a6,a7,a8,a9,a10,.uu,.uu]
theorem zgG (e:ρ[i]?=some (.l (V.nats w))):evE true F ρ (.bf .tuple (.slice (.v i) .none (some (.neg 1)))) h=.ok (V.tw (pre w)) h:=zbB (zc1 (zao e trivial) (IsL.lst _ _)) (IsL.lst _ _)
theorem zoV (e:ρ[i]?=some (.l (V.nats w))):evE true F ρ (.bf .tuple (.slice (.v i) (some (.int 1)) .none)) h=.ok (V.tw (suf w)) h:=zbB (zeV (zao e trivial) (IsL.lst _ _)) (IsL.lst _ _)
end
noncomputable def Kp (p:List (List Nat)):List (List Nat):=(p.map pre).foldl touch []
theorem zkh (p:List (List Nat)) (a:List Nat):Kp (p++[a])=touch (Kp p) (pre a):=by unfold Kp;rw[map_append,List.foldl_append];rfl
theorem zjz:∀ (l K:List (List Nat)),K.Nodup→(l.foldl touch K).Nodup∧(∀ t,t∈l.foldl touch K↔t∈K∨t∈l)∧(l.foldl touch K).length≤K.length+l.length:=by
 intro l__
 induction l__ with
 |nil=>exact fun K nd=>⟨nd,fun t=>⟨.inl,fun h=>h.elim id fun h=>(not_mem_nil h).elim⟩,Nat.le_refl _⟩
 |cons a l ih =>
  intro K nd;obtain⟨h1,h2,h3⟩:=ih (touch K a) (zfA nd a);refine⟨h1,fun t=>?_,zX h3 ?_⟩
  ·rw[foldl_cons,h2,zaN,zN,or_assoc]
  ·rw[length_cons,Nat.add_comm l.length,← Nat.add_assoc];exact Nat.add_le_add_right (zbN ..) _
theorem zb7 (p:List (List Nat)):(Kp p).Nodup:=(zjz _ [] .nil).1
theorem zd1:t∈Kp p↔∃ w∈p,pre w=t:=by
 unfold Kp;rw[(zjz _ [] .nil).2.1,yQ];exact⟨fun h=>h.elim (fun h=>nomatch h) id,.inr⟩
theorem zhb (p:List (List Nat)):(Kp p).length≤p.length:=by
 have:=(zjz (p.map pre) [] .nil).2.2;rw[zJ,length_nil,Nat.zero_add] at this;exact this
theorem zoa:∀ (l:List (List Nat)) (k:List Nat) (K:List (List Nat)),∃ V,l.foldl touch (k::K)=k::V:=by
 intro l__
 induction l__ with
 |nil=>exact fun k K=>⟨K,rfl⟩
 |cons a l ih =>
  intro k K;have e:∃ K',touch (k::K) a=k::K':=by
   unfold touch
   by_cases q:a∈k::K
   ·rw[zT q];exact⟨K,rfl⟩
   ·rw[zR q];exact⟨K++[a],rfl⟩
  obtain⟨K',e⟩:=e;rw[foldl_cons,e];exact ih k K'
theorem zrB (m:List Nat) (l:List (List Nat)):∃ V,Kp (m::l)=pre m::V:=zoa (l.map pre) (pre m) []
section
variable {n:Nat}{h g:H}{F:Fn}{ρ:List V}{B K:List (List Nat)}{S Z:Nat}
inductive I1 (h:H) (S Z:Nat) (bv:V) (p:List (List Nat)):List V→H→Prop
 |mk {w4:V}:I1 h S Z bv p (Em S Z bv (.ref h.length) w4 .uu .uu .uu .uu .uu .uu) (h++[.dict (dk (ix (Kp p)) (Kp p))])
set_option tactic.hygienic true in
theorem ziN (hv:litems h bv=some (V.lists B)) (hn:B.length < 64):∃ ρ' g',exS true F (.for1 4 (.seq (.bf .sorted (.v 2))) [
  .expr (.setdef (.v 3) (.bf .tuple (.slice (.v 4) .none (some (.neg 1)))) (.bf .len (.v 3)))]) (Em S Z bv (.ref h.length) .uu .uu .uu .uu .uu .uu .uu) (h++[.dict []])=.ok .next ρ' g'∧I1 h S Z bv (srt B) ρ' g':=by
 have hv':=zcc hv [.dict []];have es:=zaX (F:=F) (ρ:=Em S Z bv (.ref h.length) .uu .uu .uu .uu .uu .uu .uu) (a:=.v 2) (zao rfl (zbC hv').val) (zbP hv') (zbm _ B hn);refine zaE (F:=F) (x:=4) (l:=srt B) (c:=fun w=>.l (V.nats w)) (I1 h S Z bv) (zbq es) (fun z z z z=>rfl) .mk (fun p a q ρ g hp I=>?_)
 cases I with
 |mk =>
 rename_i w4
 have hl:(Kp p).length≤1000:=by
  have:(srt B).length < 64:=by rw[zfJ];exact hn
  rw[hp,zQ] at this;exact zX (zhb p) (zX (Nat.le_of_lt (Nat.lt_of_le_of_lt (Nat.le_add_right ..) this)) (by decide))
 have st:∀ {v g'},evE true F (Em S Z bv (.ref h.length) (.l (V.nats a)) .uu .uu .uu .uu .uu .uu) (.setdef (.v 3) (.bf .tuple (.slice (.v 4) .none (some (.neg 1)))) (.bf .len (.v 3))) (h++[.dict (dk (ix (Kp p)) (Kp p))])=.ok v g'→exSs true F [.expr (.setdef (.v 3) (.bf .tuple (.slice (.v 4) .none (some (.neg 1)))) (.bf .len (.v 3)))] (Em S Z bv (.ref h.length) (.l (V.nats a)) .uu .uu .uu .uu .uu .uu) (h++[.dict (dk (ix (Kp p)) (Kp p))])=.ok .next (Em S Z bv (.ref h.length) (.l (V.nats a)) .uu .uu .uu .uu .uu .uu) g':=fun e=>(zaD e).trans rfl
 have ee:=zen (F:=F) (ρ:=Em S Z bv (.ref h.length) (.l (V.nats a)) .uu .uu .uu .uu .uu .uu) (a:=.v 3) rfl (zah h (.dict (dk (ix (Kp p)) (Kp p))))
 by_cases ha:pre a∈Kp p
 ·have e:Kp (p++[a])=Kp p:=by rw[zkh];exact zT ha
  have:=I1.mk (h:=h) (S:=S) (Z:=Z) (bv:=bv) (p:=p++[a]) (w4:=.l (V.nats a));rw[e] at this;exact⟨_,_,st (v:=ix (Kp p) (pre a)) (g':=h++[.dict (dk (ix (Kp p)) (Kp p))]) (zec rfl (zgG rfl) (zah _ _) ee (zah _ _) (by rw[zat,zT ha])),this⟩
 ·have e:Kp (p++[a])=Kp p++[pre a]:=by rw[zkh];exact zR ha
  have:=I1.mk (h:=h) (S:=S) (Z:=Z) (bv:=bv) (p:=p++[a]) (w4:=.l (V.nats a));rw[e] at this;exact⟨_,_,st (v:=.int ((Kp p).length:Nat)) (g':=h++[.dict (dk (ix (Kp p++[pre a])) (Kp p++[pre a]))]) (zec rfl (zgG rfl) (zah _ _) ee (zah _ _) (by
   rw[zat,zR ha];show(if(dk (ix (Kp p)) (Kp p)).length≤1000 then _ else _)=_;rw[zb0,zT hl,za6,zpS ha])),this⟩
end
theorem zf1 {α:Type}{f:List Nat→α}{t:List Nat}{x:α}:∀ {K:List (List Nat)},K.Nodup→t∈K→(K.map f).set (K.idxOf t) x=K.map fun u=>if u=t then x else f u:=by
 intro l__
 induction l__ with
 |nil=>exact fun z h=>(not_mem_nil h).elim
 |cons k K ih =>
  intro nd h;rw[yZ] at nd
  by_cases e:k=t
  ·subst e
   rw[List.idxOf_cons_self,yY,yY,zT rfl];exact congrArg (x::·) (map_congr_left fun u hu=>(zR fun e=>nd.1 (by rw[←e];exact hu)).symm)
  ·rw[List.idxOf_cons,show(k == t)=false from beq_false_of_ne e,yY,yY,zR e]
   exact congrArg (f k::·) (ih nd.2 ((zN.1 h).resolve_left fun e'=>e e'.symm))
noncomputable def MF (K E:List (List Nat)):List (List Int):=K.map fun v=>K.map (Lr E v)
theorem zi6 (E:List (List Nat)) (a v:List Nat):lv (E++[a]) v=lv E v++if pre a=v then[a] else[]:=by
 unfold lv;rw[filter_append]
 by_cases e:pre a=v
 ·rw[zT e,filter_cons_of_pos (p:=fun w=>decide (pre w=v)) (l:=[]) (zW e)];rfl
 ·rw[zR e,filter_cons_of_neg (p:=fun w=>decide (pre w=v)) (l:=[]) (by rw[zU e];decide)];rfl
theorem zl8 {α:Type}{f:α→Int}(Y:List α):∀ X:List α,sm f (X++Y)=sm f X+sm f Y:=by
 intro l__
 induction l__ with
 |nil=>exact(Int.zero_add _).symm
 |cons x X ih =>
  rw[cons_append,zfx,zfx,ih,Int.add_assoc]
theorem zmF (E:List (List Nat)) (a v u:List Nat):Lr (E++[a]) v u=Lr E v u+if pre a=v then de v u - de (suf a) u else 0:=by
 unfold Lr;rw[zi6,zl8]
 by_cases e:pre a=v
 ·rw[zT e,zT e];exact congrArg (_+·) (Int.add_zero _)
 ·rw[zR e,zR e];rfl
theorem zqB {K E:List (List Nat)}{a:List Nat}(nd:K.Nodup) (k1:pre a∈K) (k2:suf a∈K):(MF K E).set (K.idxOf (pre a)) (((K.map (Lr E (pre a))).set (K.idxOf (pre a)) (Lr E (pre a) (pre a)+1)).set (K.idxOf (suf a)) (((K.map (Lr E (pre a))).set (K.idxOf (pre a)) (Lr E (pre a) (pre a)+1)).getD (K.idxOf (suf a)) 0 - 1))=MF K (E++[a]):=by
 rw[zf1 nd k1];have eg:(K.map fun u=>if u=pre a then Lr E (pre a) (pre a)+1 else Lr E (pre a) u).getD (K.idxOf (suf a)) 0=if suf a=pre a then Lr E (pre a) (pre a)+1 else Lr E (pre a) (suf a):=by
  rw[List.getD_eq_getElem?_getD,List.getElem?_map,zM (List.idxOf_lt_length_of_mem k2),List.getElem_idxOf];rfl
 rw[eg,zf1 nd k2];unfold MF;rw[zf1 nd k1];refine map_congr_left fun v z=>?_
 by_cases e:v=pre a
 ·rw[zT e,e]
  refine map_congr_left fun u z=>?_;rw[zmF,zT rfl]
  by_cases e1:u=suf a
  ·rw[zT e1,e1,zci]
   by_cases e2:suf a=pre a
   ·rw[zT e2,e2,zci];exact Int.add_sub_assoc ..
   ·rw[zR e2,zdH fun q=>e2 q.symm,Int.zero_sub];rfl
  ·rw[zR e1,zdH (v:=suf a) fun q=>e1 q.symm,Int.sub_zero]
   by_cases e2:u=pre a
   ·rw[zT e2,e2,zci]
   ·rw[zR e2,zdH fun q=>e2 q.symm,Int.add_zero]
 ·rw[zR e]
  refine map_congr_left fun u z=>?_;rw[zmF,zR fun q=>e q.symm,Int.add_zero]
section
variable {n:Nat}{h g:H}{F:Fn}{ρ:List V}{B K:List (List Nat)}{S Z:Nat}
noncomputable def lstB (B:List (List Nat)):List (V × List Nat):=B.map fun w=>(.l (V.nats w),w)
theorem zmj (B:List (List Nat)):(lstB B).map (·.2)=B:=by unfold lstB;rw[map_map];exact List.map_id' B
theorem zms (h:H) (B:List (List Nat)):HB h (.l (V.lists B)) (lstB B):=by
 refine⟨?_,fun p hp=>?_⟩
 ·unfold lstB;rw[map_map];rfl
 ·obtain⟨w,_,rfl⟩:=yQ.1 hp
  exact IsL.lst h w
theorem zqC (K:List (List Nat)):MF K []=List.replicate K.length (List.replicate K.length 0):=by
 unfold MF;have:∀ v,K.map (Lr [] v)=List.replicate K.length 0:=fun v=>map_const' ..
 rw[map_congr_left (g:=fun z=>List.replicate K.length 0) fun v z=>this v,map_const']
theorem znj {w4:V}(hn:K.length < 64):evE true F (Em S Z (.l (V.lists B)) (.ref h.length) w4 .uu .uu .uu .uu .uu .uu) (.comp (.own (.bin .mul (.list [.int 0]) (.bf .len (.v 3)))) 11 (.seq (.v 3)) .none) (h++[.dict (dk (ix K) K)]) =
  .ok (.l (RV (h++[Cell.dict (dk (ix K) K)]).length K.length)) (h++[.dict (dk (ix K) K)]++CR (MF K [])):=by
 have hd:=zah h (.dict (dk (ix K) K));have it:evIt true F (Em S Z (.l (V.lists B)) (.ref h.length) w4 .uu .uu .uu .uu .uu .uu) (.seq (.v 3)) (h++[.dict (dk (ix K) K)])=.ok (K.map V.tw,some (h.length,.dict (dk (ix K) K))) (h++[.dict (dk (ix K) K)]):=by
  rw[i_seq,zao (v:=.ref h.length) rfl trivial,R.bind_ok,zdl hd,zdq];rfl
 have n6:K.length≤1000000:=zX (Nat.le_of_lt hn) (by decide)
 have ec:=zhG (elt:=.own (.bin .mul (.list [.int 0]) (.bf .len (.v 3)))) (x:=11) it (zW hd) (fun z=>(List.replicate K.length (0:Int)).map V.int) (fun a g' z=>zcu (by
  have e3:=zen (F:=F) (ρ:=(Em S Z (.l (V.lists B)) (.ref h.length) w4 .uu .uu .uu .uu .uu .uu).set 11 (V.tw a)) (a:=.v 3) rfl (zaJ (k:=g') hd);rw[zb0] at e3;rw[zhq,show evE true F ((Em S Z (.l (V.lists B)) (.ref h.length) w4 .uu .uu .uu .uu .uu .uu).set 11 (V.tw a)) (.list [.int 0]) (h++[.dict (dk (ix K) K)]++g')=.ok (.l [.int 0]) _ from rfl,R.bind_ok,e3,R.bind_ok,zpF (litems_lst _ _) _ (Nat.lt_of_lt_of_le hn (by decide)) (by rw[length_singleton,Nat.mul_one];exact n6),List.flatten_replicate_singleton,List.map_replicate];rfl)) n6
 rw[ec,zqC];unfold RV CR;rw[map_const'];simp only[List.map_replicate]
theorem zrA (hv:v∈K):(MF K E)[K.idxOf v]?=some (K.map (Lr E v)):=by
 unfold MF;rw[List.getElem?_map,zM (List.idxOf_lt_length_of_mem hv),List.getElem_idxOf];rfl
theorem zmE (K E:List (List Nat)):(MF K E).length=K.length:=zJ ..
inductive I2 (g1:H) (S Z:Nat) (bv:V) (d:Nat) (K p:List (List Nat)):List V→H→Prop
 |mk {w4 w6 w7:V}:I2 g1 S Z bv d K p (Em S Z bv (.ref d) w4 (.l (RV g1.length K.length)) w6 w7 .uu .uu .uu) (g1++CR (MF K p))
theorem zg4 {N i j:Nat}{R:List (List Int)}{r:List Int}{bv w4 w6 w7:V}{d:Nat}{y:Int}{e jx:PE}{ss:List PS}(hi:i < N) (er:R[i]?=some r) (hj:j < r.length) (e6:w6=.int (i:Nat))
  (ej:evE true F (Em S Z bv (.ref d) w4 (.l (RV g.length N)) w6 w7 .uu .uu .uu) jx (g++CR R)=.ok (.int (j:Nat)) (g++CR R))
  (ee:evE true F (Em S Z bv (.ref d) w4 (.l (RV g.length N)) w6 w7 .uu .uu .uu) (.idx (.idx (.v 5) (.v 6)) jx) (g++CR R)=.ok (.int (r.getD j 0)) (g++CR R)→evE true F (Em S Z bv (.ref d) w4 (.l (RV g.length N)) w6 w7 .uu .uu .uu) e (g++CR R)=.ok (.int y) (g++CR R)) :
  exSs true F (.setIdx (.idx (.v 5) (.v 6)) jx e::ss) (Em S Z bv (.ref d) w4 (.l (RV g.length N)) w6 w7 .uu .uu .uu) (g++CR R)=exSs true F ss (Em S Z bv (.ref d) w4 (.l (RV g.length N)) w6 w7 .uu .uu .uu) (g++CR (R.set i (r.set j y))):=by
 subst e6;have eo:=zaP (F:=F) (ρ:=Em S Z bv (.ref d) w4 (.l (RV g.length N)) (.int (i:Nat)) w7 .uu .uu .uu) (h:=g++CR R) (a:=.v 5) (i:=.v 6) (v:=.l (RV g.length N)) (j:=i) rfl rfl (litems_lst _ _) (zrz hi);rw[zd9 (ee (zaP eo ej (zab (zoI er)) (ints_at hj))) eo ej (zoI er) (by rw[zJ];exact hj),← map_set,zqI]
set_option tactic.hygienic true in
theorem zoc (nd:K.Nodup) (hK:∀ w∈B,pre w∈K∧suf w∈K){g1:H}{d:Nat}{w4:V}(hd:g1[d]?=some (.dict (dk (ix K) K))):∃ ρ' g',exS true F (.for1 4 (.seq (.v 2)) [
  .asg 6 (.idx (.v 3) (.bf .tuple (.slice (.v 4) .none (some (.neg 1))))),
  .asg 7 (.idx (.v 3) (.bf .tuple (.slice (.v 4) (some (.int 1)) .none))),
  .setIdx (.idx (.v 5) (.v 6)) (.v 6) (.bin .add (.idx (.idx (.v 5) (.v 6)) (.v 6)) (.int 1)),
  .setIdx (.idx (.v 5) (.v 6)) (.v 7) (.bin .sub (.idx (.idx (.v 5) (.v 6)) (.v 7)) (.int 1))]) (Em S Z (.l (V.lists B)) (.ref d) w4 (.l (RV g1.length K.length)) .uu .uu .uu .uu .uu) (g1++CR (MF K []))=.ok .next ρ' g'∧I2 g1 S Z (.l (V.lists B)) d K B ρ' g':=by
 refine zaE (F:=F) (x:=4) (l:=B) (c:=fun w=>.l (V.nats w)) (I2 g1 S Z (.l (V.lists B)) d K) (zbq (a:=.v 2) (vs:=V.lists B) rfl) (fun z z z z=>rfl) .mk (fun p a q ρ g hp I=>?_)
 cases I with
 |mk =>
 rename_i w4 w6 w7
 obtain⟨k1,k2⟩:=hK a (by rw[hp];exact mem_append_right _ (zZ ..))
 have l1:K.idxOf (pre a) < K.length:=List.idxOf_lt_length_of_mem k1;have l2:K.idxOf (suf a) < K.length:=List.idxOf_lt_length_of_mem k2;have er:=zrA (E:=p) k1;have e1:=zf9 (F:=F) (ρ:=Em S Z (.l (V.lists B)) (.ref d) (.l (V.nats a)) (.l (RV g1.length K.length)) w6 w7 .uu .uu .uu) (a:=.v 3) (h:=g1++CR (MF K p)) rfl (zgG (i:=4) rfl) (zaJ hd) (v:=ix K (pre a)) (by rw[zat,zT k1])
 have e2:=zf9 (F:=F) (ρ:=Em S Z (.l (V.lists B)) (.ref d) (.l (V.nats a)) (.l (RV g1.length K.length)) (ix K (pre a)) w7 .uu .uu .uu) (a:=.v 3) (h:=g1++CR (MF K p)) rfl (zoV (i:=4) rfl) (zaJ hd) (v:=ix K (suf a)) (by rw[zat,zT k2])
 have p1:=zg4 (F:=F) (g:=g1) (S:=S) (Z:=Z) (bv:=.l (V.lists B)) (w4:=.l (V.nats a)) (w6:=ix K (pre a)) (w7:=ix K (suf a)) (d:=d) (e:=.bin .add (.idx (.idx (.v 5) (.v 6)) (.v 6)) (.int 1)) (jx:=.v 6) (ss:=[.setIdx (.idx (.v 5) (.v 6)) (.v 7) (.bin .sub (.idx (.idx (.v 5) (.v 6)) (.v 7)) (.int 1))]) l1 er (j:=K.idxOf (pre a)) (by rw[zJ];exact l1) rfl rfl (fun e=>zb5 e rfl)
 have eg:(K.map (Lr p (pre a))).getD (K.idxOf (pre a)) 0=Lr p (pre a) (pre a):=by
  rw[List.getD_eq_getElem?_getD,List.getElem?_map,zM l1,List.getElem_idxOf];rfl
 rw[eg] at p1;have p2:=zg4 (F:=F) (g:=g1) (R:=(MF K p).set (K.idxOf (pre a)) ((K.map (Lr p (pre a))).set (K.idxOf (pre a)) (Lr p (pre a) (pre a)+1))) (S:=S) (Z:=Z) (bv:=.l (V.lists B)) (w4:=.l (V.nats a)) (w6:=ix K (pre a)) (w7:=ix K (suf a)) (d:=d) (e:=.bin .sub (.idx (.idx (.v 5) (.v 6)) (.v 7)) (.int 1)) (jx:=.v 7) (ss:=[]) l1 (List.getElem?_set_self (by rw[zmE];exact l1)) (j:=K.idxOf (suf a)) (by rw[length_set,zJ];exact l2) rfl rfl (fun e=>zfn e rfl)
 rw[set_set,zqB nd k1 k2] at p2;exact⟨_,_,(zap e1).trans ((zap e2).trans (p1.trans (p2.trans rfl))),.mk⟩
inductive I3 (g2:H) (S Z:Nat) (bv a3 a5 a6 a7:V) (p:List (List Nat)):List V→H→Prop
 |mk {w4 w9:V}:I3 g2 S Z bv a3 a5 a6 a7 p (Em S Z bv a3 w4 a5 a6 a7 (.ref g2.length) w9 .uu) (g2++[.dict (dk (fun t=>.int (outs p t:Nat)) (Kp p))])
theorem zkW (E:List (List Nat)) (a v:List Nat):outs (E++[a]) v=outs E v+if pre a=v then 1 else 0:=by
 rw[zax,zax,zi6,zQ]
 by_cases e:pre a=v
 ·rw[zT e,zT e];rfl
 ·rw[zR e,zR e];rfl
set_option tactic.hygienic true in
theorem zk9 (hn:B.length < 64):∃ ρ' g',exS true F (.for1 4 (.seq (.v 2)) [
  .asg 9 (.bf .tuple (.slice (.v 4) .none (some (.neg 1)))),
  .setIdx (.v 8) (.v 9) (.bin .add (.get (.v 8) (.v 9) (.int 0)) (.int 1))]) (Em S Z (.l (V.lists B)) a3 w4 a5 a6 a7 (.ref g2.length) .uu .uu) (g2++[.dict []])=.ok .next ρ' g'∧I3 g2 S Z (.l (V.lists B)) a3 a5 a6 a7 B ρ' g':=by
 refine zaE (F:=F) (x:=4) (l:=B) (c:=fun w=>.l (V.nats w)) (I3 g2 S Z (.l (V.lists B)) a3 a5 a6 a7) (zbq (a:=.v 2) (vs:=V.lists B) rfl) (fun z z z z=>rfl) .mk (fun p a q ρ g hp I=>?_)
 cases I with
 |mk =>
 rename_i w4 w9
 have hl:(Kp p).length≤1000:=by
  rw[hp,zQ] at hn;exact zX (zhb p) (zX (Nat.le_add_right ..) (zX (Nat.le_of_lt hn) (by decide)))
 have ge:=zjq (F:=F) (ρ:=Em S Z (.l (V.lists B)) a3 (.l (V.nats a)) a5 a6 a7 (.ref g2.length) (V.tw (pre a)) .uu) (o:=.v 8) (k:=.v 9) (t:=pre a) rfl rfl (zah g2 (.dict (dk (fun t=>.int (outs p t:Nat)) (Kp p))));have ey:(dfind (V.tw (pre a)) (dk (fun t=>V.int (outs p t:Nat)) (Kp p))).getD (.int 0)=.int (outs p (pre a):Nat):=by
  rw[zat]
  by_cases k:pre a∈Kp p
  ·rw[zT k];rfl
  ·rw[zR k]
   have:lv p (pre a)=[]:=List.filter_eq_nil_iff.2 fun w hw q=>k (zd1.2 ⟨w,hw,zV q⟩);rw[zax,this];rfl
 rw[ey] at ge;have e2:=zcV (ss:=[]) (zb5 ge (b:=.int 1) (y:=1) rfl) (o:=.v 8) (i:=.v 9) (t:=pre a) rfl rfl (zah g2 (.dict (dk (fun t=>.int (outs p t:Nat)) (Kp p)))) (by rw[zb0];exact hl)
 rw[za6,zon (zb7 p),← zkh] at e2;have ef:(fun s=>if s=pre a then V.int ((outs p (pre a):Nat)+1) else V.int (outs p s:Nat))=fun s=>V.int (outs (p++[a]) s:Nat):=funext fun s=>by
  rw[zkW]
  by_cases k:s=pre a
  ·rw[zT k,zT k.symm,k];rfl
  ·rw[zR k,zR fun q=>k q.symm];rfl
 rw[ef] at e2;exact⟨_,_,(zap (zgG rfl)).trans (e2.trans rfl),.mk⟩
end
theorem zoC {α γ δ:Type}{f:α→γ→Int}{f':α→δ→Int}{g:(γ→Int)→List (γ→Int)→Int}{g':(δ→Int)→List (δ→Int)→Int}{l:List α}(H:∀ a∈l,∀ R:List α,(∀ x∈R,x∈l)→g (f a) (R.map f)=g' (f' a) (R.map f')):∀ q p:List α,(∀ x∈p,x∈l)→(∀ x∈q,x∈l)→alt g (p.map f) (q.map f)=alt g' (p.map f') (q.map f'):=by
 intro l__
 induction l__ with
 |nil=>exact fun z z z=>rfl
 |cons a q ih =>
  intro p hp hq;have ha:=hq a (zZ ..);have hq':∀ x∈q,x∈l:=fun x hx=>hq x (zY _ hx);have e1:=H a ha (p++q) fun x hx=>(zP.1 hx).elim (hp x) (hq' x);have e2:=ih (p++[a]) (fun x hx=>(zP.1 hx).elim (hp x) fun h=>by rw[zK.1 h];exact ha) hq'
  rw[map_append,map_append] at e1 e2;rw[yY,yY,zco,zco,e1];exact congrArg (_ - ·) e2
theorem zqG {α γ δ:Type}{f:α→γ→Int}{f':α→δ→Int}{e:δ→γ}(cs:List δ) (l:List α) (h:∀ a∈l,∀ c∈cs,f' a c=f a (e c)):D (cs.map e) (l.map f)=D cs (l.map f'):=by
 induction cs generalizing l with
 |nil=>cases l<;>rfl
 |cons c cs ih=>exact zoC (l:=l) (fun a ha R hR=>by
   show f a (e c) * D (cs.map e) (R.map f)=f' a c * D cs (R.map f');rw[h a ha c (zZ ..),ih R fun x hx y hy=>h x (hR x hx) y (zY _ hy)]) l [] (fun z h=>(not_mem_nil h).elim) fun z h=>h
noncomputable def sub1 (R:List (List Int)):List (List Int):=(R.drop 1).map (List.drop 1)
theorem sub_MF (r:List Nat) (V B:List (List Nat)):sub1 (MF (r::V) B)=V.map fun v=>V.map (Lr B v):=by
 unfold sub1 MF;rw[yY,List.drop_succ_cons,drop_zero,map_map];rfl
theorem zhp (V:List (List Nat)):(List.range V.length).map (fun j=>V.getD j [])=V:=ext_getElem (by rw[zJ,length_range]) fun i h1 h2=>by
 rw[getElem_map,getElem_range,List.getD_eq_getElem?_getD,zM h2];rfl
theorem zqk (r:List Nat) (V B:List (List Nat)):D (List.range V.length) ((sub1 (MF (r::V) B)).map fn)=D V (V.map (Lr B)):=by
 have e:=zqG (f:=Lr B) (f':=fun v=>fn (V.map (Lr B v))) (e:=fun j=>V.getD j []) (List.range V.length) V fun v z c hc=>by
  show(V.map (Lr B v)).getD c 0=_;have hc:=List.mem_range.1 hc;rw[List.getD_eq_getElem?_getD,List.getElem?_map,zM hc,List.getD_eq_getElem?_getD,zM hc];rfl
 rw[zhp] at e;rw[e,sub_MF,map_map];rfl
theorem zo1 {α:Type}{f:α→Int}(h:∀ c,(f c).natAbs≤2):∀ cs:List α,(sm f cs).natAbs≤2 * cs.length:=by
 intro l__
 induction l__ with
 |nil=>exact Nat.le_refl _
 |cons c cs ih =>
  rw[zfx,length_cons,Nat.mul_succ,Nat.add_comm];exact zX (Int.natAbs_add_le ..) (Nat.add_le_add (h c) (ih))
theorem zqD (B:List (List Nat)) (v u:List Nat):(Lr B v u).natAbs≤2 * B.length:=by
 refine zX (zo1 (fun f=>?_) _) (Nat.mul_le_mul_left 2 (length_filter_le ..));unfold de
 by_cases e:v=u
 ·rw[zT e]
  by_cases e':suf f=u
  ·rw[zT e'];decide
  ·rw[zR e'];decide
 ·rw[zR e]
  by_cases e':suf f=u
  ·rw[zT e'];decide
  ·rw[zR e'];decide
theorem znw {α:Type}{f:α→Int}{X Y:List α}(p:X.Perm Y):pr f X=pr f Y:=by
 induction p with
 |nil=>rfl
 |cons x _ ih=>rw[zfS,zfS,ih]
 |swap x y l=>rw[zfS,zfS,zfS,zfS];exact Int.mul_left_comm ..
 |trans _ _ ih1 ih2=>exact ih1.trans ih2
section
variable {n:Nat}{h g:H}{F:Fn}{ρ:List V}{B K:List (List Nat)}{S Z:Nat}
theorem zl9 (ea:evE true F ρ a h=.ok v h) (hl:litems h v=some vs):evE true F ρ (.slice a (some (.int 1)) .none) h=.ok (.l (vs.drop 1)) h:=by
 rw[zfQ,ea,R.bind_ok];show R.opt (zas h v (some (.int (1:Nat))) Option.none) h=_;rw[zaY hl 1];rfl
theorem zkH (R:List (List Int)):(List.range R.length).map (fun i=>R.getD i [])=R:=ext_getElem (by rw[zJ,length_range]) fun i h1 h2=>by
 rw[getElem_map,getElem_range,List.getD_eq_getElem?_getD,zM h2];rfl
theorem zm5 {N:Nat}{R:List (List Int)}(m:R.length=N) (hN:N≤1000){k:H}(e5:ρ[5]?=some (.l (RV g.length N))) (h12:12 < ρ.length) :
  evE true F ρ (.comp (.slice (.v 12) (some (.int 1)) .none) 12 (.seq (.slice (.v 5) (some (.int 1)) .none)) .none) (g++CR R++k)=.ok (.l (IR (sub1 R))) (g++CR R++k):=by
 have it:=zbq (zl9 (h:=g++CR R++k) (zao (F:=F) e5 trivial) (litems_lst _ _));have e1:(RV g.length N).drop 1=((List.range N).drop 1).map fun i=>V.ref (g.length+i):=List.map_drop.symm;rw[e1] at it;refine zbL it rfl (fun i=>.l (((R.getD i []).drop 1).map V.int)) (fun i hi=>?_) ?_
 ·have hl:i < R.length:=by rw[m];exact List.mem_range.1 (List.mem_of_mem_drop hi)
  have er:R[i]?=some (R.getD i []):=by rw[List.getD_eq_getElem?_getD,zM hl];rfl
  have:=zl9 (F:=F) (ρ:=ρ.set 12 (.ref (g.length+i))) (h:=g++CR R++k) (zao (v:=.ref (g.length+i)) (List.getElem?_set_self h12) trivial) (zab (zaJ (zoI er)));rw[←map_drop] at this;exact this
 ·have e2:((List.range N).drop 1).map (fun i=>V.l (((R.getD i []).drop 1).map V.int))=IR (sub1 R):=by
   have:=congrArg (fun X:List (List Int)=>IR ((X.drop 1).map (List.drop 1))) (zkH R);rw[m] at this;refine Eq.trans ?_ this;unfold IR;rw[map_map,← map_drop,map_map];rfl
  rw[e2];refine za1 ?_;unfold IR sub1;rw[zJ,zJ,length_drop,m];exact zX (Nat.sub_le ..) (zX hN (by decide))
inductive I4 (g3:H) (f:V→V→List V) (x:Int) (B p:List (List Nat)):List V→H→Prop
 |mk {w9:V}(b:Bt (600000+301 * p.length) (x * pr (fun t=>fc (outs B t - 1)) p)):I4 g3 f x B p (f w9 (.int (x * pr (fun t=>fc (outs B t - 1)) p))) g3
theorem znD (B:List (List Nat)) (t:List Nat):outs B t≤B.length:=length_filter_le ..
set_option tactic.hygienic true in
theorem zkQ {g2:H}{a3 a4 a5 a6 a7 w9:V}{x:Int}(hB:B.length≤40) (hx:Bt 600000 x):∃ ρ' g',exS true (run PP (n+1)) (.for1 9 (.seq (.v 8)) [
  .asg 10 (.bin .mul (.v 10) (.call false "product" [.bin .sub (.idx (.v 8) (.v 9)) (.int 1)]))]) (Em S Z (.l (V.lists B)) a3 a4 a5 a6 a7 (.ref g2.length) w9 (.int x)) (g2++[.dict (dk (fun t=>.int (outs B t:Nat)) (Kp B))])=.ok .next ρ' g'∧I4 (g2++[.dict (dk (fun t=>.int (outs B t:Nat)) (Kp B))]) (fun v w=>Em S Z (.l (V.lists B)) a3 a4 a5 a6 a7 (.ref g2.length) v w) x B (Kp B) ρ' g':=by
 have hd:=zah g2 (.dict (dk (fun t=>.int (outs B t:Nat)) (Kp B)));have it:evIt true (run PP (n+1)) (Em S Z (.l (V.lists B)) a3 a4 a5 a6 a7 (.ref g2.length) w9 (.int x)) (.seq (.v 8)) (g2++[.dict (dk (fun t=>.int (outs B t:Nat)) (Kp B))])=.ok ((Kp B).map V.tw,some (g2.length,.dict (dk (fun t=>.int (outs B t:Nat)) (Kp B)))) (g2++[.dict (dk (fun t=>.int (outs B t:Nat)) (Kp B))]):=by
  rw[i_seq,zao (v:=.ref g2.length) rfl trivial,R.bind_ok,zdl hd,zdq];rfl
 have e0:=Int.mul_one x;have h0:I4 (g2++[.dict (dk (fun t=>.int (outs B t:Nat)) (Kp B))]) (fun v w=>Em S Z (.l (V.lists B)) a3 a4 a5 a6 a7 (.ref g2.length) v w) x B [] (Em S Z (.l (V.lists B)) a3 a4 a5 a6 a7 (.ref g2.length) w9 (.int x)) (g2++[.dict (dk (fun t=>.int (outs B t:Nat)) (Kp B))]):=by
  have:=I4.mk (g3:=g2++[.dict (dk (fun t=>.int (outs B t:Nat)) (Kp B))]) (f:=fun v w=>Em S Z (.l (V.lists B)) a3 a4 a5 a6 a7 (.ref g2.length) v w) (x:=x) (B:=B) (p:=[]) (w9:=w9) (by show Bt _ (x * 1);rw[e0];exact hx.mono (Nat.le_add_right ..))
  rw[show x * pr (fun t=>fc (outs B t - 1)) []=x from e0] at this;exact this
 refine zaE (F:=run PP (n+1)) (x:=9) (l:=Kp B) (c:=V.tw) (I4 (g2++[.dict (dk (fun t=>.int (outs B t:Nat)) (Kp B))]) (fun v w=>Em S Z (.l (V.lists B)) a3 a4 a5 a6 a7 (.ref g2.length) v w) x B) it (fun z z g I=>by cases I;exact zW hd) h0 (fun p a q ρ g hp I=>?_)
 cases I with
 |mk b =>
 rename_i w9
 have ha:a∈Kp B:=by rw[hp];exact mem_append_right _ (zZ ..)
 have c1:1≤outs B a:=by
  obtain⟨w,hw,e⟩:=zd1.1 ha;exact length_pos_of_mem (List.mem_filter.2 ⟨hw,zW e⟩)
 obtain⟨hy,ey⟩:=zpk (n:=n) (h:=g2++[.dict (dk (fun t=>.int (outs B t:Nat)) (Kp B))]) (k:=outs B a - 1) (zX (Nat.sub_le ..) (zX (znD ..) hB));have hl:p.length+1≤40:=by
  have:=zX (zhb B) hB;rw[hp,zQ] at this;exact zX (Nat.add_le_add_left (Nat.le_add_left 1 q.length) _) this
 have ei:=zf9 (F:=run PP (n+1)) (ρ:=Em S Z (.l (V.lists B)) a3 a4 a5 a6 a7 (.ref g2.length) (V.tw a) (.int (x * pr (fun t=>fc (outs B t - 1)) p))) (a:=.v 8) (i:=.v 9) rfl rfl hd (v:=.int (outs B a:Nat)) (by rw[zat,zT ha])
 have es:=(zfn ei (b:=.int 1) (y:=1) rfl).trans (congrArg (fun i=>R.ok (V.int i) (g2++[Cell.dict (dk (fun t=>.int (outs B t:Nat)) (Kp B))])) (Int.ofNat_sub c1).symm);have ec:evE true (run PP (n+1)) (Em S Z (.l (V.lists B)) a3 a4 a5 a6 a7 (.ref g2.length) (V.tw a) (.int (x * pr (fun t=>fc (outs B t - 1)) p))) (.call false "product" [.bin .sub (.idx (.v 8) (.v 9)) (.int 1)]) (g2++[.dict (dk (fun t=>.int (outs B t:Nat)) (Kp B))])=.ok (.int (fc (outs B a - 1))) (g2++[.dict (dk (fun t=>.int (outs B t:Nat)) (Kp B))]):=by
  rw[zed,zbF,es,R.bind_ok,zkN,R.bind_ok,R.bind_ok,zR (by decide)];exact ey
 have em:=zj1 (a:=.v 10) (b:=.call false "product" [.bin .sub (.idx (.v 8) (.v 9)) (.int 1)]) (x:=x * pr (fun t=>fc (outs B t - 1)) p) (F:=run PP (n+1)) (ρ:=Em S Z (.l (V.lists B)) a3 a4 a5 a6 a7 (.ref g2.length) (V.tw a) (.int (x * pr (fun t=>fc (outs B t - 1)) p))) (h:=g2++[.dict (dk (fun t=>.int (outs B t:Nat)) (Kp B))]) rfl ec b hy (by
  rw[Nat.add_assoc,← Nat.mul_succ];exact zX (Nat.add_le_add_left (Nat.mul_le_mul_left 301 hl) _) (by decide))
 have ep:x * pr (fun t=>fc (outs B t - 1)) p * fc (outs B a - 1)=x * pr (fun t=>fc (outs B t - 1)) (p++[a]):=by
  rw[ziL,zfS,Int.mul_assoc];show _=x * (_ * (_ * 1));rw[Int.mul_one]
 have b':=b.mul hy;rw[ep] at em b';exact⟨_,_,(zap em).trans rfl,I4.mk (b'.mono (by rw[zQ,Nat.add_assoc];exact Nat.le_refl _))⟩
set_option tactic.hygienic true in
theorem zmh (hf:Fit S Z) (w:GW S Z B) (jb:JB B) (hB:B.length≤33) (hK:(Kp B).length≤17) :
  (∃ m Ws,Fine B m∧(∃ l,srt B=m::l)∧Kp (srt B)=pre m::Ws∧pcall h (run PP (n+5) true "many_rings" [.int S,.int Z,.l (V.lists B)] h)=.ok (.int (D Ws (Ws.map (Lr B)) * pr (fun t=>fc (outs B t - 1)) (pre m::Ws))) h)∨¬ Whole B∧pcall h (run PP (n+5) true "many_rings" [.int S,.int Z,.l (V.lists B)] h)=.ok (.int 0) h:=by
 have hb:=zms h B;have e2:=zmj B;have e0:evE true (run PP (n+4)) (Em S Z (.l (V.lists B)) .uu .uu .uu .uu .uu .uu .uu .uu) (.call false "need_book" [.v 0,.v 1,.v 2]) h=.ok .none h:=zaV (v:=.int S) (w:=.int Z) (x:=.l (V.lists B)) rfl rfl rfl (zmf  hf hb (e2.symm ▸ w));have hn:B.length < 64:=Nat.lt_of_le_of_lt hB (by decide)
 rcases zmo (n:=n+2) hb (e2.symm ▸ jb) with⟨m,fi,el⟩|⟨nw,a,c,el⟩
 ·rw[e2] at fi
  refine .inl ?_;obtain⟨m',l,em,lm⟩:=zgx w.ne
  cases lm.eq fi.1
  obtain⟨Ws,eV⟩:=zrB m l;rw[←em] at eV;refine⟨m,Ws,fi,⟨l,em⟩,eV,?_⟩;have pk:(Kp B).Perm (pre m::Ws):=by
   rw[←eV];exact(List.perm_ext_iff_of_nodup (zb7 _) (zb7 _)).2 fun t=>by
    rw[zd1,zd1];exact⟨fun⟨w,hw,e⟩=>⟨w,zca.2 hw,e⟩,fun⟨w,hw,e⟩=>⟨w,zca.1 hw,e⟩⟩
  obtain⟨ρ1,g1,p1,I1'⟩:=ziN (F:=run PP (n+4)) (S:=S) (Z:=Z) (h:=h) (litems_lst h (V.lists B)) hn
  cases I1' with
  |mk =>
  rename_i w4'
  have hKm:∀ x∈B,pre x∈Kp (srt B)∧suf x∈Kp (srt B):=fun x hx=>by
   have k1:∀ y∈B,pre y∈Kp (srt B):=fun y hy=>zd1.2 ⟨y,zca.2 hy,rfl⟩;refine⟨k1 x hx,?_⟩;have hi:0 < ins B (suf x):=zdn hx;rw[←Nat.add_right_cancel (fi.2.1 (suf x))] at hi;obtain⟨y,hy⟩:=List.exists_mem_of_length_pos hi;obtain⟨hy,e⟩:=List.mem_filter.1 hy;rw[←zV e];exact k1 y hy
  have ndK:=zb7 (srt B);rw[eV] at p1 hKm ndK;have kl:(pre m::Ws).length≤17:=by rw[←pk.length_eq];exact hK
  have p2:=znj (F:=run PP (n+4)) (S:=S) (Z:=Z) (B:=B) (h:=h) (w4:=w4') (K:=pre m::Ws) (Nat.lt_of_le_of_lt kl (by decide))
  have hd:=zah h (.dict (dk (ix (pre m::Ws)) (pre m::Ws)));generalize eg1:h++[Cell.dict (dk (ix (pre m::Ws)) (pre m::Ws))]=g1 at p1 p2 hd;obtain⟨ρ3,g3,p3,I2'⟩:=zoc (F:=run PP (n+4)) (S:=S) (Z:=Z) (w4:=w4') ndK hKm hd
  cases I2' with
  |mk =>
  rename_i w4 w6 w7
  obtain⟨ρ4,g4,p4,I3'⟩:=zk9 (F:=run PP (n+4)) (S:=S) (Z:=Z) (g2:=g1++CR (MF (pre m::Ws) B)) (a3:=.ref h.length) (w4:=w4) (a5:=.l (RV g1.length (pre m::Ws).length)) (a6:=w6) (a7:=w7) hn
  cases I3' with
  |mk =>
  rename_i v4 v9
  have lV:Ws.length≤16:=Nat.le_of_succ_le_succ kl;obtain⟨hx,ex⟩:=zmP (n:=n+2) (h:=g1++CR (MF (pre m::Ws) B)++[.dict (dk (fun t=>.int (outs B t:Nat)) (Kp B))]) (N:=Ws.length) (R:=sub1 (MF (pre m::Ws) B)) (by rw[sub_MF,zJ]) (fun r hr=>by
   rw[sub_MF] at hr;obtain⟨v,_,rfl⟩:=yQ.1 hr;refine⟨zJ ..,fun x hx=>?_⟩;obtain⟨t,_,rfl⟩:=yQ.1 hx;exact Nat.lt_of_le_of_lt (zX (zqD ..) (Nat.mul_le_mul_left 2 hB)) (by decide)) lV
  rw[zqk] at hx ex;have p5:=zb3 (zm5 (F:=run PP (n+4)) (ρ:=Em S Z (.l (V.lists B)) (.ref h.length) v4 (.l (RV g1.length (pre m::Ws).length)) w6 w7 (.ref (g1++CR (MF (pre m::Ws) B)).length) v9 .uu) (zmE ..) (zX kl (by decide)) (k:=[.dict (dk (fun t=>.int (outs B t:Nat)) (Kp B))]) rfl (by decide:12 < 13)) ex
  obtain⟨ρ6,g6,p6,I6⟩:=zkQ (n:=n+3) (S:=S) (Z:=Z) (B:=B) (g2:=g1++CR (MF (pre m::Ws) B)) (a3:=.ref h.length) (a4:=v4) (a5:=.l (RV g1.length (pre m::Ws).length)) (a6:=w6) (a7:=w7) (w9:=v9) (zX hB (by decide)) hx
  cases I6 with
  |mk b6 =>
  rename_i u9
  rw[←znw pk];have res:run PP (n+5) true "many_rings" [.int S,.int Z,.l (V.lists B)] h=.ok (.int (D Ws (Ws.map (Lr B)) * pr (fun t=>fc (outs B t - 1)) (Kp B))) (g1++CR (MF (pre m::Ws) B)++[.dict (dk (fun t=>.int (outs B t:Nat)) (Kp B))]):=by
   refine start zcq rfl (ρ:=Em S Z (.l (V.lists B)) .uu .uu .uu .uu .uu .uu .uu .uu) rfl (zcw e0 (zbH (h':=h) (zcI (zb3 (a:=.v 2) (v:=.l (V.lists B)) rfl el) rfl) (zai (v:=.ref h.length) (h':=h++[.dict []]) rfl (ρ':=Em S Z (.l (V.lists B)) (.ref h.length) .uu .uu .uu .uu .uu .uu .uu) rfl ?_)));refine zaB p1 ?_;refine zai p2 (ρ':=Em S Z (.l (V.lists B)) (.ref h.length) w4' (.l (RV g1.length (pre m::Ws).length)) .uu .uu .uu .uu .uu) rfl ?_
   refine zaB p3 ?_;refine zai (v:=.ref (g1++CR (MF (pre m::Ws) B)).length) (h':=g1++CR (MF (pre m::Ws) B)++[.dict []]) rfl (ρ':=Em S Z (.l (V.lists B)) (.ref h.length) w4 (.l (RV g1.length (pre m::Ws).length)) w6 w7 (.ref (g1++CR (MF (pre m::Ws) B)).length) .uu .uu) rfl ?_;refine zaB p4 (zai p5 (ρ':=Em S Z (.l (V.lists B)) (.ref h.length) v4 (.l (RV g1.length (pre m::Ws).length)) w6 w7 (.ref (g1++CR (MF (pre m::Ws) B)).length) v9 (.int (D Ws (Ws.map (Lr B))))) rfl ?_)
   exact zaB p6 (zaA rfl)
  rw[res,← eg1,yJ,yJ,zda rfl]
 ·rw[e2] at nw
  exact .inr ⟨nw,by rw[start zcq rfl (ρ:=Em S Z (.l (V.lists B)) .uu .uu .uu .uu .uu .uu .uu .uu) rfl (zcw e0 (zej (h':=h) (zcI (zb3 (a:=.v 2) (v:=.l (V.lists B)) rfl el) rfl) (zaA rfl))),pcall_int]⟩
end
section
variable {E B X:List (List Nat)}{a r m f:List Nat}
theorem zo0 {α:Type}{g:α→Int}:∀ {F:List α},(∀ c∈F,0≤g c)→0≤sm g F:=by
 intro l__
 induction l__ with
 |nil=>exact fun z=>Int.le_refl 0
 |cons c F ih=>exact fun h=>Int.add_nonneg (h c (zZ ..)) (ih fun x hx=>h x (zY _ hx))
theorem zoZ {α:Type}{g:α→Int}{F:List α}(h:∀ c∈F,0≤g c){x:α}(hx:x∈F) (p:0 < g x):0 < sm g F:=by
 induction F with
 |nil=>cases hx
 |cons c F ih =>
  have h':∀ x∈F,0≤g x:=fun x hx=>h x (zY _ hx)
  rcases zN.1 hx with rfl|hx
  ·exact Int.add_pos_of_pos_of_nonneg p (zo0 h')
  ·exact Int.add_pos_of_nonneg_of_pos (h c (zZ ..)) (ih h' hx)
theorem zqn (r:List Nat):∀ (n:Nat) (a:List Nat) (E:List (List Nat)),0≤cnt r n a E:=by
 intro l__
 induction l__ with
 |zero =>
  intro a E;show 0≤(if a=r then(1:Int) else 0)
  by_cases e:a=r
  ·rw[zT e];decide
  ·rw[zR e];decide
 |succ n ih=>exact fun a E=>zo0 fun f z=>ih (suf f) (E.erase f)
theorem zoq:∀ (n:Nat) (E:List (List Nat)) (a:List Nat),E.length=n→E.Nodup→Bal E a r→AllR E a→0 < cnt r n a E:=by
 intro l__
 induction l__ with
 |zero =>
  intro E a hn _ b _;rw[eq_nil_of_length_eq_zero hn] at b;show 0 < (if a=r then(1:Int) else 0);rw[zT b.nil];decide
 |succ n ih =>
  intro E a hn nd b al;obtain⟨e,he,hp,hg⟩:=zfh nd b al fun q=>by rw[q] at hn;exact nomatch hn
  exact zoZ (fun f z=>zqn r n (suf f) (E.erase f)) (zaT.2 ⟨he,hp⟩) (ih (E.erase e) (suf e) (by rw[length_erase_of_mem he,hn];rfl) (nd.erase e) (b.step he hp) hg)
theorem Bal.back (hm:f∈E) (b:Bal (E.erase f) (suf f) r):Bal E (pre f) r:=fun x=>by
 have hb:=b x;unfold outs ins at *
 rw[zb1 (f:=fun w=>decide (pre w=x)) hm,zb1 (f:=fun w=>decide (suf w=x)) hm];have e1:(if decide (pre f=x)=true then 1 else 0:Nat)=if x=pre f then 1 else 0:=by
  by_cases h:x=pre f
  ·rw[zT h,zT (zW h.symm)]
  ·rw[zR h,zR (by rw[zU fun q=>h q.symm];exact Bool.false_ne_true)]
 have e2:(if decide (suf f=x)=true then 1 else 0:Nat)=if x=suf f then 1 else 0:=by
  by_cases h:x=suf f
  ·rw[zT h,zT (zW h.symm)]
  ·rw[zR h,zR (by rw[zU fun q=>h q.symm];exact Bool.false_ne_true)]
 rw[e1,e2,Nat.add_right_comm,hb]
theorem AllR.back (hm:f∈E) (al:AllR (E.erase f) (suf f)):AllR E (pre f):=fun w hw=>by
 by_cases e:w=f
 ·rw[e];exact .base
 ·have:=al w ((mem_erase_of_ne e).2 hw)
  generalize pre w=t at this
  induction this with
  |base=>exact .step hm .base
  |step hw' _ ih=>exact .step (mem_of_mem_erase hw') ih
theorem zor:∀ (n:Nat) (E:List (List Nat)) (a:List Nat),E.length=n→cnt r n a E≠0→Bal E a r∧AllR E a:=by
 intro l__
 induction l__ with
 |zero =>
  intro E a hn h;rw[eq_nil_of_length_eq_zero hn]
  by_cases e:a=r
  ·subst e;exact⟨fun x=>rfl,fun w hw=>(not_mem_nil hw).elim⟩
  ·exact absurd (zR e) h
 |succ n ih =>
  intro E a hn h;obtain⟨f,hf,hc⟩:∃ f∈lv E a,cnt r n (suf f) (E.erase f)≠0:=Classical.byContradiction fun q=>h (zc0 fun f hf=>Classical.byContradiction fun p=>q ⟨f,hf,p⟩);obtain⟨hm,hp⟩:=zaT.1 hf;obtain⟨b,al⟩:=ih (E.erase f) (suf f) (by rw[length_erase_of_mem hm,hn];rfl) hc
  rw[←hp];exact⟨b.back hm,al.back hm⟩
noncomputable def due (B:List (List Nat)) (m:List Nat):Int:=cnt (pre m) (B.length - 1) (suf m) (B.erase m)
theorem zom (nd:B.Nodup) (fi:Fine B m):0 < due B m:=by
 obtain⟨le,bal,al⟩:=fi;exact zoq _ _ _ (length_erase_of_mem le.1) (nd.erase m) (bal.step le.1 rfl) (zdV bal al le.1 rfl)
theorem zlE (le:Least B m) (nw:¬ Whole B):due B m=0:=Classical.byContradiction fun h=>nw (by
 obtain⟨b,al⟩:=zor _ _ _ (length_erase_of_mem le.1) h;have b:=b.back le.1;exact⟨fun j z=>(b.eq j).symm,m,le,al.back le.1⟩)
theorem zqj (fi:Fine B m) (hW:(pre m::W).Nodup) (mem:∀ t,t∈pre m::W↔∃ w∈B,pre w=t):D W (W.map (Lr B)) * pr (fun t=>fc (outs B t - 1)) (pre m::W)=due B m:=by
 obtain⟨le,bal,al⟩:=fi;rw[yZ] at hW;have ps:∀ f∈B.erase m,pre f∈W∨pre f=pre m:=fun f hf=>(zN.1 ((mem _).2 ⟨f,mem_of_mem_erase hf,rfl⟩)).symm;have ss:∀ f∈B,suf f∈W∨suf f=pre m:=fun f hf=>by
  have hi:=zdn hf;rw[←bal.eq] at hi;obtain⟨y,hy⟩:=List.exists_mem_of_length_pos hi;obtain⟨hy,e⟩:=List.mem_filter.1 hy;exact(zN.1 ((mem _).2 ⟨y,hy,zV e⟩)).symm
 have ne:∀ v∈W,pre m≠v:=fun v hv e=>hW.1 (by rw[e];exact hv)
 have b:=best hW.2 hW.1 (B.length - 1) (B.erase m) (suf m) (length_erase_of_mem le.1) (bal.step le.1 rfl) (ss m le.1) ps fun f hf=>ss f (mem_of_mem_erase hf);have e1:W.map (Mr (B.erase m))=W.map (Lr B):=map_congr_left fun v hv=>by
  obtain⟨w,hw,e⟩:=(mem v).1 (zY _ hv);rw[zcN (ne v hv),zdu fun q=>by have:w∈lv B v:=zaT.2 ⟨hw,e⟩;rw[q] at this;exact nomatch this]
 have e2:fac (pre m) W (B.erase m)=pr (fun t=>fc (outs B t - 1)) (pre m::W):=by
  unfold fac;rw[zfS,zcD fun v hv=>by rw[zax,zcH (ne v hv),← zax],zax,zbc,length_erase_of_mem (zaT.2 ⟨le.1,rfl⟩),← zax]
 rw[e1,e2] at b;exact b.symm
end
section
variable {n:Nat}{F:Fn}{ρ:List V}{B:List (List Nat)}{S Z:Nat}
theorem zmc:∀ (k:Nat) (E:List (List Nat)) (w:List Nat) (n:Nat) (h:H),E.length=k→k≤100→E.Nodup→pcall h (run PP (n+k+1) true "_law_rows" [.l (V.nats w),.l (V.nats m),.l (V.lists E)] h)=.ok (.int (cnt (pre m) k (suf w) E)) h
 |0,E,w,n,h,hn,_,_=>by
  rw[eq_nil_of_length_eq_zero hn];have ec:=zqK (zeV (F:=run PP n) (ρ:=[.l (V.nats w),.l (V.nats m),.l (V.lists []),.uu,.uu]) (h:=h) (a:=.v 0) (v:=.l (V.nats w)) rfl (IsL.lst _ _)) (zc1 (a:=.v 1) (v:=.l (V.nats m)) rfl (IsL.lst _ _)) (ziK (IsL.lst _ _) (IsL.lst _ _));have ei:evE true (run PP n) [.l (V.nats w),.l (V.nats m),.l (V.lists []),.uu,.uu] (.bf .int (.cmp .eq (.slice (.v 0) (some (.int 1)) .none) (.slice (.v 1) .none (some (.neg 1))))) h=.ok (.int (cnt (pre m) 0 (suf w) [])) h:=by
   rw[zlQ (f:=.int) rfl,ec,R.bind_ok];show R.ok (V.int (if decide (suf w=pre m) then 1 else 0)) h=.ok (.int (if suf w=pre m then 1 else 0)) h
   by_cases q:suf w=pre m
   ·rw[zW q,zT q];rfl
   ·rw[zU q,zR q];rfl
  rw[start zgw rfl (ρ:=[.l (V.nats w),.l (V.nats m),.l (V.lists []),.uu,.uu]) rfl (zej (h':=h) rfl (zaA ei)),pcall_int]
 |k+1,E,w,n,h,hn,hk,nd=>by
  have hne:E≠[]:=fun q=>by rw[q] at hn;exact nomatch hn
  have t:=zqK (F:=run PP (n+(k+1))) (ρ:=[.l (V.nats w),.l (V.nats m),.l (V.lists E),.uu,.uu]) (h:=h) (a:=.v 2) (b:=.list []) (v:=.l (V.lists E)) (w:=.l (V.lists [])) rfl rfl (zfR (zau _ _ _ (lists_plains _)) (zau _ _ _ (lists_plains _)));rw[zU hne] at t;have ln:=zaO (F:=run PP (n+(k+1))) (ρ:=[.l (V.nats w),.l (V.nats m),.l (V.lists E),.int 0,.uu]) (h:=h) (a:=.v 2) (v:=.l (V.lists E)) rfl (litems_lst _ _)
  rw[zag] at ln;obtain⟨ρ',g',e,x,rfl,eg⟩:=zaE (F:=run PP (n+(k+1))) (x:=4) (body:=[
  .ifs (.cmp .eq (.slice (.idx (.v 2) (.v 4)) .none (some (.neg 1))) (.slice (.v 0) (some (.int 1)) .none)) [
   .asg 3 (.bin .add (.v 3) (.call false "_law_rows" [.idx (.v 2) (.v 4),.v 1,.bin .add (.slice (.v 2) .none (some (.v 4))) (.slice (.v 2) (some (.bin .add (.v 4) (.int 1))) .none)]))] []]) (fun p ρ g=>∃ x,ρ=[.l (V.nats w),.l (V.nats m),.l (V.lists E),.int (sm (fun f=>cnt (pre m) k (suf f) (E.erase f)) (lv (E.take p.length) (suf w))),x]∧g=h) (zbp ln (by rw[hn];exact zX hk (by decide))) (fun z z z z=>rfl) ⟨.uu,rfl,rfl⟩ (fun p a q ρ g hp I=>by
   obtain⟨x,rfl,rfl⟩:=I;obtain⟨rfl,hlt⟩:=range_at hp;have lt:=zM hlt;have eT:E.take (p++[p.length]).length=E.take p.length++[E[p.length]]:=by rw[zQ,length_singleton,List.take_add_one,lt];rfl
   have eE:E=E.take p.length++E[p.length]::E.drop (p.length+1):=by rw[←List.drop_eq_getElem_cons hlt,take_append_drop]
   generalize hf:E[p.length]=f at lt eT eE;rw[eT,zi6,zl8];generalize sm (fun f=>cnt (pre m) k (suf f) (E.erase f)) (lv (E.take p.length) (suf w))=y;have v0:evE true (run PP (n+(k+1))) [.l (V.nats w),.l (V.nats m),.l (V.lists E),.int y,.int (p.length:Nat)] (.idx (.v 2) (.v 4)) g=.ok (.l (V.nats f)) g:=zaP (v:=.l (V.lists E)) (j:=p.length) rfl rfl (litems_lst _ _) (zgO lt);have tc:=zqK (zc1 v0 (IsL.lst _ _)) (zeV (F:=run PP (n+(k+1))) (ρ:=[.l (V.nats w),.l (V.nats m),.l (V.lists E),.int y,.int (p.length:Nat)]) (h:=g) (a:=.v 0) (v:=.l (V.nats w)) rfl (IsL.lst _ _)) (ziK (IsL.lst _ _) (IsL.lst _ _))
   by_cases c:pre f=suf w
   ·rw[zW c] at tc
    rw[zT c];have ed:E.erase f=E.take p.length++E.drop (p.length+1):=by
     have hx:f ∉ E.take p.length:=fun q=>by
      rw[eE,nodup_append] at nd;exact nd.2.2 f q f (zZ ..) rfl
     conv=>lhs;rw[eE]
     rw[List.erase_append_right _ hx,List.erase_cons_head]
    have es:evE true (run PP (n+(k+1))) [.l (V.nats w),.l (V.nats m),.l (V.lists E),.int y,.int (p.length:Nat)] (.bin .add (.slice (.v 2) .none (some (.v 4))) (.slice (.v 2) (some (.bin .add (.v 4) (.int 1))) .none)) g=.ok (.l (V.lists (E.erase f))) g:=by
     have e1:evE true (run PP (n+(k+1))) [.l (V.nats w),.l (V.nats m),.l (V.lists E),.int y,.int (p.length:Nat)] (.slice (.v 2) .none (some (.v 4))) g=.ok (.l (V.lists (E.take p.length))) g:=by
      rw[zfQ,zao (v:=.l (V.lists E)) rfl trivial,R.bind_ok,zoK,R.bind_ok,zoJ,zao (v:=.int (p.length:Nat)) rfl trivial,R.bind_ok,R.bind_ok,zcC rfl];unfold V.lists;rw[map_take];rfl
     have e2:evE true (run PP (n+(k+1))) [.l (V.nats w),.l (V.nats m),.l (V.lists E),.int y,.int (p.length:Nat)] (.slice (.v 2) (some (.bin .add (.v 4) (.int 1))) .none) g=.ok (.l (V.lists (E.drop (p.length+1)))) g:=by
      rw[zfQ,zao (v:=.l (V.lists E)) rfl trivial,R.bind_ok,zoJ,zb5 (x:=(p.length:Nat)) (y:=1) rfl rfl,R.bind_ok,R.bind_ok,zoK,R.bind_ok];show R.opt (zas g (.l (V.lists E)) (some (.int ((p.length+1:Nat):Int))) Option.none) g=_;rw[zaY rfl];unfold V.lists;rw[map_drop];rfl
     rw[ed,zaH];exact zg9 e1 e2 (litems_lst _ _) (litems_lst _ _) (by
      rw[zag,zag,← zQ,← ed];exact zX (length_erase_le ..) (by rw[hn];exact zX hk (by decide)))
    have hm:f∈E:=mem_of_getElem? lt;have ih:=zmc  (m:=m) k (E.erase f) f n g (by rw[length_erase_of_mem hm,hn];rfl) (Nat.le_of_succ_le hk) (nd.erase f)
    have ea:=zb5 (x:=y) (a:=.v 3) rfl (zaV v0 (w:=.l (V.nats m)) (b:=.v 1) rfl es ih);exact⟨_,_,(zbk tc).trans ((zap ea).trans rfl),.int (p.length:Nat),by show _=[_,_,_,V.int (y+(_+0)),_];rw[Int.add_zero];rfl,rfl⟩
   ·rw[zU c] at tc
    rw[zR c];exact⟨_,_,(zaW tc).trans rfl,.int (p.length:Nat),by show _=[_,_,_,V.int (y+0),_];rw[Int.add_zero],rfl⟩)
  rw[eg,length_range,take_length] at e;rw[start zgw rfl (ρ:=[.l (V.nats w),.l (V.nats m),.l (V.lists E),.uu,.uu]) rfl (zbH t (zai (v:=.int 0) (h':=h) rfl (ρ':=[.l (V.nats w),.l (V.nats m),.l (V.lists E),.int 0,.uu]) rfl (zaB e (zaA rfl)))),pcall_int];rfl
end
section
variable {n:Nat}{h:H}{F:Fn}{ρ:List V}{B:List (List Nat)}{S Z:Nat}
theorem zrs (hf:Fit S Z) (w:GW S Z B) (jb:JB B):(Whole B∧pcall h (run PP (n+6) true "_law_has_ring" [.int S,.int Z,.l (V.lists B)] h)=.ok (.bool true) h)∨¬ Whole B∧pcall h (run PP (n+6) true "_law_has_ring" [.int S,.int Z,.l (V.lists B)] h)=.ok (.bool false) h:=by
 have e2:=zmj B;have cl:evE true (run PP (n+5)) [.int S,.int Z,.l (V.lists B),.uu] (.call false "ring_of" [.v 0,.v 1,.v 2]) h=pcall h (run PP (n+5) true "ring_of" [.int S,.int Z,.l (V.lists B)] h):=by
  rw[zed,zbi (zao (v:=.int S) rfl trivial) (zbi (zao (v:=.int Z) rfl trivial) (zbi (zao (v:=.l (V.lists B)) rfl trivial) rfl))];rfl
 rcases zkL (n:=n) hf (zms h B) (e2.symm ▸ w) (e2.symm ▸ jb) ⟨hf.z1,hf.z8⟩ with⟨es,g',c,m,e,x,hc,hl,fi⟩|⟨e,nw⟩
 ·rw[e2] at fi
  refine .inl ⟨fi.whole,?_⟩;have ex:exSs true (run PP (n+5)) [.expr (.call false "ring_of" [.v 0,.v 1,.v 2])] [.int S,.int Z,.l (V.lists B),.uu] h=.ok .next [.int S,.int Z,.l (V.lists B),.uu] h:=(zaD (cl.trans (by rw[e];exact zbS x (zdW hc hl)))).trans rfl
  rw[start zcr rfl (ρ:=[.int S,.int Z,.l (V.lists B),.uu]) rfl (show(exSs true (run PP (n+5)) (.try [.expr (.call false "ring_of" [.v 0,.v 1,.v 2])] "RingError" 3 [.ret (.cmp .ne (.callX "_law_classes" 3) (.tup [.int 5]))]::[.ret (.bool true)]) [.int S,.int Z,.l (V.lists B),.uu] h).out=.ok (.bool true) h by
   rw[ss_cons',s_try',zR (by decide),ex];rfl),pcall_bool]
 ·rw[e2] at nw
  refine .inr ⟨nw,?_⟩;have ex:exSs true (run PP (n+5)) [.expr (.call false "ring_of" [.v 0,.v 1,.v 2])] [.int S,.int Z,.l (V.lists B),.uu] h=.err "NoRing" [.int S,.int Z,.l (V.lists B),.uu] h:=by
   rw[ss_cons',s_expr',cl,e,pcall_err0];rfl
  have hcl:pcall h (run PP (n+5) false "_law_classes" [.exc "NoRing"] h)=.ok (.tup [.int 5]) h:=by
   rw[zhM  (n+4) false "NoRing" (by decide) h,zaK rfl];rfl
  rw[start zcr rfl (ρ:=[.int S,.int Z,.l (V.lists B),.uu]) rfl (show(exSs true (run PP (n+5)) (.try [.expr (.call false "ring_of" [.v 0,.v 1,.v 2])] "RingError" 3 [.ret (.cmp .ne (.callX "_law_classes" 3) (.tup [.int 5]))]::[.ret (.bool true)]) [.int S,.int Z,.l (V.lists B),.uu] h).out=.ok (.bool false) h by
   rw[ss_cons',s_try',zR (by decide),ex,zhP (d:="NoRing") (hd:=by decide)]
   have ec:evE false (run PP (n+5)) [.int S,.int Z,.l (V.lists B),.exc "NoRing"] (.callX "_law_classes" 3) h=.ok (.tup [.int 5]) h:=hcl;have er:exSs false (run PP (n+5)) [.ret (.cmp .ne (.callX "_law_classes" 3) (.tup [.int 5]))] [.int S,.int Z,.l (V.lists B),.exc "NoRing"] h=.ok (.ret (.bool false)) [.int S,.int Z,.l (V.lists B),.exc "NoRing"] h:=by
    rw[ss_cons',s_ret',zbQ,ec];rfl
   show(RS.then (doneS 3 (exSs false (run PP (n+5)) [.ret (.cmp .ne (.callX "_law_classes" 3) (.tup [.int 5]))] [.int S,.int Z,.l (V.lists B),.exc "NoRing"] h)) _).out=_;rw[er];rfl),pcall_bool]
end
noncomputable def erow (a:Int) (t0:List Int):List Int→List Int
 |[]=>[]
 |b::t=>List.zipWith (fun x y=>a * x - b * y) t t0
noncomputable def ev:Nat→List (List Int)→Int × Int
 |0,_=>(1,1)
 |n+1,(a::t0)::Q=>((ev n (Q.map (erow a t0))).1 * a ^ Q.length,a * (ev n (Q.map (erow a t0))).2)
 |_+1,_=>(0,0)
theorem zp3 {f:Int→Int→Int}(h0:f 0 0=0) (hl:t.length=t0.length) (j:Nat):fn (List.zipWith f t t0) j=f (fn t j) (fn t0 j):=by
 unfold fn;rw[List.getD_eq_getElem?_getD,List.getD_eq_getElem?_getD,List.getD_eq_getElem?_getD]
 by_cases h:j < t.length
 ·have h':j < t0.length:=by rw[←hl];exact h
  rw[List.getElem?_zipWith,zM h,zM h'];rfl
 ·have h:=Nat.le_of_not_lt h
  rw[List.getElem?_zipWith,List.getElem?_eq_none h,List.getElem?_eq_none (by rw[←hl];exact h)];exact h0.symm
theorem zp7:∀ (n:Nat) (R:List (List Int)),R.length=n→(∀ r∈R,r.length=n)→(ev n R).1 * D (List.range n) (R.map fn)=(ev n R).2
 |0,R,hn,_=>by rw[eq_nil_of_length_eq_zero hn];rfl
 |n+1,[],hn,_=>nomatch hn
 |n+1,[]::Q,_,hr=>nomatch hr [] (zZ ..)
 |n+1,(a::t0)::Q,hn,hr=>by
  have h0:t0.length=n:=Nat.succ.inj (hr _ (zZ ..));have hq:∀ q∈Q,∃ b t,q=b::t∧t.length=n:=fun q h=>by
   have:=hr q (zY _ h)
   match q,this with
   |b::t,e=>exact⟨b,t,rfl,Nat.succ.inj e⟩
  have ih:=zp7 n (Q.map (erow a t0)) (by rw[zJ];exact Nat.succ.inj hn) fun r h=>by
   obtain⟨q,hm,rfl⟩:=yQ.1 h;obtain⟨b,t,rfl,e⟩:=hq q hm;show(List.zipWith _ t t0).length=n;rw[List.length_zipWith,e,h0,Nat.min_self]
  have hD:=zrE (r0:=fn (a::t0)) (c:=0) (cs:=(List.range n).map Nat.succ) (Q:=Q.map fn);rw[zJ] at hD;have hm:=zqG (f:=fun q:List Int=>el (fn (a::t0)) 0 (fn q)) (f':=fun q=>fn (erow a t0 q)) (e:=Nat.succ) (List.range n) Q fun q h c z=>by
   obtain⟨b,t,rfl,e⟩:=hq q h;show fn (List.zipWith (fun x y=>a * x - b * y) t t0) c=a * fn t c - b * fn t0 c;exact zp3 (by rw[Int.mul_zero,Int.mul_zero];rfl) (e.trans h0.symm) c
  rw[map_map] at hD;rw[show(el (fn (a::t0)) 0∘fn)=fun q:List Int=>el (fn (a::t0)) 0 (fn q) from rfl,hm] at hD;rw[map_map] at ih;show(ev n (Q.map (erow a t0))).1 * a ^ Q.length * D (List.range (n+1)) (fn (a::t0)::Q.map fn)=a * (ev n (Q.map (erow a t0))).2;rw[List.range_succ_eq_map,Int.mul_assoc,← ih,Int.mul_left_comm a];exact congrArg ((ev n (Q.map (erow a t0))).1 * ·) hD.symm
theorem zp6 {n:Nat}{R:List (List Int)}{v:Int}(hn:R.length=n) (hr:∀ r∈R,r.length=n) (h0:(ev n R).1≠0) (hv:(ev n R).1 * v=(ev n R).2):D (List.range n) (R.map fn)=v :=
 Int.eq_of_mul_eq_mul_left h0 ((zp7 n R hn hr).trans hv.symm)
section
variable {n:Nat}{h:H}{B:List (List Nat)}{S Z:Nat}
noncomputable def rc (B:List (List Nat)):Nat→List (List Nat)→List (List Nat)
 |0,X=>X
 |k+1,X=>rc B k (X++(B.filter fun w=>decide (pre w∈X)).map suf)
theorem zqV:∀ (k:Nat) (X:List (List Nat)),(∀ x∈X,Rch B s x)→∀ x∈rc B k X,Rch B s x:=by
 intro l__
 induction l__ with
 |zero=>exact fun z h x hx=>h x hx
 |succ k ih=>exact fun X h x hx=>ih _ (fun y hy=>by
   rcases zP.1 hy with hy|hy
   ·exact h y hy
   ·obtain⟨w,hw,rfl⟩:=yQ.1 hy
    obtain⟨hw,e⟩:=List.mem_filter.1 hw;exact .step hw (h _ (zV e))) x hx
theorem zko (k:Nat) (h1:∀ w∈B,suf w∈B.map pre) (h2:∀ j∈B.map pre,ins B j=outs B j) (h3:m∈B∧∀ t∈B,wlt t m=false) (h4:∀ w∈B,pre w∈rc B k [pre m]):Whole B :=
 ⟨fun j ⟨w,hw,e⟩=>h2 j (e.elim (fun e=>e ▸ yQ.2 ⟨w,hw,rfl⟩) fun e=>e ▸ h1 w hw),m,h3,fun w hw=>zqV k [pre m] (fun x hx=>by rw[zK.1 hx];exact .base) _ (h4 w hw)⟩
theorem zpQ (w:GW S Z B) (hZ:1≤Z) (J:List (List Nat)) (hJ:∀ j,isJ B j→j∈J) (hl:J.length < 64) (hB:B.length < 64):JB B:=by
 refine⟨fun K hn hK=>Nat.lt_of_le_of_lt (within hn fun x hx=>hJ x (hK x hx)) hl,fun K hn hK=>?_,w.ne,hB⟩
 rcases Nat.eq_or_lt_of_le hZ with e|e
 ·refine .inl (Nat.lt_succ_of_le (within (b:=[[]]) hn fun x hx=>?_))
  have:=zjm w.len (hK x hx);rw[←e] at this;rw[eq_nil_of_length_eq_zero this];exact zZ ..
 ·refine .inr fun t ht q=>?_
  have:=zjm w.len (hK t ht);rw[q] at this;exact absurd this (Nat.ne_of_lt (Nat.sub_pos_of_lt e))
theorem zpR (w:GW S Z B) (hZ:1≤Z) (hB:B.length≤31):JB B:=zpQ w hZ (B.map pre++B.map suf) (fun j ⟨x,hx,e⟩=>zP.2 (e.imp (fun e=>yQ.2 ⟨x,hx,e.symm⟩) fun e=>yQ.2 ⟨x,hx,e.symm⟩)) (by
 rw[zQ,zJ,zJ];exact Nat.lt_of_le_of_lt (Nat.add_le_add hB hB) (by decide)) (Nat.lt_of_le_of_lt hB (by decide))
theorem zpZ (hf:Fit S Z) (w:GW S Z B) (jb:JB B) (hB:B.length≤33) (hK:(Kp B).length≤17) (wh:Whole B){d v:Int}(h0:(ev ((Kp (srt B)).length - 1) (sub1 (MF (Kp (srt B)) B))).1≠0) (hd:(ev ((Kp (srt B)).length - 1) (sub1 (MF (Kp (srt B)) B))).1 * d=(ev ((Kp (srt B)).length - 1) (sub1 (MF (Kp (srt B)) B))).2) (hv:d * pr (fun t=>fc (outs B t - 1)) (Kp (srt B))=v) :
  pcall h (run PP (n+5) true "many_rings" [.int S,.int Z,.l (V.lists B)] h)=.ok (.int v) h:=by
 rcases zmh (n:=n) (h:=h) hf w jb hB hK with⟨m,Ws,_,_,eV,e⟩|⟨nw,_⟩
 ·rw[eV] at h0 hd hv
  have:=zp6 (n:=Ws.length) (R:=sub1 (MF (pre m::Ws) B)) (by rw[sub_MF,zJ]) (fun r hr=>by
   rw[sub_MF] at hr;obtain⟨v,_,rfl⟩:=yQ.1 hr;exact zJ ..) h0 hd
  rw[zqk] at this;rw[e,this,hv]
 ·exact absurd wh nw
noncomputable def FB (S Z:Nat):List (List Nat):=(List.range (S ^ Z)).map (word S Z)
theorem zp4 {ρ:List V}(hf:Fit S Z) (e1:ρ[1]?=some (.int S)) (e2:ρ[2]?=some (.int Z)) (h9:9 < ρ.length):evE true (run PP (n+1)) ρ (.comp (.call false "_law_word" [.v 1,.v 2,.v 9]) 9 (.range1 (.call false "_law_power" [.v 1,.v 2])) .none) h=.ok (.l (V.lists (FB S Z))) h:=by
 have ep:evE true (run PP (n+1)) ρ (.call false "_law_power" [.v 1,.v 2]) h=.ok (.int ((S ^ Z:Nat):Int)) h:=zb2 (zao e1 trivial) (zao e2 trivial) (by
  rw[zgH  n S (Nat.lt_of_le_of_lt hf.s9 (by decide)) Z (zX hf.z8 (by decide)) h,pcall_int,Int.natCast_pow])
 have hn:=zX hf.few (show 256≤1000000 by decide)
 have ew:(List.range (S ^ Z)).map (fun k=>V.l (V.nats (word S Z k)))=V.lists (FB S Z):=by unfold V.lists FB;rw[map_map];rfl
 refine zbL (zbp ep hn) rfl (fun k=>.l (V.nats (word S Z k))) (fun k z=>zaV (zao ((List.getElem?_set_ne (by decide)).trans e1) trivial) (zao ((List.getElem?_set_ne (by decide)).trans e2) trivial) (zao (v:=.int k) (List.getElem?_set_self h9) trivial) (by rw[zel  n S Z k hf.s1 (zX hf.z8 (by decide)) h,zaK (zaM _)])) ?_
 rw[ew];exact za1 (by rw[zag];unfold FB;rw[zJ,length_range];exact hn)
noncomputable def kn (S Z:Nat):Int:=(fc S ^ (S ^ (Z - 1))).fdiv ((S:Int) ^ Z)
theorem zlt:∀ k,k≤9→(fc k).natAbs < 9223372036854775808:=by decide
theorem znS (hf:Fit S Z):pcall h (run PP (n+2) true "_law_known" [.int S,.int Z] h)=.ok (.int (kn S Z)) h:=by
 obtain⟨ρ1,g1,e1,w3,rfl,hg1⟩:=zaE (F:=run PP (n+1)) (x:=3) (body:=[.asg 2 (.bin .mul (.v 2) (.bin .add (.v 3) (.int 1)))]) (fun p ρ g=>∃ w,ρ=[.int S,.int Z,.int (fc p.length),w,.uu,.uu]∧g=h) (zbp (ρ:=[.int S,.int Z,.int 1,.uu,.uu,.uu]) (a:=.v 0) (n:=S) rfl (zX hf.s9 (by decide))) (fun u u u u=>rfl) ⟨.uu,rfl,rfl⟩ (fun p a q ρ g hp I=>by
  obtain⟨w,rfl,hg⟩:=I;obtain⟨rfl,hlt⟩:=range_at hp;have em:=zgk (q:=true) (F:=run PP (n+1)) (ρ:=[.int S,.int Z,.int (fc p.length),.int (p.length:Nat),.uu,.uu]) (h:=g) (a:=.v 2) (x:=fc p.length) rfl (zb5 (a:=.v 3) (b:=.int 1) (x:=p.length) (y:=1) rfl rfl) (Nat.lt_of_le_of_lt (zX (Nat.succ_le_of_lt hlt) hf.s9) (by decide))
  refine⟨_,g,(zap em).trans rfl,.int (p.length:Nat),?_,hg⟩;rw[zQ,length_singleton,zru,Int.mul_comm];rfl)
 rw[hg1,length_range] at e1;have ep:∀ (b:PE) (z:Nat) (ρ:List V),z≤8→ρ[0]?=some (.int S)→evE true (run PP (n+1)) ρ b h=.ok (.int z) h→evE true (run PP (n+1)) ρ (.call false "_law_power" [.v 0,b]) h=.ok (.int ((S:Int) ^ z)) h:=fun b z ρ hz h0 hb=>zb2 (zao h0 trivial) hb (by
  rw[zgH  n S (Nat.lt_of_le_of_lt hf.s9 (by decide)) z (zX hz (by decide)) h,pcall_int])
 have hz:evE true (run PP (n+1)) [.int S,.int Z,.int (fc S),w3,.int 1,.uu] (.bin .sub (.v 1) (.int 1)) h=.ok (.int ((Z - 1:Nat):Int)) h:=(zfn (x:=Z) (y:=1) rfl rfl).trans (by rw[Int.ofNat_sub hf.z1];rfl)
 have e2:=ep _ _ _ (zX (Nat.sub_le Z 1) hf.z8) rfl hz;rw[←Int.natCast_pow] at e2;obtain⟨ρ2,g2,e3,w5,rfl,hg2⟩:=zaE (F:=run PP (n+1)) (x:=5) (body:=[.asg 4 (.bin .mul (.v 4) (.v 2))]) (fun p ρ g=>∃ w,ρ=[.int S,.int Z,.int (fc S),w3,.int (fc S ^ p.length),w]∧g=h) (zbp e2 (zX (Nat.pow_le_pow_right hf.s1 (Nat.sub_le Z 1)) (zX hf.few (by decide)))) (fun u u u u=>rfl) ⟨.uu,by rw[length_nil,Int.pow_zero],rfl⟩ (fun p a q ρ g hp I=>by
  obtain⟨w,rfl,hg⟩:=I;have em:=zgk (q:=true) (F:=run PP (n+1)) (ρ:=[.int S,.int Z,.int (fc S),w3,.int (fc S ^ p.length),.int (a:Nat)]) (h:=g) (a:=.v 4) (b:=.v 2) (x:=fc S ^ p.length) (y:=fc S) rfl rfl (zlt S hf.s9);refine⟨_,g,(zap em).trans rfl,.int (a:Nat),?_,hg⟩;rw[zQ,length_singleton,Int.pow_succ];rfl)
 rw[hg2,length_range] at e3;have ed:=zbD (q:=true) (a:=.v 4) (x:=fc S ^ (S ^ (Z - 1))) rfl (ep (.v 1) Z [.int S,.int Z,.int (fc S),w3,.int (fc S ^ (S ^ (Z - 1))),w5] hf.z8 rfl rfl) (Int.ne_of_gt (Int.pow_pos (Int.natCast_pos.2 hf.s1)));rw[start ziq rfl (ρ:=[.int S,.int Z,.uu,.uu,.uu,.uu]) rfl (zai (v:=.int 1) (h':=h) rfl (ρ':=[.int S,.int Z,.int 1,.uu,.uu,.uu]) rfl (zaB e1 (zai (v:=.int 1) (h':=h) rfl (ρ':=[.int S,.int Z,.int (fc S),w3,.int 1,.uu]) rfl (zaB e3 (zaA ed))))),pcall_int];rfl
end
def Shows (B:List (List Nat)) (S Z:Nat) (d:Int):Prop :=
 (B.Nodup∧B≠[]∧(∀ w∈B,w.length=Z)∧(∀ w∈B,∀ d∈w,d < S)∧B.length≤33∧(Kp B).length≤17) ∧
 ((∀ w∈B,suf w∈B.map pre)∧(∀ j∈B.map pre,ins B j=outs B j)∧(word S Z 0∈B∧∀ t∈B,wlt t (word S Z 0)=false)∧∀ w∈B,pre w∈rc B Z [pre (word S Z 0)]) ∧
 (ev ((Kp (srt B)).length - 1) (sub1 (MF (Kp (srt B)) B))).1≠0∧(ev ((Kp (srt B)).length - 1) (sub1 (MF (Kp (srt B)) B))).1 * d=(ev ((Kp (srt B)).length - 1) (sub1 (MF (Kp (srt B)) B))).2∧d * pr (fun t=>fc (outs B t - 1)) (Kp (srt B))=kn S Z
noncomputable instance (B:List (List Nat)) (S Z:Nat) (d:Int):Decidable (Shows B S Z d):=by unfold Shows;infer_instance
theorem s24:Shows (FB 2 4) 2 4 16:=by decide +kernel
theorem s32:Shows (FB 3 2) 3 2 3:=by decide +kernel
theorem s71:Shows (FB 7 1) 7 1 1:=by decide +kernel
theorem s42:Shows (FB 4 2) 4 2 16:=by decide +kernel
theorem s33:Shows (FB 3 3) 3 3 729:=by decide +kernel
theorem s25:Shows (FB 2 5) 2 5 2048:=by decide +kernel
theorem s52:Shows (FB 5 2) 5 2 125:=by decide +kernel
section
variable {n:Nat}{h:H}{S Z:Nat}
theorem Shows.gw (s:Shows B S Z d):GW S Z B:=⟨s.1.1,s.1.2.1,s.1.2.2.1,s.1.2.2.2.1,zX s.1.2.2.2.2.1 (by decide)⟩
theorem znc {d:Int}(hf:Fit S Z) (s:Shows (FB S Z) S Z d):pcall h (run PP (n+5) true "many_rings" [.int S,.int Z,.l (V.lists (FB S Z))] h)=.ok (.int (kn S Z)) h∧pcall h (run PP (n+5) true "_law_known" [.int S,.int Z] h)=.ok (.int (kn S Z)) h:=by
 have w:=s.gw;obtain⟨⟨_,_,_,_,hB,hK⟩,⟨h1,h2,h3,h4⟩,e0,e1,e2⟩:=s;exact⟨zpZ  hf w (zpQ w hf.z1 ((FB S Z).map pre) (fun j ⟨x,hx,e⟩=>e.elim (fun e=>e ▸ yQ.2 ⟨x,hx,rfl⟩) fun e=>e ▸ h1 x hx) (by rw[zJ];exact Nat.lt_of_le_of_lt hB (by decide)) (Nat.lt_of_le_of_lt hB (by decide))) hB hK (zko Z h1 h2 h3 h4) e0 e1 e2,znS (n:=n+3) hf⟩
end
section
variable {n:Nat}{h:H}{F:Fn}{ρ:List V}{B:List (List Nat)}{S Z:Nat}
noncomputable def El (s:List Int) (v1 v2 v3 v4 v5 v6 v7 v8:V):List V:=[V.ints s,v1,v2,v3,v4,v5,v6,v7,v8,.uu,.uu]
theorem GW.take (w:GW S Z B) (k:Nat) (hk:0 < k):GW S Z (B.take k):=⟨w.nodup.sublist (List.take_sublist k B),fun e=>by
  rcases List.take_eq_nil_iff.1 e with e|e
  ·rw[e] at hk;exact absurd hk (Nat.lt_irrefl 0)
  ·exact w.ne e,fun x hx=>w.len x (mem_of_mem_take hx),fun x hx=>w.lt x (mem_of_mem_take hx),zX (by rw[length_take];exact Nat.min_le_right ..) w.few⟩
theorem zrt (hb:decide (0 < x)=b) (e:pcall h (run PP (n+10) true "_law_has_ring" [.int S,.int Z,.l (V.lists B)] h)=.ok (.bool b) h) :
  (exSs true (run PP (n+10)) (zlY.body.drop 10) (El s (.int S) (.int Z) (.l (V.lists B)) v4 (.l (V.lists B)) (.int x) v7 (.int x)) h).out=.ok (.bool true) h:=by
 have e1:=zdJ (q:=true) (F:=run PP (n+10)) (ρ:=El s (.int S) (.int Z) (.l (V.lists B)) v4 (.l (V.lists B)) (.int x) v7 (.int x)) (h:=h) (a:=.v 6) (b:=.v 8) (x:=x) (y:=x) rfl rfl;rw[zW rfl] at e1;have e2:evE true (run PP (n+10)) (El s (.int S) (.int Z) (.l (V.lists B)) v4 (.l (V.lists B)) (.int x) v7 (.int x)) (.cmp .gt (.v 6) (.int 0)) h=.ok (.bool b) h:=by
  rw[←hb];rfl
 have e3:=zqK (t:=true) (zaV (F:=run PP (n+10)) (ρ:=El s (.int S) (.int Z) (.l (V.lists B)) v4 (.l (V.lists B)) (.int x) v7 (.int x)) (a:=.v 1) (b:=.v 2) (c:=.v 5) (v:=.int S) (w:=.int Z) (x:=.l (V.lists B)) rfl rfl rfl e) e2 (by cases b<;>rfl)
 exact zaA (zlV e1 fun z=>e3)
theorem zk2 (nd:B.Nodup):B.filter (fun t=>!decide (t=m))=B.erase m:=by
 rw[nd.erase_eq_filter];refine List.filter_congr fun t z=>?_
 by_cases e:t=m
 ·subst e;rw[zW rfl,bne_self_eq_false];rfl
 ·rw[zU e,bne_iff_ne.2 e];rfl
theorem zl6 (s:List Int) (hf:Fit S Z) (w:GW S Z B){v4:V} :
  (exSs true (run PP (n+10)) (zlY.body.drop 4) (El s (.int S) (.int Z) (.l (V.lists B)) v4 .uu .uu .uu .uu) h).out=.ok (.bool true) h:=by
 have es:evE true (run PP (n+10)) (El s (.int S) (.int Z) (.l (V.lists B)) v4 .uu .uu .uu .uu) (.slice (.v 3) .none (some (.int 10))) h=.ok (.l (V.lists (B.take 10))) h:=by
  rw[zfQ,zao (v:=.l (V.lists B)) rfl trivial,R.bind_ok];show R.opt (zas h (.l (V.lists B)) Option.none (some (.int (10:Nat)))) h=_;rw[zcC (litems_lst _ _)];unfold V.lists;rw[map_take];rfl
 have l10:(B.take 10).length≤10:=by rw[length_take];exact Nat.min_le_left ..
 have w:=w.take 10 (by decide)
 generalize B.take 10=B at es l10 w;have jb:=zpR w hf.z1 (zX l10 (by decide))
 have ec:evE true (run PP (n+10)) (El s (.int S) (.int Z) (.l (V.lists B)) v4 .uu .uu .uu .uu) (.comp (.bf .list (.v 10)) 10 (.seq (.v 3)) .none) h=.ok (.l (V.lists B)) h:=zbL (l:=B) (c:=fun t=>.l (V.nats t)) (zbq (vs:=V.lists B) rfl) rfl (fun t=>.l (V.nats t)) (fun t z=>zmi (List.getElem?_set_self (by decide:10 < 11)) (litems_lst _ _)) (za1 (by rw[zJ];exact zX l10 (by decide)))
 obtain⟨m,rest,em,le⟩:=zgx w.ne;have hx:∃ x:Int,x=due B m∧pcall h (run PP (n+10) true "many_rings" [.int S,.int Z,.l (V.lists B)] h)=.ok (.int x) h∧∃ b:Bool,decide (0 < x)=b∧pcall h (run PP (n+10) true "_law_has_ring" [.int S,.int Z,.l (V.lists B)] h)=.ok (.bool b) h:=by
  have hr:=zrs (n:=n+4) (h:=h) hf w jb
  rcases zmh (n:=n+5) (h:=h) hf w jb (zX l10 (by decide)) (zX (zhb B) (zX l10 (by decide))) with⟨m',Ws,fi,_,eV,e⟩|⟨nw,e⟩
  ·cases le.eq fi.1
   have nd:=zb7 (srt B);rw[eV] at nd;rw[zqj fi nd fun t=>by
    rw[←eV,zd1];exact⟨fun⟨w,hw,e⟩=>⟨w,zca.1 hw,e⟩,fun⟨w,hw,e⟩=>⟨w,zca.2 hw,e⟩⟩] at e
   exact⟨_,rfl,e,true,zW (zom w.nodup fi),(hr.resolve_right fun q=>q.1 fi.whole).2⟩
  ·exact⟨0,(zlE le nw).symm,e,false,rfl,(hr.resolve_left fun q=>nw q.1).2⟩
 obtain⟨x,hd,e6,b,hb,eh⟩:=hx;have e7:evE true (run PP (n+10)) (El s (.int S) (.int Z) (.l (V.lists B)) v4 (.l (V.lists B)) (.int x) .uu .uu) (.idx (.bf .sorted (.v 3)) (.int 0)) h=.ok (.l (V.nats m)) h :=
  zaP (j:=0) (zaX (a:=.v 3) (v:=.l (V.lists B)) rfl (zbP (litems_lst _ _)) (zbm h B (Nat.lt_of_le_of_lt l10 (by decide)))) rfl (litems_lst _ _) (by rw[em];rfl)
 have ef:evE true (run PP (n+10)) (El s (.int S) (.int Z) (.l (V.lists B)) v4 (.l (V.lists B)) (.int x) (.l (V.nats m)) .uu) (.comp (.v 10) 10 (.seq (.v 3)) (some (.cmp .ne (.v 10) (.v 7)))) h=.ok (.l (V.lists (B.erase m))) h:=by
  rw[←zk2 w.nodup];exact zgW (l:=B) (c:=fun t=>.l (V.nats t)) (zbq (vs:=V.lists B) rfl) rfl (fun t=>.l (V.nats t)) (fun t=>!decide (t=m)) (fun t z=>zol (v:=.l (V.nats t)) (w:=.l (V.nats m)) rfl rfl (ziK (IsL.lst _ _) (IsL.lst _ _))) (fun t z z=>rfl) (za1 (by
   rw[zJ];exact zX (length_filter_le ..) (zX l10 (by decide))))
 have lE:(B.erase m).length=B.length - 1:=length_erase_of_mem le.1;have l9:B.length - 1≤9:=Nat.sub_le_sub_right l10 1;have ne:n+10=n+9 - (B.length - 1)+(B.length - 1)+1:=by rw[Nat.sub_add_cancel (zX l9 (Nat.le_add_left ..))]
 have er:=zmc  (m:=m) (B.length - 1) (B.erase m) m (n+9 - (B.length - 1)) h lE (zX l9 (by decide)) (w.nodup.erase m)
 rw[←ne] at er;have e8:evE true (run PP (n+10)) (El s (.int S) (.int Z) (.l (V.lists B)) v4 (.l (V.lists B)) (.int x) (.l (V.nats m)) .uu) (.call false "_law_rows" [.v 7,.v 7,.comp (.v 10) 10 (.seq (.v 3)) (some (.cmp .ne (.v 10) (.v 7)))]) h=.ok (.int x) h:=by
  rw[hd];exact zaV (v:=.l (V.nats m)) (w:=.l (V.nats m)) rfl rfl ef er
 have t7:=zrO (F:=run PP (n+10)) (ρ:=El s (.int S) (.int Z) (.l (V.lists B)) v4 (.l (V.lists B)) (.int x) .uu .uu) (h:=h) (a:=.not (.isinst (.v 6) [.int])) (b:=.isinst (.v 6) [.bool]) (x:=false) (y:=false) rfl rfl (zol (a:=.v 5) (b:=.v 3) (v:=.l (V.lists B)) (w:=.l (V.lists B)) rfl rfl (zfR (zau _ _ _ (lists_plains _)) (zau _ _ _ (lists_plains _))));rw[zW rfl] at t7
 exact zai es (ρ':=El s (.int S) (.int Z) (.l (V.lists B)) v4 .uu .uu .uu .uu) rfl (zai ec (ρ':=El s (.int S) (.int Z) (.l (V.lists B)) v4 (.l (V.lists B)) .uu .uu .uu) rfl (zai (zaV (a:=.v 1) (b:=.v 2) (c:=.v 5) (v:=.int S) (w:=.int Z) (x:=.l (V.lists B)) rfl rfl rfl e6) (ρ':=El s (.int S) (.int Z) (.l (V.lists B)) v4 (.l (V.lists B)) (.int x) .uu .uu) rfl (zbH t7 (zai e7 (ρ':=El s (.int S) (.int Z) (.l (V.lists B)) v4 (.l (V.lists B)) (.int x) (.l (V.nats m)) .uu) rfl (zai e8 (ρ':=El s (.int S) (.int Z) (.l (V.lists B)) v4 (.l (V.lists B)) (.int x) (.l (V.nats m)) (.int x)) rfl (zrt  hb eh))))))
end
section
variable {n:Nat}{h:H}{F:Fn}{ρ:List V}{B:List (List Nat)}{S Z:Nat}
theorem zqo (ea:evE true F ρ a h=.ok (.int c) h) (eb:evE true F ρ b h=.ok (.int (m:Nat)) h) (hd:0 < d) (hm:0 < m):∃ k,k < m∧evE true F ρ (.bin .mod (.bin .fdiv a (.int (d:Nat))) b) h=.ok (.int (k:Nat)) h:=by
 obtain⟨k,hk,e⟩:=zcg (c.fdiv (d:Nat)) m hm;refine⟨k,hk,?_⟩;rw[zb4 (zbD (y:=(d:Nat)) ea rfl (Int.natCast_ne_zero.2 (Nat.ne_of_gt hd))) eb (Int.natCast_ne_zero.2 (Nat.ne_of_gt hm)),e]
theorem zny {Q:V→Prop}(ea:evE true F ρ a h=.ok (.l vs) h) (ei:evE true F ρ i h=.ok (.int (k:Nat)) h) (hk:k < vs.length) (hq:∀ x∈vs,Q x):∃ x,Q x∧evE true F ρ (.idx a i) h=.ok x h :=
 ⟨vs[k],hq _ (getElem_mem hk),zaP ea ei (litems_lst _ _) (zM hk)⟩
noncomputable def prV (x:Nat × Nat):V:=.tup [.int x.1,.int x.2]
def FitB (x:Nat × Nat):Prop:=1≤x.1∧x.1≤9∧1≤x.2∧x.2≤8∧x.1 ^ x.2≤256
instance (x:Nat × Nat):Decidable (FitB x):=by unfold FitB;infer_instance
theorem FitB.fit (q:FitB x):Fit x.1 x.2:=⟨q.1,q.2.1,q.2.2.1,q.2.2.2.1,q.2.2.2.2⟩
theorem zfT {a i:PE}{ps:List (Nat × Nat)}{k:Nat}(ea:evE true F ρ a h=.ok (.l (ps.map prV)) h) (ei:evE true F ρ i h=.ok (.int (k:Nat)) h) (hk:k < ps.length):∃ x∈ps,evE true F ρ (.idx a i) h=.ok (.tup [.int x.1,.int x.2]) h:=by
 obtain⟨x,⟨y,hy,rfl⟩,e⟩:=zny (Q:=fun x=>∃ y∈ps,prV y=x) ea ei (by rw[zJ];exact hk) fun x hx=>yQ.1 hx
 exact⟨y,hy,e⟩
noncomputable def pairs:List (Nat × Nat):=[(2,3),(3,2),(2,4),(3,3),(2,2),(4,2),(2,5),(5,2),(3,1),(1,4),(6,1),(2,8)]
theorem zhu:∀ x∈pairs,FitB x:=by decide +kernel
theorem zpp (c:Int):∃ S Z:Nat,Fit S Z∧pcall h (run PP (n+1) true "_law_pair" [.int c] h)=.ok (.tup [.int S,.int Z]) h:=by
 obtain⟨k,hk,ek⟩:=zcg c 12 (by decide)
 obtain⟨x,hx,e⟩:=zfT (F:=run PP n) (ρ:=[.int c,.l (pairs.map prV)]) (h:=h) (a:=.v 1) (i:=.bin .mod (.v 0) (.int 12)) (k:=k) rfl ((zb4 (x:=c) (y:=12) rfl rfl (by decide)).trans (congrArg (fun i=>R.ok (V.int i) h) ek)) hk
 exact⟨_,_,(zhu x hx).fit,by rw[start zkx rfl (ρ:=[.int c,.uu]) rfl (zai (v:=.l (pairs.map prV)) (h':=h) rfl (ρ':=[.int c,.l (pairs.map prV)]) rfl (zaA e)),zaK rfl]⟩
noncomputable def olds:List (Nat × Nat):=[(2,4),(3,3),(4,2),(2,5),(5,2),(7,1),(3,2)]
theorem zi0:∀ x∈olds,FitB x∧∃ d,Shows (FB x.1 x.2) x.1 x.2 d:=zaL ⟨by decide,_,s24⟩ (zaL ⟨by decide,_,s33⟩ (zaL ⟨by decide,_,s42⟩ (zaL ⟨by decide,_,s25⟩ (zaL ⟨by decide,_,s52⟩ (zaL ⟨by decide,_,s71⟩ (zaL ⟨by decide,_,s32⟩ fun z h=>nomatch h))))))
noncomputable def news:List (Nat × Nat):=[(2,2),(2,3),(3,2),(3,1),(5,1),(6,1),(1,3),(2,1)]
def GoodB (x:Nat × Nat):Prop:=FitB x∧(FB x.1 x.2).Nodup∧FB x.1 x.2≠[]∧(∀ w∈FB x.1 x.2,w.length=x.2)∧(∀ w∈FB x.1 x.2,∀ d∈w,d < x.1)∧(FB x.1 x.2).length≤1000
noncomputable instance (x:Nat × Nat):Decidable (GoodB x):=by unfold GoodB;infer_instance
theorem GoodB.gw (q:GoodB x):GW x.1 x.2 (FB x.1 x.2):=⟨q.2.1,q.2.2.1,q.2.2.2.1,q.2.2.2.2.1,q.2.2.2.2.2⟩
theorem zi3:∀ x∈news,GoodB x:=by decide +kernel
theorem law_eq (n:Nat) (s:List Int):∃ H',run PP (n+11) true "law" [V.ints s] []=.ok (.bool true) H':=⟨[],by
 obtain⟨S,Z,hf,ep⟩:=zpp (n:=n+9) (h:=[]) ((cellAt s 0).fmod 11);have ca:∀ (ρ:List V),ρ[0]?=some (V.ints s)→evE true (run PP (n+10)) ρ (.call false "_law_cell_at" [.v 0,.int 0]) []=.ok (.int (cellAt s 0)) []:=fun ρ e=>zb2 (w:=.int (0:Nat)) (zao e trivial) rfl (zg5 (n:=n+9) s 0);have cm:∀ (ρ:List V) (j:Int),ρ[0]?=some (V.ints s)→evE true (run PP (n+10)) ρ (.cmp .eq (.bin .mod (.bin .fdiv (.call false "_law_cell_at" [.v 0,.int 0]) (.int 11)) (.int 9)) (.int j)) []=.ok (.bool (decide (((cellAt s 0).fdiv 11).fmod 9=j))) []:=fun ρ j e=>zdJ (zb4 (y:=9) (zbD (y:=11) (ca ρ e) rfl (by decide)) rfl (by decide)) rfl
 have t1:=cm (El s (.int S) (.int Z) .uu .uu .uu .uu .uu .uu) 2 rfl;refine start zm3 rfl (ρ:=El s .uu .uu .uu .uu .uu .uu .uu .uu) rfl (zi2 (vs:=[.int S,.int Z]) (zb3 (zb4 (b:=.int 11) (y:=11) (ca _ rfl) rfl (by decide)) ep) (ρ':=El s (.int S) (.int Z) .uu .uu .uu .uu .uu .uu) rfl ?_)
 by_cases q:((cellAt s 0).fdiv 11).fmod 9=2
 ·rw[zW q] at t1
  obtain⟨k,hk,ek⟩:=zqo (d:=99) (b:=.int 7) (m:=7) (ca (El s (.int S) (.int Z) .uu .uu .uu .uu .uu .uu) rfl) rfl (by decide) (by decide)
  obtain⟨x,hx,e⟩:=zfT (ps:=olds) (a:=.list [.tup [.int 2,.int 4],.tup [.int 3,.int 3],.tup [.int 4,.int 2],.tup [.int 2,.int 5],.tup [.int 5,.int 2],.tup [.int 7,.int 1],.tup [.int 3,.int 2]]) rfl ek hk;obtain⟨hf,d,sh⟩:=zi0 x hx;obtain⟨e1,e2⟩:=znc (n:=n+5) (h:=[])  hf.fit sh;have ee:=zdJ (q:=true) (zaV (F:=run PP (n+10)) (ρ:=El s (.int x.1) (.int x.2) (.l (V.lists (FB x.1 x.2))) .uu .uu .uu .uu .uu) (a:=.v 1) (b:=.v 2) (c:=.v 3) (v:=.int x.1) (w:=.int x.2) (x:=.l (V.lists (FB x.1 x.2))) rfl rfl rfl e1) (zb2 (a:=.v 1) (b:=.v 2) (v:=.int x.1) (w:=.int x.2) rfl rfl e2)
  rw[zW rfl] at ee;exact zej t1 (zi2 e (ρ':=El s (.int x.1) (.int x.2) .uu .uu .uu .uu .uu .uu) rfl (zai (zp4 (n:=n+9)  hf.fit rfl rfl (by decide:9 < 11)) (ρ':=El s (.int x.1) (.int x.2) (.l (V.lists (FB x.1 x.2))) .uu .uu .uu .uu .uu) rfl (zaA ee)))
 ·rw[zU q] at t1
  obtain⟨B,gb,eb⟩:=zqu (n:=n+8) (h:=[]) s (f:=1) hf.s1 ⟨hf.z1,hf.z8⟩;have gw:GW S Z B:=⟨gb.nodup,gb.ne,gb.len,gb.lt,zX gb.cnt (by decide)⟩
  have t3:=cm (El s (.int S) (.int Z) (.l (V.lists B)) .uu .uu .uu .uu .uu) 1 rfl;refine zbH t1 (zai (v:=.l (V.lists B)) (h':=[]) (by rw[zed];exact eb) (ρ':=El s (.int S) (.int Z) (.l (V.lists B)) .uu .uu .uu .uu .uu) rfl ?_)
  by_cases q:((cellAt s 0).fdiv 11).fmod 9=1
  ·rw[zW q] at t3
   obtain⟨k,hk,ek⟩:=zqo (d:=99) (b:=.int 8) (m:=8) (ca (El s (.int S) (.int Z) (.l (V.lists B)) (.l (news.map prV)) .uu .uu .uu .uu) rfl) rfl (by decide) (by decide)
   obtain⟨x,hx,e⟩:=zfT (ps:=news) (a:=.v 4) rfl ek hk;have gx:=zi3 x hx;exact zej t3 (zai (v:=.l (news.map prV)) (h':=[]) rfl (ρ':=El s (.int S) (.int Z) (.l (V.lists B)) (.l (news.map prV)) .uu .uu .uu .uu) rfl (zi2 e (ρ':=El s (.int x.1) (.int x.2) (.l (V.lists B)) (.l (news.map prV)) .uu .uu .uu .uu) rfl (zai (zp4 (n:=n+9)  gx.1.fit rfl rfl (by decide:9 < 11)) (ρ':=El s (.int x.1) (.int x.2) (.l (V.lists (FB x.1 x.2))) (.l (news.map prV)) .uu .uu .uu .uu) rfl (zl6  s gx.1.fit gx.gw))))
  ·rw[zU q] at t3
   exact zbH t3 (zl6  s hf gw)⟩
end
end L11
end Mine
set_option maxRecDepth 100000
set_option maxHeartbeats 8000000
namespace Mine
open PySem PySem.W PyProof.Rows
theorem b2:(defOf view PySem.Challenge.rw_uf010021_11.row.name).isSome=true:=by kernel_rfl
theorem b3:PySem.Challenge.rw_uf010021_11.row.prog.theDef PySem.Challenge.rw_uf010021_11.row.name=(defOf view PySem.Challenge.rw_uf010021_11.row.name).map fun x=>(x.1.params,x.1.body,x.1.scope):=by kernel_rfl
theorem b4:((defOf view PySem.Challenge.rw_uf010021_11.row.name).map fun x=>kwWritten? x.1.params.kwonlyargs x.1.params.kw_defaults)=(defOf view PySem.Challenge.rw_uf010021_11.row.name).map fun x=>some x.2:=by kernel_rfl
theorem b5:(chainsOk view&&opensWell PySem.Challenge.rw_uf010021_11.row.prog&&(frees PySem.Challenge.rw_uf010021_11.row.toRowW&&PySem.Challenge.rw_uf010021_11.row.within.isEmpty))=true:=by kernel_rfl
theorem b6:PySem.Challenge.rw_uf010021_11.row.prog.bare:=⟨rfl,rfl,rfl,rfl,rfl,by decide +kernel⟩
theorem b7:PySem.Challenge.rw_uf010021_11.row.toRowW.promised:=by w_witness2
theorem b8:importsNone view=true:=by kernel_rfl
theorem b9:zfK view=true:=by kernel_rfl
theorem b10:defChk view L11.fns L11.nums L11.tl=true:=by kernel_rfl
theorem b11:fnsChk view L11.fns=true:=by kernel_rfl
set_option tactic.hygienic true in
theorem b12 {w:World}{s₀ s₁:Shared}{args:List WData}{vals:List Value}{as:List Addr}(hpre:PySem.Challenge.rw_uf010021_11.row.claim.pre args=true) (hlay:WData.layableAll args=true) (hrd:ReadsAllW PySem.Challenge.rw_uf010021_11.row.records (classAt s₀.heap) s₁.heap vals args as) (hwl:WellAll w.params s₁.heap vals args) (hlo:∀ a∈as,(a == sysModules)=false):∃ a xs l,vals=[Value.ref a]∧s₁.heap.IsList a (List.toArray xs)∧IntsAre xs l∧¬ (63:Int) < (l.length:Int):=by
 wrow_args hpre hlay hrd hwl hlo
 rename_i hL _ _ _ hI _ hc _
 exact⟨_,_,_,rfl,hL,hI,hc⟩
end Mine
open PySem PySem.W PyProof.Rows
theorem PySem.Challenge.cw_uf010021_11_holds : PySem.Challenge.rw_uf010021_11.Holds := by
 refine Mine.zla Mine.b0 (row_said Mine.b0) Mine.b1 Mine.b2 Mine.b3 Mine.b4 rfl Mine.b5 Mine.b6 Mine.b7 ?_;intro d kwd hdef w s₀ s₁ mg mb G Y fa o pm cd doc dV kV ho hd hcd hD hmg hg args vals as hpre hlay hrd hwl hlo;rw[defOf_name hdef] at hmg
 clear ho hd hcd hD hdef
 refine Mine.hold fun X_ k_=>?_;obtain⟨K,KX,k3,k5,k8⟩:=Y;obtain⟨a,xs,l,rfl,hL,hI,hc⟩:=Mine.b12 hpre hlay hrd hwl hlo;obtain⟨H',hrun⟩:=Mine.L11.law_eq 0 l;refine k_ (Ground.open G fun T B D TE TW=>Mine.zpI T KX Mine.b8 rfl k3 Mine.b9 k5 Mine.b10 Mine.b11 k8 (List.contains_iff_mem.1 (by kernel_rfl)) hmg hL hI hc (by decide) hrun fun s' hs hk=>?_)
 obtain⟨h',tk,rfl⟩:=hs;exact⟨.inl ⟨.bool true,.bool true,[],rfl,fun z=>rfl,.bool true,by kernel_rfl,unshared_nil⟩,.of_keep hk,rfl,.of_eq hg⟩
