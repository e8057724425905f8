import PyProof.Rows.All
import Wide.All
import OpenK.AllK
import Wide.FinOn
import PySem.Value
import PyProof.Cells
import PyProof.CompFree
import PyProof.StationsW
import PyProof.RulesTry
import PyProof.TupleIter
import PyProof.TupleKey
import PyProof.DictKinds
import OpenK.KCall
import PyProof.NoPylong
import PyProof.Rows.IntRules
import PyProof.Rows.RuleB_sub
import PyProof.Rows.RuleB_mul
import PyProof.Rows.RuleB_mod
import PyProof.Rows.RuleB_floordiv
import PyProof.Rows.RuleB_pow
import PyProof.Rows.TupAdd
import PyProof.Rows.ListMul
import PyProof.ListMulAny
import PyProof.FitsBits
import PyProof.EqLayable
import PyProof.P3In
import PyProof.IsRules
import PyProof.PureInt
import PyProof.Rows.RuleC_int
import KE.KSortAsk
import PyProof.MeetsSeq3
import PyProof.FactsAll.list_2
import PyProof.Rows.SortWalk
import PyProof.MinMaxWalk
import PyProof.DictRoadsH
import PyProof.Rows.SeqSlice
import PyProof.SliceMore
import PyProof.ListIndexNeg
import PyProof.LetGo
import PyProof.Rows.TupSub
import PyProof.WalksMore
import PyProof.RangeFor
import PyProof.DictIter
import PyProof.DictWalks
import KE.KDictList
import PyProof.ConsumeWalk
import PyProof.TupleOfSeq
import PyProof.TupleCall
import PyProof.ListCopy
import PyProof.CallStr
import PyProof.Conv_int_bool
import PyProof.ListRange
import KE.KRevIter
import KE.KIsAll
import PyProof.Rows.StrJoin2
import PyProof.SeqWrite
import PyProof.ExcArgsOwn
import KE.KTryMore
import PyProof.MakeMany
import PyProof.CallType
import PyProof.CallRoads
import KE.KSortTup
import PyProof.FactsAll.str_0
import PyProof.FactsAll.str_5
import PyProof.FactsAll.list_0
import PyProof.FactsAll.list_3
import PyProof.FactsAll.list_4
import PyProof.MeetsSeq
import PyProof.Rows.TupMore
import PyProof.Rows.ExtendIn
import PyProof.FactsAll.dict_3
import PyProof.Rows.TupDisplay
import PyProof.ForRange
import PyProof.Rows.Range3
import KE.KStateDown
import PyProof.CompMap
import PyProof.ExcAttrAll.ValueError
import PyProof.CompUse
import PyProof.Raises
import PyProof.Rows.TupAssign
import PyProof.ForAny
import PyProof.ExcBaseAll.ValueError
import PyProof.NsDelKeeps
import PyProof.RulesAs
import OpenK.KWalk
import PyProof.Rows.Top
import PyProof.Rows.TupIn
import Wide.BridgeG
import Wide.Loose
import Open.Head
import PySem.Challenge.RW_uf010021_12
set_option tactic.hygienic false
set_option Elab.async false
set_option bootstrap.genMatcherCode false
set_option genSizeOf false
set_option linter.unusedSimpArgs false
set_option linter.unusedVariables false
section
set_option maxRecDepth 100000
set_option maxHeartbeats 8000000
namespace Mine
open PySem PySem.W PyProof.Rows
noncomputable def zcD:List String:=["RingError","BadSize","BadWord","BadBook","BadRing","NoWord","NoRing","NoJoin"]
noncomputable def bTab:List (Str × Value) :=
 [("len",.builtin "len"),("all",.builtin "all"),("any",.builtin "any"),("isinstance",.builtin "isinstance"),("sorted",.builtin "sorted"),("min",.builtin "min"),("sum",.builtin "sum"),
  ("list",.type "list"),("tuple",.type "tuple"),("int",.type "int"),("str",.type "str"),("bool",.type "bool"),("range",.type "range"),("reversed",.type "reversed"),
  ("enumerate",.type "enumerate"),("ValueError",.type "ValueError")]
noncomputable def refB (o:Option (Option Value)) (f:Addr→Bool):Bool:=match o with
 |some (some (.ref C))=>f C
 |_=>false
noncomputable def excOne (K:Frag) (c:String) (C:Addr):Bool :=
 findIn K (.ref C) "__getattribute__" == some (some (.builtin "BaseException.__getattribute__"))&&(findIn K (.ref C) "__getattr__" == some none&&((clsIn K C).isSome&&(findIn K (.ref C) "__class__" == some (some (.builtin "object.__class__")) &&
 (specialIn K (.builtin "object.__class__") "__get__" == some (some (.builtin "getset_descriptor.__get__"))&&(takesIn K (.builtin "object.__class__") == some true &&
 (mroIn K C (.type "object") == some true&&(kitOne K (.ref C) (.type "ValueError") == some true &&
 ((zcD.all fun d=>refB (nsIn K mainGlobals (Str.ofString d)) fun D=>kitOne K (.ref C) (.ref D) == some (c == d||d == "RingError")) &&
 refB (nsIn K mainGlobals (Str.ofString "RingError")) fun D=>exmOne K (.ref C) (.ref D) == some true))))))))
noncomputable def excChk (K:Frag):Bool:=zcD.all fun c=>refB (nsIn K mainGlobals (Str.ofString c)) (excOne K c)
noncomputable def btChk (K:Frag):Bool:=bTab.all fun q=>nsIn K mainGlobals q.1 == some none&&bootBuiltins q.1 == some q.2&&q.1 != ("__name__":Str)
noncomputable def intB (o:Option (Option Value)) (i:Int):Bool:=match o with
 |some (some (.int j _))=>j == i
 |_=>false
noncomputable def zft (K:Frag) (nums:List (String × Int)):Bool:=nums.all fun q=>intB (nsIn K mainGlobals (Str.ofString q.1)) q.2
noncomputable def zkO (h:Heap):List Addr:=zcD.filterMap fun c=>match h.nsMap mainGlobals (Str.ofString c) with
 |some (.ref C)=>some C
 |_=>none
noncomputable def fragAt (h:Heap) (as:List Addr):Frag:=as.filterMap fun a=>(h.get? a).map fun o=>(a,o)
noncomputable def exFrag (h:Heap):Frag:=fragAt h (mainGlobals::zkO h++(zkO h).filterMap fun C=>match h.get? C with
 |some ⟨_,_,.cls cd,_⟩=>some cd.ns
 |_=>none)
noncomputable def hookB (nums:List (String × Int)) (h:Heap):Bool:=excChk (exFrag h)&&btChk (exFrag h)&&zft (exFrag h) nums
noncomputable def keepAt (is:List Nat) (p:Program):Program:={ p with main:={ p.main with body:=(p.main.body.zipIdx.filter fun x=>is.contains x.2).map (·.1) } }
namespace L12
noncomputable def nums:List (String × Int):=[("MOST_SIGNS",9),("MOST_SIZE",8),("MOST_WORDS",256)]
end L12
noncomputable def view:Program:=keepAt ((List.range 43).filter fun i=>!([0,9,21,25,30,34].contains i)) PySem.Challenge.rw_uf010021_12.row.prog
theorem b0:PySem.Challenge.rw_uf010021_12.wellSaid=true:=by kernel_rfl
theorem b1:LeftO PySem.Challenge.rw_uf010021_12.row.prog view [] (fun s=>xlAt view [] s&&recOk (RowW.records PySem.Challenge.rw_uf010021_12.row.toRowW) s) (fun s=>hookB L12.nums s.heap) (fun z_=>true) 4976:=fun w=>by kernel_rfl
end Mine
end
namespace Mine
theorem zd9 (m:Nat):(-1:Int)+((m+1:Nat):Int)=m:=by rw[Int.natCast_succ,Int.add_comm,Int.add_assoc];exact Int.add_zero _
theorem hold {G:Prop}(h:∀ X:Prop,(G→X)→X):G:=h G id
inductive V where
 |undef
 |none
 |bool (b:Bool)
 |int (i:Int)
 |str (s:String)
 |tup (vs:List V)
 |lst (vs:List V)
 |ref (i:Nat)
 |exc (c:String)
 |dct
inductive Cell where
 |list (vs:List V)
 |dict (es:List (V × V))
abbrev H:=List Cell
noncomputable instance:DecidableEq V:=fun z_ z_=>Classical.propDecidable _
noncomputable instance:DecidableEq Cell:=fun z_ z_=>Classical.propDecidable _
inductive R (α:Type) where
 |ok (a:α) (h:H)
 |err (c:String) (h:H)
 |bad
noncomputable def R.bind {α β:Type}(r:R α) (f:α→H→R β):R β :=
 match r with
 |.ok a h=>f a h
 |.err c h=>.err c h
 |.bad=>.bad
@[simp] theorem R.bind_ok {α β:Type}(a:α) (h:H) (f:α→H→R β):(R.ok a h).bind f=f a h:=rfl
noncomputable def R.opt {α:Type}(o:Option α) (h:H):R α :=
 match o with
 |some a=>.ok a h
 |none=>.bad
@[simp] theorem R.opt_some {α:Type}(a:α) (h:H):R.opt (some a) h=.ok a h:=rfl
mutual
noncomputable def V.mapRef (g:Nat→Option V):V→Option V
 |.tup vs=>(V.mapRefs g vs).map .tup
 |.lst vs=>(V.mapRefs g vs).map .lst
 |.ref i=>g i
 |.undef=>some .undef
 |.none=>some .none
 |.bool b=>some (.bool b)
 |.int i=>some (.int i)
 |.str s=>some (.str s)
 |.exc c=>some (.exc c)
 |.dct=>some .dct
noncomputable def V.mapRefs (g:Nat→Option V):List V→Option (List V)
 |[]=>some []
 |v::vs=>(V.mapRef g v).bind fun v'=>(V.mapRefs g vs).map (v'::·)
end
noncomputable def frzAt:Nat→Nat→H→Nat→Option V
 |0,n,_,i=>if i < n then some (.ref i) else Option.none
 |k+1,n,h,i =>
  if i < n then some (.ref i)
  else match h[i]? with
   |some (.list vs)=>(V.mapRefs (frzAt k n h) vs).map .lst
   |_=>Option.none
noncomputable def frz (n:Nat) (h:H) (v:V):Option V:=V.mapRef (frzAt 4 n h) v
mutual
noncomputable def V.plain:V→Bool
 |.tup vs=>V.plains vs
 |.lst vs=>V.plains vs
 |.ref _=>false
 |_=>true
noncomputable def V.plains:List V→Bool
 |[]=>true
 |v::vs=>V.plain v&&V.plains vs
end
mutual
theorem zbp (g:Nat→Option V):∀ v:V,v.plain=true→V.mapRef g v=some v
 |.tup vs,h=>by simp only[V.plain] at h;simp[V.mapRef,za5 g vs h]
 |.lst vs,h=>by simp only[V.plain] at h;simp[V.mapRef,za5 g vs h]
 |.ref _,h=>by simp[V.plain] at h
 |.undef,_=>rfl
 |.none,_=>rfl
 |.bool _,_=>rfl
 |.int _,_=>rfl
 |.str _,_=>rfl
 |.exc _,_=>rfl
 |.dct,_=>rfl
theorem za5 (g:Nat→Option V):∀ vs:List V,V.plains vs=true→V.mapRefs g vs=some vs
 |[],_=>rfl
 |v::vs,h=>by
  simp only[V.plains,Bool.and_eq_true] at h;simp[V.mapRefs,zbp g v h.1,za5 g vs h.2]
end
noncomputable def items (h:H):V→Option (List V)
 |.lst vs=>some vs
 |.tup vs=>some vs
 |.ref i=>match h[i]? with
  |some (.list vs)=>some vs
  |_=>Option.none
 |_=>Option.none
noncomputable def litems (h:H):V→Option (List V)
 |.lst vs=>some vs
 |.ref i=>match h[i]? with
  |some (.list vs)=>some vs
  |_=>Option.none
 |_=>Option.none
mutual
noncomputable def peq:V→V→Bool
 |.none,.none=>true
 |.bool a,.bool b=>a == b
 |.bool a,.int b=>(if a then 1 else 0) == b
 |.int a,.bool b=>a == (if b then 1 else 0)
 |.int a,.int b=>a == b
 |.str a,.str b=>a == b
 |.tup a,.tup b=>peqs a b
 |.lst a,.lst b=>peqs a b
 |_,_=>false
noncomputable def peqs:List V→List V→Bool
 |[],[]=>true
 |a::as,b::bs=>peq a b&&peqs as bs
 |_,_=>false
end
theorem zlC:peq .none .none=true:=rfl
theorem zlD (a b:Bool):peq (.bool a) (.bool b)=(a == b):=rfl
theorem zhb (a b:Int):peq (.int a) (.int b)=(a == b):=rfl
theorem znP (a b:String):peq (.str a) (.str b)=(a == b):=rfl
theorem znO (a b:List V):peq (.tup a) (.tup b)=peqs a b:=rfl
theorem zfr (a b:List V):peq (.lst a) (.lst b)=peqs a b:=rfl
theorem zgm (a b:V) (as bs:List V):peqs (a::as) (b::bs)=(peq a b&&peqs as bs):=rfl
noncomputable def V.ok:Nat→V→Bool
 |0,_=>false
 |n+1,v=>match v with
  |.undef=>false
  |.exc _=>false
  |.ref _=>false
  |.dct=>false
  |.tup vs=>vs.all (V.ok n)
  |.lst vs=>vs.all (V.ok n)
  |_=>true
noncomputable def pyEq (h:H) (a b:V):Option Bool :=
 match frz 0 h a,frz 0 h b with
 |some a,some b=>if V.ok 8 a&&V.ok 8 b then some (peq a b) else Option.none
 |_,_=>Option.none
noncomputable def asInts:List V→Option (List Int)
 |[]=>some []
 |.int i::vs=>(asInts vs).map (i::·)
 |_=>Option.none
noncomputable def lexLt:List Int→List Int→Bool
 |[],[]=>false
 |[],_::_=>true
 |_::_,[]=>false
 |a::as,b::bs=>if a=b then lexLt as bs else decide (a < b)
noncomputable def pyLt:V→V→Option Bool
 |.int a,.int b=>some (decide (a < b))
 |_,_=>Option.none
inductive Cop where
 |eq|ne|lt|le|gt|ge|is|isNot|isin|notIn
noncomputable def ziT:V→Option (List V)
 |.lst vs=>some vs
 |.tup vs=>some vs
 |_=>Option.none
noncomputable def isIn (h:H) (a b:V):Option Bool :=
 match frz 0 h a,frz 0 h b with
 |some a,some b=>if V.ok 8 a&&V.ok 8 b then(ziT b).map fun vs=>vs.any fun y=>peq y a else Option.none
 |_,_=>Option.none
noncomputable def keyT:V→Option (List Int)
 |.tup vs=>asInts vs
 |_=>Option.none
noncomputable def keyOk (k:V):Bool:=(keyT k).isSome
noncomputable def dfind (k:V):List (V × V)→Option V
 |[]=>Option.none
 |(k',v)::es=>if k=k' then some v else dfind k es
noncomputable def dput (k v:V):List (V × V)→List (V × V)
 |[]=>[(k,v)]
 |(k',v')::es=>if k=k' then(k',v)::es else(k',v')::dput k v es
noncomputable def pyIn (h:H) (a b:V):Option Bool :=
 match b with
 |.ref i=>match h[i]? with
  |some (.dict es)=>if keyOk a then some (dfind a es).isSome else Option.none
  |_=>isIn h a b
 |_=>isIn h a b
noncomputable def pyIs (a b:V):Option Bool :=
 match b with
 |.none=>match a with
  |.none=>some true
  |.undef=>Option.none
  |_=>some false
 |.bool y=>match a with
  |.bool x=>some (x == y)
  |_=>Option.none
 |_=>Option.none
noncomputable def keyL (h:H) (v:V):Option (List Int):=(litems h v).bind asInts
noncomputable def pyLtH (h:H) (a b:V):Option Bool :=
 match pyLt a b with
 |some r=>some r
 |Option.none=>(keyL h a).bind fun x=>(keyL h b).map fun y=>lexLt x y
noncomputable def pyLeH (h:H) (a b:V):Option Bool :=
 match pyLt b a with
 |some r=>some (!r)
 |Option.none=>(keyL h a).bind fun x=>(keyL h b).map fun y=>!lexLt y x
noncomputable def pyCmp (op:Cop) (h:H) (a b:V):Option Bool :=
 match op with
 |.eq=>pyEq h a b
 |.ne=>(pyEq h a b).map (!·)
 |.lt=>pyLtH h a b
 |.gt=>pyLt b a
 |.le=>pyLeH h a b
 |.ge=>(pyLt a b).map (!·)
 |.is=>pyIs a b
 |.isNot=>(pyIs a b).map (!·)
 |.isin=>pyIn h a b
 |.notIn=>(pyIn h a b).map (!·)
inductive Bop where
 |add|sub|mul|fdiv|mod|pow
noncomputable def rep {α:Type}(vs:List α) (n:Int):List α:=(List.replicate n.toNat vs).flatten
noncomputable def mkL (vs:List V):Option V:=if vs.length≤1000000 then some (.lst vs) else Option.none
noncomputable def mkT (vs:List V):Option V:=if vs.length≤1000000 then some (.tup vs) else Option.none
noncomputable def int2 (f:Int→Int→Option V) (a b:V):Option V :=
 match a with
 |.int x=>match b with
  |.int y=>f x y
  |_=>Option.none
 |_=>Option.none
noncomputable def pyAdd (h:H) (a b:V):Option V :=
 match a with
 |.int x=>match b with
  |.int y=>some (.int (x+y))
  |_=>Option.none
 |.tup x=>match b with
  |.tup y=>mkT (x++y)
  |_=>Option.none
 |a=>(litems h a).bind fun x=>(litems h b).bind fun y=>mkL (x++y)
noncomputable def pyMul (h:H) (a b:V):Option V :=
 match b with
 |.int n=>match a with
  |.int x=>if x.natAbs < 9223372036854775808∨n.natAbs < 9223372036854775808 then some (.int (x * n)) else Option.none
  |a=>if -1000000 < n∧n < 1000000 then(litems h a).bind fun vs=>mkL (rep vs n) else Option.none
 |_=>Option.none
noncomputable def pyBin (op:Bop) (h:H) (a b:V):Option V :=
 match op with
 |.add=>pyAdd h a b
 |.sub=>int2 (fun x y=>some (.int (x - y))) a b
 |.mul=>pyMul h a b
 |.fdiv=>int2 (fun x y=>if y=0 then Option.none else some (.int (x.fdiv y))) a b
 |.mod=>int2 (fun x y=>if y=0 then Option.none else some (.int (x.fmod y))) a b
 |.pow=>int2 (fun x y=>if x=10∧y=20 then some (.int 100000000000000000000) else Option.none) a b
inductive Int2C (f:Int→Int→Option V):V→V→Prop
 |none {a b:V}(e:int2 f a b=Option.none):Int2C f a b
 |ints (x y:Int):Int2C f (.int x) (.int y)
theorem zcC (f:Int→Int→Option V) (a b:V):Int2C f a b:=by
 cases a with
 |int x=>cases b with
  |int y=>exact .ints x y
  |_=>exact .none rfl
 |_=>exact .none rfl
inductive AddC (h:H):V→V→Prop
 |none {a b:V}(e:pyAdd h a b=Option.none):AddC h a b
 |ints (x y:Int):AddC h (.int x) (.int y)
 |tups (x y:List V):AddC h (.tup x) (.tup y)
 |lsts {a b:V}(x y:List V) (ha:litems h a=some x) (hb:litems h b=some y) (e:pyAdd h a b=mkL (x++y)):AddC h a b
theorem zd3 (h:H) (a b:V):AddC h a b:=by
 have go:pyAdd h a b=((litems h a).bind fun x=>(litems h b).bind fun y=>mkL (x++y))→AddC h a b:=fun e=>by
  cases ha:litems h a with
  |none=>rw[ha] at e;exact .none e
  |some x=>cases hb:litems h b with
   |none=>rw[ha,hb] at e;exact .none e
   |some y=>rw[ha,hb] at e;exact .lsts x y ha hb e
 cases a with
 |int x=>cases b with
  |int y=>exact .ints x y
  |_=>exact .none rfl
 |tup x=>cases b with
  |tup y=>exact .tups x y
  |_=>exact .none rfl
 |_=>exact go rfl
inductive MulC (h:H):V→V→Prop
 |none {a b:V}(e:pyMul h a b=Option.none):MulC h a b
 |ints (x y:Int):MulC h (.int x) (.int y)
 |lsts {a:V}(n:Int) (e:pyMul h a (.int n)=if -1000000 < n∧n < 1000000 then(litems h a).bind fun vs=>mkL (rep vs n) else Option.none):MulC h a (.int n)
theorem zha (h:H) (a b:V):MulC h a b:=by
 cases b with
 |int n=>cases a with
  |int x=>exact .ints x n
  |_=>exact .lsts n rfl
 |_=>exact .none rfl
noncomputable def place (n:Nat) (i:Int):Option Nat :=
 if 0≤i then(if i < n then some i.toNat else Option.none)
 else if 0≤i+n then some (i+n).toNat else Option.none
noncomputable def pyIdx (h:H) (a i:V):Option V :=
 match a with
 |.ref r=>match h[r]? with
  |some (.dict es)=>if keyOk i then dfind i es else Option.none
  |some (.list vs)=>match i with
   |.int k=>(place vs.length k).bind fun j=>vs[j]?
   |_=>Option.none
  |none=>Option.none
 |.lst vs=>match i with
  |.int k=>(place vs.length k).bind fun j=>vs[j]?
  |_=>Option.none
 |.tup vs=>match i with
  |.int k=>(place vs.length k).bind fun j=>vs[j]?
  |_=>Option.none
 |_=>Option.none
noncomputable def cut (n:Nat) (i:Int):Nat :=
 if i < 0 then(i+n).toNat else min i.toNat n
noncomputable def slc {α:Type}(vs:List α) (lo hi:Option Int):List α :=
 let a:=match lo with|some i=>cut vs.length i|none=>0
 let b:=match hi with|some i=>cut vs.length i|none=>vs.length
 (vs.take b).drop a
noncomputable def asInt?:V→Option Int
 |.int i=>some i
 |_=>Option.none
noncomputable def zbF (h:H) (a:V) (lo hi:Option V):Option V :=
 match lo.mapM asInt?,hi.mapM asInt? with
 |some lo,some hi=>(litems h a).map fun vs=>.lst (slc vs lo hi)
 |_,_=>Option.none
inductive Ty where
 |int|bool|list|tuple|valueError
 |own (c:String)
deriving DecidableEq
noncomputable def isExc (c:String) (t:Ty):Option Bool :=
 if zcD.contains c then
  match t with
  |.own d=>if zcD.contains d then some (c == d||d == "RingError") else Option.none
  |.valueError=>some true
  |_=>Option.none
 else Option.none
noncomputable def refTy:Option Cell→Ty→Option Bool
 |some (.list _),t=>some (t == .list)
 |some (.dict _),_=>some false
 |none,_=>Option.none
noncomputable def isTy (h:H) (v:V) (t:Ty):Option Bool :=
 match v with
 |.undef=>Option.none
 |.exc _=>Option.none
 |.ref i=>refTy h[i]? t
 |.lst _=>some (t == .list)
 |.tup _=>some (t == .tuple)
 |.bool _=>some (t == .bool||t == .int)
 |.int _=>some (t == .int)
 |_=>some false
noncomputable def isTys (h:H) (v:V):List Ty→Option Bool
 |[]=>some false
 |t::ts=>match isTy h v t with
  |some true=>some true
  |some false=>isTys h v ts
  |none=>Option.none
noncomputable def truthy:V→Option Bool
 |.bool b=>some b
 |_=>Option.none
inductive Bf where
 |len|list|tuple|sorted|min|sum|any|all|int|str|listRev|listRange
noncomputable def Bf.walks (f:Bf):Bool:=f.casesOn false false false true true true true true false false true true
noncomputable def Bf.ready (f:Bf):Bool:=f.casesOn true true true
 true
 true
 false
 false
 true
 true
 false
 true
 true
noncomputable def isort {α:Type}(lt:α→α→Bool):List α→List α
 |[]=>[]
 |x::xs=>insertBy' lt x (isort lt xs)
where
 insertBy' (lt:α→α→Bool) (x:α):List α→List α
  |[]=>[x]
  |y::ys=>if lt y x then y::insertBy' lt x ys else x::y::ys
noncomputable def V.ints (l:List Int):V:=.lst (l.map .int)
noncomputable def V.words (l:List (List Int)):V:=.lst (l.map V.ints)
noncomputable def keyed {α:Type}(f:V→Option α):List V→Option (List (α × V))
 |[]=>some []
 |v::vs=>(f v).bind fun a=>(keyed f vs).map ((a,v)::·)
noncomputable def keyI:V→Option Int
 |.int i=>some i
 |_=>Option.none
noncomputable def keyT1:V→Option (List Int)
 |.tup (v::vs)=>asInts (v::vs)
 |_=>Option.none
noncomputable def sortBy {α:Type} [DecidableEq α] (lt:α→α→Bool) (l:List (α × V)):Option (List V) :=
 if l.length < 257&&l.all (fun p=>l.all fun q=>decide (p.1=q.1→p.2=q.2)) then some ((isort (fun a b=>lt a.1 b.1) l).map (·.2)) else Option.none
noncomputable def sortVs (h:H) (vs:List V):Option (List V) :=
 match keyed keyI vs with
 |some l=>sortBy (fun a b=>decide (a < b)) l
 |none=>match keyed (keyL h) vs with
  |some l=>sortBy lexLt l
  |none=>match keyed keyT1 vs with
   |some l=>sortBy lexLt l
   |none=>if vs.length < 2 then some vs else Option.none
noncomputable def dictOf (h:H) (o:V):Option (List (V × V)) :=
 match o with
 |.ref r=>match h[r]? with
  |some (.dict es)=>some es
  |_=>Option.none
 |_=>Option.none
noncomputable def zcj (a:List Int) (v:V):List (List Int × V)→V
 |[]=>v
 |p::l=>if lexLt p.1 a then zcj p.1 p.2 l else zcj a v l
noncomputable def minVs (h:H) (vs:List V):Option V :=
 match keyed (keyL h) vs with
 |some (p::l)=>some (zcj p.1 p.2 l)
 |_=>Option.none
noncomputable def zbI:List V→Option (List Bool)
 |[]=>some []
 |.bool b::r=>(zbI r).map (b::·)
 |_=>Option.none
noncomputable def upto (n:Int):List V:=(List.range n.toNat).map fun(i:Nat)=>.int (i:Int)
noncomputable def fromTo (a b:Int):List V:=(List.range (b - a).toNat).map fun(i:Nat)=>.int (a+(i:Int))
noncomputable def downTo (a b:Int):List V:=(List.range (a - b).toNat).map fun(i:Nat)=>.int (a - (i:Int))
noncomputable def sumI (l:List Int):Option V:=if l.length≤1000∧∀ i∈l,0≤i∧i≤1000000 then some (.int l.sum) else Option.none
noncomputable def sitems (h:H) (v:V):Option (List V):=match dictOf h v with
 |some es=>some (es.map (·.1))
 |Option.none=>litems h v
noncomputable def bf (f:Bf) (h:H) (v:V):Option V :=
 match f with
 |.len=>match v with
  |.ref i=>match h[i]? with
   |some (.list vs)=>some (.int vs.length)
   |some (.dict es)=>some (.int es.length)
   |none=>Option.none
  |_=>(items h v).map fun vs=>.int vs.length
 |.list=>(items h v).map .lst
 |.tuple=>(items h v).map .tup
 |.listRev=>(litems h v).map fun vs=>.lst vs.reverse
 |.sorted=>(sitems h v).bind fun vs=>(sortVs h vs).map .lst
 |.min=>(litems h v).bind (minVs h)
 |.sum=>(litems h v).bind fun vs=>(asInts vs).bind sumI
 |.any=>(litems h v).bind fun vs=>(zbI vs).map fun bs=>.bool (bs.any id)
 |.all=>(litems h v).bind fun vs=>(zbI vs).map fun bs=>.bool (bs.all id)
 |.int=>match v with
  |.bool b=>some (.int (if b then 1 else 0))
  |_=>Option.none
 |.str=>match v with
  |.int i=>if 0≤i∧i < 100 then some (.str (toString i)) else Option.none
  |_=>Option.none
 |.listRange=>match v with
  |.int n=>if -1000000≤n∧n≤1000000 then some (.lst (upto n)) else Option.none
  |_=>Option.none
abbrev Watch:=Option (Nat × Cell)
noncomputable def Watch.ok (w:Watch) (h:H):Bool :=
 match w with
 |none=>true
 |some (i,c)=>decide (h[i]?=some c)
noncomputable def iterOf (h:H):V→Option (List V × Watch)
 |.lst vs=>some (vs,Option.none)
 |.tup vs=>some (vs,Option.none)
 |.ref i=>match h[i]? with
  |some (.list vs)=>some (vs,some (i,.list vs))
  |some (.dict es)=>some (es.map (·.1),some (i,.dict es))
  |none=>Option.none
 |_=>Option.none
noncomputable def zfN:List V→Option String
 |[]=>some ""
 |.str s::r=>if s.toList.length≤10 then(zfN r).map (s++·) else Option.none
 |_=>Option.none
set_option genCtorIdx false in
set_option genInjectivity false in
mutual
inductive PE where
 |none|bool (b:Bool)|int (i:Int)|str (s:String)
 |var (i:Nat)
 |glob (g:String) (i:Int)
 |bin (op:Bop) (a b:PE)
 |neg (i:Int)
 |not (a:PE)
 |and (es:List PE)|or (es:List PE)
 |ite (t a b:PE)
 |cmp (op:Cop) (a b:PE)
 |cmp2 (op1 op2:Cop) (a b c:PE)
 |list (es:List PE)|tup (es:List PE)|dict0
 |idx (a i:PE)
 |slice (a:PE) (lo hi:Option PE)
 |rev (a:PE)
 |isinst (a:PE) (ts:List Ty)
 |isexc (x:Nat) (t:Ty)        -- isinstance of the caught exception
 |callX (f:String) (x:Nat)    -- a call with the caught exception
 |bf (f:Bf) (a:PE)
 |join0 (a:PE)
 |comp (elt:PE) (x:Nat) (it:PIt) (cond:Option PE)
 |call (keep:Bool) (f:String) (args:List PE)
 |own (a:PE)                    -- a fresh list,as a cell
 |newDict (es:List (PE × PE))   -- a dict display,as a cell
 |append (o a:PE)|extend (o a:PE)|clear (o:PE)|remove (o a:PE)
 |pop (o:PE)|popAt (o i:PE)
 |get (o k d:PE)|setdef (o k d:PE)
 |dict1 (k v:PE)                -- {k: v},as a cell
inductive PIt where
 |seq (e:PE)
 |range1 (a:PE)|range2 (a b:PE)|range3 (a b c:PE)
 |enum (e:PE)
end
set_option genCtorIdx false in
set_option genInjectivity false in
inductive PS where
 |expr (e:PE)
 |asg (x:Nat) (e:PE)
 |asgT (xs:List Nat) (e:PE)
 |setIdx (o i e:PE)
 |setIdx2 (o1 i1 o2 i2 e1 e2:PE)
 |ret (e:PE)
 |ifs (t:PE) (a b:List PS)
 |for1 (x:Nat) (it:PIt) (body:List PS)
 |for2 (x y:Nat) (it:PIt) (body:List PS)
 |while (t:PE) (body:List PS)
 |raise (c:String)
 |try (body:List PS) (c:String) (x:Nat) (handler:List PS)
 |pass
 |frz (x:Nat)                   -- the cell of a name is told by value from here on
structure FnDef where
 arity:Nat
 slots:Nat
 body:List PS
abbrev Tab:=String→Option FnDef
abbrev Fn:=Bool→String→List V→H→R V
noncomputable def pcall (h:H) (r:R V):R V :=
 match r with
 |.ok v h'=>if h'.take h.length=h then R.opt (Mine.frz h.length h' v) h else .bad
 |.err c h'=>if h'.take h.length=h then .err c h else .bad
 |.bad=>.bad
noncomputable def seti (h:H) (o i v:V):Option H :=
 match o with
 |.ref r=>match h[r]? with
  |some (.list _)=>Option.none
  |some (.dict es)=>if keyOk i&&decide (es.length≤1000) then some (h.set r (.dict (dput i v es))) else Option.none
  |none=>Option.none
 |_=>Option.none
noncomputable def setiD (h:H) (r:Nat) (i v:V):Option H :=
 match h[r]? with
 |some (.list _)=>Option.none
 |some (.dict es)=>if keyOk i&&decide (es.length≤1000) then some (h.set r (.dict (dput i v es))) else Option.none
 |none=>Option.none
noncomputable def tailOf (v:V):Option V :=
 match v with
 |.tup vs=>if 0 < vs.length then some (.tup (vs.drop 1)) else Option.none
 |_=>Option.none
noncomputable def rmvI (y:V) (vs:List V):Option (V × List V) :=
 match y with
 |.int k=>(asInts vs).bind fun l=>(l.findIdx? fun i=>i == k).map fun j=>(.none,vs.eraseIdx j)
 |_=>Option.none
noncomputable def onList (h:H) (o:V) (f:List V→Option (V × List V)):R V :=
 match o with
 |.ref r=>match h[r]? with
  |some (.list vs)=>match f vs with
   |some (v,vs')=>if vs'.length≤1000000 then .ok v (h.set r (.list vs')) else .bad
   |none=>.bad
  |_=>.bad
 |_=>.bad
noncomputable def lcell (h:H) (o:V):Bool :=
 match o with
 |.ref r=>match h[r]? with
  |some (.list _)=>true
  |_=>false
 |_=>false
noncomputable def dcell (h:H) (o:V):Bool :=
 match o with
 |.ref r=>match h[r]? with
  |some (.dict _)=>true
  |_=>false
 |_=>false
noncomputable def onDict (h:H) (o k:V) (f:Nat→List (V × V)→R V):R V :=
 match o with
 |.ref r=>match h[r]? with
  |some (.dict es)=>if keyOk k then f r es else .bad
  |_=>.bad
 |_=>.bad
noncomputable def setDef (h:H) (x y z:V):R V :=
 onDict h x y fun r es=>match dfind y es with
  |some v=>.ok v h
  |Option.none=>if es.length≤1000 then .ok z (h.set r (.dict (es++[(y,z)]))) else .bad
noncomputable def getDef (h:H) (x y z:V):R V:=onDict h x y fun z_ es=>.ok ((dfind y es).getD z) h
noncomputable def rng3 (m n k:Int) (h:H):R (List V × Watch) :=
 if k=-1 then .ok (downTo m n,Option.none) h else .bad
noncomputable def zij (n:Nat):List V→List V
 |[]=>[]
 |v::vs=>.tup [.int n,v]::zij (n+1) vs
noncomputable def enumOf (h:H):V→Option (List V × Watch)
 |.ref i=>match h[i]? with
  |some (.list vs)=>some (zij 0 vs,some (i,.list vs))
  |_=>Option.none
 |_=>Option.none
noncomputable def compL (w:Watch) (elt:V→H→R V) (cond:V→H→R V):List V→H→R (List V)
 |[],h=>if w.ok h then .ok [] h else .bad
 |x::xs,h=>if w.ok h then(cond x h).bind fun b h=>match truthy b with
  |some true=>(elt x h).bind fun v h=>(compL w elt cond xs h).bind fun vs h=>.ok (v::vs) h
  |some false=>compL w elt cond xs h
  |none=>.bad
  else .bad
mutual
noncomputable def evE (q:Bool) (F:Fn) (ρ:List V):PE→H→R V
 |.none,h=>.ok .none h
 |.bool b,h=>.ok (.bool b) h
 |.int i,h=>.ok (.int i) h
 |.str s,h=>.ok (.str s) h
 |.var i,h=>match ρ[i]? with
  |some .undef=>.bad
  |some (.exc _)=>.bad
  |some v=>.ok v h
  |Option.none=>.bad
 |.glob _ i,h=>.ok (.int i) h
 |.bin op a b,h=>(evE q F ρ a h).bind fun x h=>(evE q F ρ b h).bind fun y h=>R.opt (pyBin op h x y) h
 |.neg i,h=>.ok (.int (-i)) h
 |.not a,h=>(evE q F ρ a h).bind fun x h=>match truthy x with
  |some b=>.ok (.bool (!b)) h
  |Option.none=>.bad
 |.and es,h=>evAnd q F ρ es h
 |.or es,h=>evOr q F ρ es h
 |.ite t a b,h=>(evE q F ρ t h).bind fun x h=>match truthy x with
  |some true=>evE q F ρ a h
  |some false=>evE q F ρ b h
  |Option.none=>.bad
 |.cmp op a b,h=>(evE q F ρ a h).bind fun x h=>(evE q F ρ b h).bind fun y h=>R.opt ((pyCmp op h x y).map .bool) h
 |.cmp2 op1 op2 a b c,h=>(evE q F ρ a h).bind fun x h=>(evE q F ρ b h).bind fun y h=>match pyCmp op1 h x y with
  |some true=>(evE q F ρ c h).bind fun z h=>R.opt ((pyCmp op2 h y z).map .bool) h
  |some false=>.ok (.bool false) h
  |Option.none=>.bad
 |.list es,h=>(evEs q F ρ es h).bind fun vs h=>R.opt (mkL vs) h
 |.tup es,h=>(evEs q F ρ es h).bind fun vs h=>R.opt (mkT vs) h
 |.dict0,h=>.ok .dct h
 |.idx a i,h=>(evE q F ρ a h).bind fun x h=>(evE q F ρ i h).bind fun y h=>R.opt (pyIdx h x y) h
 |.slice a lo hi,h=>(evE q F ρ a h).bind fun x h=>(evO q F ρ lo h).bind fun l h=>(evO q F ρ hi h).bind fun u h=>R.opt (zbF h x l u) h
 |.rev a,h=>(evE q F ρ a h).bind fun x h=>R.opt (tailOf x) h
 |.isinst a ts,h=>(evE q F ρ a h).bind fun x h=>R.opt ((isTys h x ts).map .bool) h
 |.isexc _ _,_=>.bad
 |.callX _ _,_=>.bad
 |.bf f a,h=>if(!q&&f.walks)||!f.ready then .bad else(evE q F ρ a h).bind fun x h=>R.opt (Mine.bf f h x) h
 |.join0 a,h=>if !q then .bad else(evE q F ρ a h).bind fun x h=>R.opt ((litems h x).bind fun vs=>(zfN vs).map .str) h
 |.comp elt x it cond,h=>if !q then .bad else(evIt q F ρ it h).bind fun vs h =>
   match compL vs.2 (fun v h=>evE q F (ρ.set x v) elt h) (fun v h=>evC q F (ρ.set x v) cond h) vs.1 h with
   |.ok r h=>R.opt (mkL r) h
   |_=>.bad
 |.call k f args,h=>(evEs q F ρ args h).bind fun vs h=>if k then F q f vs h else pcall h (F q f vs h)
 |.own a,h=>(evE q F ρ a h).bind fun x h=>match x with
  |.lst vs=>.ok (.ref h.length) (h++[.list vs])
  |_=>.bad
 |.newDict es,h=>(evPs q F ρ es h).bind fun ps h=>.ok (.ref h.length) (h++[.dict ps])
 |.append o a,h=>(evE q F ρ o h).bind fun x h=>if lcell h x then(evE q F ρ a h).bind fun y h=>onList h x fun vs=>some (.none,vs++[y]) else .bad
 |.extend o a,h=>(evE q F ρ o h).bind fun x h=>if lcell h x then(evE q F ρ a h).bind fun y h=>match y with
  |.lst ws=>onList h x fun vs=>some (.none,vs++ws)
  |_=>.bad
  else .bad
 |.clear o,h=>(evE q F ρ o h).bind fun x h=>onList h x fun z_=>some (.none,[])
 |.remove o a,h=>(evE q F ρ o h).bind fun x h=>if lcell h x then(evE q F ρ a h).bind fun y h=>onList h x fun vs=>rmvI y vs else .bad
 |.pop o,h=>(evE q F ρ o h).bind fun x h=>onList h x fun vs=>(vs.getLast?).map fun v=>(v,vs.dropLast)
 |.popAt o i,h=>(evE q F ρ o h).bind fun x h=>if lcell h x then(evE q F ρ i h).bind fun y h=>match y with
  |.int k=>onList h x fun vs=>(place vs.length k).bind fun j=>(vs[j]?).map fun v=>(v,vs.eraseIdx j)
  |_=>.bad
  else .bad
 |.get o k d,h=>(evE q F ρ o h).bind fun x h=>if dcell h x then(evE q F ρ k h).bind fun y h=>(evE q F ρ d h).bind fun z h=>getDef h x y z else .bad
 |.setdef o k d,h=>(evE q F ρ o h).bind fun x h=>if dcell h x then(evE q F ρ k h).bind fun y h=>(evE q F ρ d h).bind fun z h=>setDef h x y z else .bad
 |.dict1 a b,h=>(evE q F ρ a (h++[.dict []])).bind fun k h'=>(evE q F ρ b h').bind fun v h'=>match setiD h' h.length k v with
  |some h'=>.ok (.ref h.length) h'
  |Option.none=>.bad
noncomputable def evEs (q:Bool) (F:Fn) (ρ:List V):List PE→H→R (List V)
 |[],h=>.ok [] h
 |e::es,h=>(evE q F ρ e h).bind fun v h=>(evEs q F ρ es h).bind fun vs h=>.ok (v::vs) h
noncomputable def evPs (q:Bool) (F:Fn) (ρ:List V):List (PE × PE)→H→R (List (V × V))
 |[],h=>.ok [] h
 |(a,b)::es,h=>(evE q F ρ a h).bind fun k h=>(evE q F ρ b h).bind fun v h=>(evPs q F ρ es h).bind fun ps h =>
   if keyOk k&&(dfind k ps).isNone then .ok ((k,v)::ps) h else .bad
noncomputable def evO (q:Bool) (F:Fn) (ρ:List V):Option PE→H→R (Option V)
 |Option.none,h=>.ok Option.none h
 |some e,h=>(evE q F ρ e h).bind fun v h=>.ok (some v) h
noncomputable def evC (q:Bool) (F:Fn) (ρ:List V):Option PE→H→R V
 |Option.none,h=>.ok (.bool true) h
 |some e,h=>evE q F ρ e h
noncomputable def evAnd (q:Bool) (F:Fn) (ρ:List V):List PE→H→R V
 |[],_=>.bad
 |[e],h=>evE q F ρ e h
 |e::es,h=>(evE q F ρ e h).bind fun x h=>match truthy x with
  |some true=>evAnd q F ρ es h
  |some false=>.ok x h
  |Option.none=>.bad
noncomputable def evOr (q:Bool) (F:Fn) (ρ:List V):List PE→H→R V
 |[],_=>.bad
 |[e],h=>evE q F ρ e h
 |e::es,h=>(evE q F ρ e h).bind fun x h=>match truthy x with
  |some true=>.ok x h
  |some false=>evOr q F ρ es h
  |Option.none=>.bad
noncomputable def evIt (q:Bool) (F:Fn) (ρ:List V):PIt→H→R (List V × Watch)
 |.seq e,h=>(evE q F ρ e h).bind fun x h=>R.opt (iterOf h x) h
 |.range1 a,h=>(evE q F ρ a h).bind fun x h=>match x with
  |.int n=>if -1000000≤n∧n≤1000000 then .ok (upto n,Option.none) h else .bad
  |_=>.bad
 |.range2 a b,h=>(evE q F ρ a h).bind fun x h=>(evE q F ρ b h).bind fun y h=>match x,y with
  |.int m,.int n=>if -1000000≤m∧m≤1000000∧-1000000≤n∧n≤1000000 then .ok (fromTo m n,Option.none) h else .bad
  |_,_=>.bad
 |.range3 a b c,h=>(evE q F ρ a h).bind fun x h=>(evE q F ρ b h).bind fun y h=>(evE q F ρ c h).bind fun z h=>match x,y,z with
  |.int m,.int n,.int k=>if -1000000≤m∧m≤1000000∧-1000000≤n∧n≤1000000 then
    rng3 m n k h else .bad
  |_,_,_=>.bad
 |.enum e,h=>(evE q F ρ e h).bind fun x h=>R.opt (enumOf h x) h
end
inductive Fl where
 |next
 |ret (v:V)
inductive RS where
 |ok (f:Fl) (ρ:List V) (h:H)
 |err (c:String) (ρ:List V) (h:H)
 |bad
noncomputable def R.st {α:Type}(r:R α) (ρ:List V) (f:α→H→RS):RS :=
 match r with
 |.ok a h=>f a h
 |.err c h=>.err c ρ h
 |.bad=>.bad
@[simp] theorem R.st_ok {α:Type}(a:α) (h:H) (ρ:List V) (f:α→H→RS):(R.ok a h).st ρ f=f a h:=rfl
noncomputable def RS.then (r:RS) (f:List V→H→RS):RS :=
 match r with
 |.ok .next ρ h=>f ρ h
 |r=>r
@[simp] theorem RS.then_next (ρ:List V) (h:H) (f:List V→H→RS):(RS.ok .next ρ h).then f=f ρ h:=rfl
noncomputable def setAll (ρ:List V):List Nat→List V→Option (List V)
 |[],[]=>some ρ
 |x::xs,v::vs=>setAll (ρ.set x v) xs vs
 |_,_=>Option.none
noncomputable def bind1 (x:Nat) (ρ:List V) (v:V):Option (List V):=some (ρ.set x v)
noncomputable def bind2 (x y:Nat) (ρ:List V) (v:V):Option (List V) :=
 match v with
 |.tup [a,b]=>some ((ρ.set x a).set y b)
 |_=>Option.none
noncomputable def forL (w:Watch) (bindv:List V→V→Option (List V)) (body:List V→H→RS):List V→List V→H→RS
 |[],ρ,h=>if w.ok h then .ok .next ρ h else .bad
 |v::vs,ρ,h=>if w.ok h then(match bindv ρ v with
   |some ρ'=>(body ρ' h).then fun ρ h=>forL w bindv body vs ρ h
   |none=>.bad) else .bad
noncomputable def whileL (test:List V→H→R V) (body:List V→H→RS):Nat→List V→H→RS
 |0,_,_=>.bad
 |n+1,ρ,h=>(test ρ h).st ρ fun b h=>match truthy b with
  |some true=>(body ρ h).then fun ρ h=>whileL test body n ρ h
  |some false=>.ok .next ρ h
  |none=>.bad
noncomputable def turns:Nat:=1000000
mutual
noncomputable def V.has (r:Nat):V→Bool
 |.tup vs=>V.hasAny r vs
 |.lst vs=>V.hasAny r vs
 |.ref i=>i == r
 |_=>false
noncomputable def V.hasAny (r:Nat):List V→Bool
 |[]=>false
 |v::vs=>V.has r v||V.hasAny r vs
end
noncomputable def Cell.has (r:Nat):Cell→Bool
 |.list vs=>V.hasAny r vs
 |.dict es=>es.any fun e=>V.has r e.1||V.has r e.2
noncomputable def freeze (x:Nat) (ρ:List V) (h:H):RS :=
 match ρ[x]? with
 |some (.ref i)=>match h[i]? with
  |some (.list vs) =>
   if i+1=h.length&&!(V.hasAny i (ρ.set x .undef))&&!(h.any (Cell.has i)) then .ok .next (ρ.set x (.lst vs)) h.dropLast else .bad
  |_=>.bad
 |_=>.bad
noncomputable def noneS (_:V) (ρ:List V) (h:H):RS:=.ok .next ρ h
mutual
noncomputable def exS (q:Bool) (F:Fn):PS→List V→H→RS
 |.expr e,ρ,h=>(evE q F ρ e h).st ρ fun v h=>noneS v ρ h
 |.asg x e,ρ,h=>(evE q F ρ e h).st ρ fun v h=>.ok .next (ρ.set x v) h
 |.asgT xs e,ρ,h=>if !q then .bad else(evE q F ρ e h).st ρ fun v h=>match v with
  |.tup vs=>(match setAll ρ xs vs with
   |some ρ=>.ok .next ρ h
   |Option.none=>.bad)
  |_=>.bad
 |.setIdx o i e,ρ,h=>(evE q F ρ e h).st ρ fun v h=>(evE q F ρ o h).st ρ fun x h=>(evE q F ρ i h).st ρ fun y h=>match seti h x y v with
  |some h=>.ok .next ρ h
  |Option.none=>.bad
 |.setIdx2 o1 i1 o2 i2 e1 e2,ρ,h=>(evE q F ρ e1 h).st ρ fun v h=>(evE q F ρ e2 h).st ρ fun w h =>
   (evE q F ρ o1 h).st ρ fun x h=>(evE q F ρ i1 h).st ρ fun y h=>match seti h x y v with
    |some h=>(evE q F ρ o2 h).st ρ fun x h=>(evE q F ρ i2 h).st ρ fun y h=>(match seti h x y w with
     |some h=>.ok .next ρ h
     |Option.none=>.bad)
    |Option.none=>.bad
 |.ret e,ρ,h=>(evE q F ρ e h).st ρ fun v h=>.ok (.ret v) ρ h
 |.ifs t a b,ρ,h=>(evE q F ρ t h).st ρ fun x h=>match truthy x with
  |some true=>exSs q F a ρ h
  |some false=>exSs q F b ρ h
  |Option.none=>.bad
 |.for1 x it body,ρ,h=>if !q then .bad else(evIt q F ρ it h).st ρ fun vs h=>forL vs.2 (bind1 x) (fun ρ h=>exSs q F body ρ h) vs.1 ρ h
 |.for2 x y it body,ρ,h=>if !q then .bad else(evIt q F ρ it h).st ρ fun vs h=>forL vs.2 (bind2 x y) (fun ρ h=>exSs q F body ρ h) vs.1 ρ h
 |.while t body,ρ,h=>if !q then .bad else whileL (fun ρ h=>evE q F ρ t h) (fun ρ h=>exSs q F body ρ h) turns ρ h
 |.raise _,_,_=>.bad
 |.try body _ _ _,ρ,h=>if !q then .bad else match exSs q F body ρ h with
  |.ok f ρ h=>.ok f ρ h
  |_=>.bad
 |.pass,ρ,h=>.ok .next ρ h
 |.frz x,ρ,h=>freeze x ρ h
noncomputable def exSs (q:Bool) (F:Fn):List PS→List V→H→RS
 |[],ρ,h=>.ok .next ρ h
 |s::ss,ρ,h=>(exS q F s ρ h).then fun ρ h=>exSs q F ss ρ h
end
noncomputable def RS.out (r:RS):R V :=
 match r with
 |.ok (.ret v) _ h=>.ok v h
 |.ok .next _ h=>.ok .none h
 |.err c _ h=>.err c h
 |.bad=>.bad
noncomputable def runD (q:Bool) (F:Fn) (d:FnDef) (vs:List V) (h:H):R V :=
 if vs.length=d.arity then(exSs q F d.body (vs++List.replicate (d.slots - d.arity) .undef) h).out else .bad
noncomputable def run (P:Tab):Nat→Fn
 |0=>fun z_ z_ z_ z_=>.bad
 |n+1=>fun q f vs h=>match P f with
  |some d=>runD q (run P n) d vs h
  |Option.none=>.bad
theorem zlu {P:Tab}{f:String}{d:FnDef}(hf:P f=some d) (n:Nat) (q:Bool) (vs:List V) (h:H) :
  run P (n+1) q f vs h=runD q (run P n) d vs h:=by
 show(match P f with|some d=>runD q (run P n) d vs h|Option.none=>.bad)=_
 rw[hf]
theorem zok (n:Nat) (h:H) (i:Nat):frzAt 0 n h i=if i < n then some (.ref i) else Option.none:=rfl
theorem zen (k n:Nat) (h:H) (i:Nat):frzAt (k+1) n h i=if i < n then some (.ref i) else match h[i]? with
   |some (.list vs)=>(V.mapRefs (frzAt k n h) vs).map .lst
   |_=>Option.none:=rfl
theorem zcm (a b:Int) (as bs:List Int):lexLt (a::as) (b::bs)=if a=b then lexLt as bs else decide (a < b):=rfl
theorem zn9 {α:Type}(lt:α→α→Bool) (x:α) (xs:List α):isort lt (x::xs)=isort.insertBy' lt x (isort lt xs):=rfl
theorem zdK {α:Type}(lt:α→α→Bool) (x y:α) (ys:List α):isort.insertBy' lt x (y::ys)=if lt y x then y::isort.insertBy' lt x ys else x::y::ys:=rfl
theorem zfK {α:Type}(f:V→Option α):keyed f []=some []:=rfl
theorem zeg {α:Type}(f:V→Option α) (v:V) (vs:List V):keyed f (v::vs)=(f v).bind fun a=>(keyed f vs).map ((a,v)::·):=rfl
theorem zeb (a:List Int) (v:V) (p:List Int × V) (l:List (List Int × V)):zcj a v (p::l)=if lexLt p.1 a then zcj p.1 p.2 l else zcj a v l:=rfl
theorem zcb (k k' v:V) (es:List (V × V)):dfind k ((k',v)::es)=if k=k' then some v else dfind k es:=rfl
theorem zgO (k v k' v':V) (es:List (V × V)):dput k v ((k',v')::es)=if k=k' then(k',v)::es else(k',v')::dput k v es:=rfl
theorem zhw (w:Watch) (elt cond:V→H→R V) (h:H):compL w elt cond [] h=if w.ok h then .ok [] h else .bad:=rfl
theorem zhx (w:Watch) (elt cond:V→H→R V) (x:V) (xs:List V) (h:H):compL w elt cond (x::xs) h=if w.ok h then(cond x h).bind fun b h=>match truthy b with
  |some true=>(elt x h).bind fun v h=>(compL w elt cond xs h).bind fun vs h=>.ok (v::vs) h
  |some false=>compL w elt cond xs h
  |none=>.bad
  else .bad:=rfl
theorem zkJ (w:Watch) (bindv:List V→V→Option (List V)) (body:List V→H→RS) (ρ:List V) (h:H):forL w bindv body [] ρ h=if w.ok h then .ok .next ρ h else .bad:=rfl
theorem zie (w:Watch) (bindv:List V→V→Option (List V)) (body:List V→H→RS) (v:V) (vs ρ:List V) (h:H):forL w bindv body (v::vs) ρ h=if w.ok h then(match bindv ρ v with
   |some ρ'=>(body ρ' h).then fun ρ h=>forL w bindv body vs ρ h
   |none=>.bad) else .bad:=rfl
theorem zlj (test:List V→H→R V) (body:List V→H→RS) (n:Nat) (ρ:List V) (h:H):whileL test body (n+1) ρ h=(test ρ h).st ρ fun b h=>match truthy b with
  |some true=>(body ρ h).then fun ρ h=>whileL test body n ρ h
  |some false=>.ok .next ρ h
  |none=>.bad:=rfl
theorem zb0 (q:Bool) (F:Fn) (ρ:List V)  (h):evE q F ρ .none h=.ok .none h:=rfl
theorem zbZ (q:Bool) (F:Fn) (ρ:List V) (b) (h):evE q F ρ (.bool b) h=.ok (.bool b) h:=rfl
theorem zbP (q:Bool) (F:Fn) (ρ:List V) (i) (h):evE q F ρ (.int i) h=.ok (.int i) h:=rfl
theorem zbO (q:Bool) (F:Fn) (ρ:List V) (s) (h):evE q F ρ (.str s) h=.ok (.str s) h:=rfl
theorem zbN (q:Bool) (F:Fn) (ρ:List V) (i) (h):evE q F ρ (.var i) h=match ρ[i]? with
  |some .undef=>.bad
  |some (.exc _)=>.bad
  |some v=>.ok v h
  |Option.none=>.bad:=rfl
theorem zbY (q:Bool) (F:Fn) (ρ:List V) (i) (u1) (h):evE q F ρ (.glob u1 i) h=.ok (.int i) h:=rfl
theorem zbz (q:Bool) (F:Fn) (ρ:List V) (op) (a) (b) (h):evE q F ρ (.bin op a b) h=(evE q F ρ a h).bind fun x h=>(evE q F ρ b h).bind fun y h=>R.opt (pyBin op h x y) h:=rfl
theorem zbX (q:Bool) (F:Fn) (ρ:List V) (i) (h):evE q F ρ (.neg i) h=.ok (.int (-i)) h:=rfl
theorem zbM (q:Bool) (F:Fn) (ρ:List V) (a) (h):evE q F ρ (.not a) h=(evE q F ρ a h).bind fun x h=>match truthy x with
  |some b=>.ok (.bool (!b)) h
  |Option.none=>.bad:=rfl
theorem zaU (q:Bool) (F:Fn) (ρ:List V) (es) (h):evE q F ρ (.and es) h=evAnd q F ρ es h:=rfl
theorem zaE (q:Bool) (F:Fn) (ρ:List V) (es) (h):evE q F ρ (.or es) h=evOr q F ρ es h:=rfl
theorem zaT (q:Bool) (F:Fn) (ρ:List V) (t) (a) (b) (h):evE q F ρ (.ite t a b) h=(evE q F ρ t h).bind fun x h=>match truthy x with
  |some true=>evE q F ρ a h
  |some false=>evE q F ρ b h
  |Option.none=>.bad:=rfl
theorem zaj (q:Bool) (F:Fn) (ρ:List V) (op) (a) (b) (h):evE q F ρ (.cmp op a b) h=(evE q F ρ a h).bind fun x h=>(evE q F ρ b h).bind fun y h=>R.opt ((pyCmp op h x y).map .bool) h:=rfl
theorem zaD (q:Bool) (F:Fn) (ρ:List V) (op1) (op2) (a) (b) (c) (h):evE q F ρ (.cmp2 op1 op2 a b c) h=(evE q F ρ a h).bind fun x h=>(evE q F ρ b h).bind fun y h=>match pyCmp op1 h x y with
  |some true=>(evE q F ρ c h).bind fun z h=>R.opt ((pyCmp op2 h y z).map .bool) h
  |some false=>.ok (.bool false) h
  |Option.none=>.bad:=rfl
theorem zaK (q:Bool) (F:Fn) (ρ:List V) (es) (h):evE q F ρ (.list es) h=(evEs q F ρ es h).bind fun vs h=>R.opt (mkL vs) h:=rfl
theorem zaC (q:Bool) (F:Fn) (ρ:List V) (es) (h):evE q F ρ (.tup es) h=(evEs q F ρ es h).bind fun vs h=>R.opt (mkT vs) h:=rfl
theorem zaS (q:Bool) (F:Fn) (ρ:List V)  (h):evE q F ρ .dict0 h=.ok .dct h:=rfl
theorem zak (q:Bool) (F:Fn) (ρ:List V) (a) (i) (h):evE q F ρ (.idx a i) h=(evE q F ρ a h).bind fun x h=>(evE q F ρ i h).bind fun y h=>R.opt (pyIdx h x y) h:=rfl
theorem zas (q:Bool) (F:Fn) (ρ:List V) (a) (lo) (hi) (h):evE q F ρ (.slice a lo hi) h=(evE q F ρ a h).bind fun x h=>(evO q F ρ lo h).bind fun l h=>(evO q F ρ hi h).bind fun u h=>R.opt (zbF h x l u) h:=rfl
theorem zaB (q:Bool) (F:Fn) (ρ:List V) (a) (h):evE q F ρ (.rev a) h=(evE q F ρ a h).bind fun x h=>R.opt (tailOf x) h:=rfl
theorem zaJ (q:Bool) (F:Fn) (ρ:List V) (a) (ts) (h):evE q F ρ (.isinst a ts) h=(evE q F ρ a h).bind fun x h=>R.opt ((isTys h x ts).map .bool) h:=rfl
theorem zaR (q:Bool) (F:Fn) (ρ:List V) (x) (t) (h):evE q F ρ (.isexc x t) h=.bad:=rfl
theorem zaQ (q:Bool) (F:Fn) (ρ:List V) (f) (x) (h):evE q F ρ (.callX f x) h=.bad:=rfl
theorem zaA (q:Bool) (F:Fn) (ρ:List V) (f) (a) (h):evE q F ρ (.bf f a) h=if(!q&&f.walks)||!f.ready then .bad else(evE q F ρ a h).bind fun x h=>R.opt (Mine.bf f h x) h:=rfl
theorem zaP (q:Bool) (F:Fn) (ρ:List V) (a) (h):evE q F ρ (.join0 a) h=if !q then .bad else(evE q F ρ a h).bind fun x h=>R.opt ((litems h x).bind fun vs=>(zfN vs).map .str) h:=rfl
theorem zaz (q:Bool) (F:Fn) (ρ:List V) (elt) (x) (it) (cond) (h):evE q F ρ (.comp elt x it cond) h=if !q then .bad else(evIt q F ρ it h).bind fun vs h =>
   match compL vs.2 (fun v h=>evE q F (ρ.set x v) elt h) (fun v h=>evC q F (ρ.set x v) cond h) vs.1 h with
   |.ok r h=>R.opt (mkL r) h
   |_=>.bad:=rfl
theorem zan (q:Bool) (F:Fn) (ρ:List V) (k) (f) (args) (h):evE q F ρ (.call k f args) h=(evEs q F ρ args h).bind fun vs h=>if k then F q f vs h else pcall h (F q f vs h):=rfl
theorem zay (q:Bool) (F:Fn) (ρ:List V) (a) (h):evE q F ρ (.own a) h=(evE q F ρ a h).bind fun x h=>match x with
  |.lst vs=>.ok (.ref h.length) (h++[.list vs])
  |_=>.bad:=rfl
theorem zaO (q:Bool) (F:Fn) (ρ:List V) (es) (h):evE q F ρ (.newDict es) h=(evPs q F ρ es h).bind fun ps h=>.ok (.ref h.length) (h++[.dict ps]):=rfl
theorem zaI (q:Bool) (F:Fn) (ρ:List V) (o) (a) (h):evE q F ρ (.append o a) h=(evE q F ρ o h).bind fun x h=>if lcell h x then(evE q F ρ a h).bind fun y h=>onList h x fun vs=>some (.none,vs++[y]) else .bad:=rfl
theorem zax (q:Bool) (F:Fn) (ρ:List V) (o) (a) (h):evE q F ρ (.extend o a) h=(evE q F ρ o h).bind fun x h=>if lcell h x then(evE q F ρ a h).bind fun y h=>match y with
  |.lst ws=>onList h x fun vs=>some (.none,vs++ws)
  |_=>.bad
  else .bad:=rfl
theorem zaN (q:Bool) (F:Fn) (ρ:List V) (o) (h):evE q F ρ (.clear o) h=(evE q F ρ o h).bind fun x h=>onList h x fun z_=>some (.none,[]):=rfl
theorem zaH (q:Bool) (F:Fn) (ρ:List V) (o) (a) (h):evE q F ρ (.remove o a) h=(evE q F ρ o h).bind fun x h=>if lcell h x then(evE q F ρ a h).bind fun y h=>onList h x fun vs=>rmvI y vs else .bad:=rfl
theorem qE_34 (q:Bool) (F:Fn) (ρ:List V) (o) (h):evE q F ρ (.pop o) h=(evE q F ρ o h).bind fun x h=>onList h x fun vs=>(vs.getLast?).map fun v=>(v,vs.dropLast):=rfl
theorem zaM (q:Bool) (F:Fn) (ρ:List V) (o) (i) (h):evE q F ρ (.popAt o i) h=(evE q F ρ o h).bind fun x h=>if lcell h x then(evE q F ρ i h).bind fun y h=>match y with
  |.int k=>onList h x fun vs=>(place vs.length k).bind fun j=>(vs[j]?).map fun v=>(v,vs.eraseIdx j)
  |_=>.bad
  else .bad:=rfl
theorem zaw (q:Bool) (F:Fn) (ρ:List V) (o) (k) (d) (h):evE q F ρ (.get o k d) h=(evE q F ρ o h).bind fun x h=>if dcell h x then(evE q F ρ k h).bind fun y h=>(evE q F ρ d h).bind fun z h=>getDef h x y z else .bad:=rfl
theorem zaG (q:Bool) (F:Fn) (ρ:List V) (o) (k) (d) (h):evE q F ρ (.setdef o k d) h=(evE q F ρ o h).bind fun x h=>if dcell h x then(evE q F ρ k h).bind fun y h=>(evE q F ρ d h).bind fun z h=>setDef h x y z else .bad:=rfl
theorem zav (q:Bool) (F:Fn) (ρ:List V) (a) (b) (h):evE q F ρ (.dict1 a b) h=(evE q F ρ a (h++[.dict []])).bind fun k h'=>(evE q F ρ b h').bind fun v h'=>match setiD h' h.length k v with
  |some h'=>.ok (.ref h.length) h'
  |Option.none=>.bad:=rfl
theorem zjS (q:Bool) (F:Fn) (ρ:List V)  (h):evEs q F ρ [] h=.ok [] h:=rfl
theorem zde (q:Bool) (F:Fn) (ρ:List V) (e) (es) (h):evEs q F ρ (e::es) h=(evE q F ρ e h).bind fun v h=>(evEs q F ρ es h).bind fun vs h=>.ok (v::vs) h:=rfl
theorem zpl (q:Bool) (F:Fn) (ρ:List V)  (h):evO q F ρ Option.none h=.ok Option.none h:=rfl
theorem zpk (q:Bool) (F:Fn) (ρ:List V) (e) (h):evO q F ρ (some e) h=(evE q F ρ e h).bind fun v h=>.ok (some v) h:=rfl
theorem zrt (q:Bool) (F:Fn) (ρ:List V)  (h):evC q F ρ Option.none h=.ok (.bool true) h:=rfl
theorem zrs (q:Bool) (F:Fn) (ρ:List V) (e) (h):evC q F ρ (some e) h=evE q F ρ e h:=rfl
theorem zpo (q:Bool) (F:Fn) (ρ:List V) (e) (h):evIt q F ρ (.seq e) h=(evE q F ρ e h).bind fun x h=>R.opt (iterOf h x) h:=rfl
theorem zqG (q:Bool) (F:Fn) (ρ:List V) (a) (h):evIt q F ρ (.range1 a) h=(evE q F ρ a h).bind fun x h=>match x with
  |.int n=>if -1000000≤n∧n≤1000000 then .ok (upto n,Option.none) h else .bad
  |_=>.bad:=rfl
theorem zpn (q:Bool) (F:Fn) (ρ:List V) (a) (b) (h):evIt q F ρ (.range2 a b) h=(evE q F ρ a h).bind fun x h=>(evE q F ρ b h).bind fun y h=>match x,y with
  |.int m,.int n=>if -1000000≤m∧m≤1000000∧-1000000≤n∧n≤1000000 then .ok (fromTo m n,Option.none) h else .bad
  |_,_=>.bad:=rfl
theorem zpm (q:Bool) (F:Fn) (ρ:List V) (a) (b) (c) (h):evIt q F ρ (.range3 a b c) h=(evE q F ρ a h).bind fun x h=>(evE q F ρ b h).bind fun y h=>(evE q F ρ c h).bind fun z h=>match x,y,z with
  |.int m,.int n,.int k=>if -1000000≤m∧m≤1000000∧-1000000≤n∧n≤1000000 then
    rng3 m n k h else .bad
  |_,_,_=>.bad:=rfl
theorem zqF (q:Bool) (F:Fn) (ρ:List V) (e) (h):evIt q F ρ (.enum e) h=(evE q F ρ e h).bind fun x h=>R.opt (enumOf h x) h:=rfl
theorem zoQ (q:Bool) (F:Fn) (e) (ρ) (h):exS q F (.expr e) ρ h=(evE q F ρ e h).st ρ fun v h=>noneS v ρ h:=rfl
theorem zmR (q:Bool) (F:Fn) (x) (e) (ρ) (h):exS q F (.asg x e) ρ h=(evE q F ρ e h).st ρ fun v h=>.ok .next (ρ.set x v) h:=rfl
theorem zoP (q:Bool) (F:Fn) (xs) (e) (ρ) (h):exS q F (.asgT xs e) ρ h=if !q then .bad else(evE q F ρ e h).st ρ fun v h=>match v with
  |.tup vs=>(match setAll ρ xs vs with
   |some ρ=>.ok .next ρ h
   |Option.none=>.bad)
  |_=>.bad:=rfl
theorem zmQ (q:Bool) (F:Fn) (o) (i) (e) (ρ) (h):exS q F (.setIdx o i e) ρ h=(evE q F ρ e h).st ρ fun v h=>(evE q F ρ o h).st ρ fun x h=>(evE q F ρ i h).st ρ fun y h=>match seti h x y v with
  |some h=>.ok .next ρ h
  |Option.none=>.bad:=rfl
theorem zoO (q:Bool) (F:Fn) (o1) (i1) (o2) (i2) (e1) (e2) (ρ) (h):exS q F (.setIdx2 o1 i1 o2 i2 e1 e2) ρ h=(evE q F ρ e1 h).st ρ fun v h=>(evE q F ρ e2 h).st ρ fun w h =>
   (evE q F ρ o1 h).st ρ fun x h=>(evE q F ρ i1 h).st ρ fun y h=>match seti h x y v with
    |some h=>(evE q F ρ o2 h).st ρ fun x h=>(evE q F ρ i2 h).st ρ fun y h=>(match seti h x y w with
     |some h=>.ok .next ρ h
     |Option.none=>.bad)
    |Option.none=>.bad:=rfl
theorem znJ (q:Bool) (F:Fn) (e) (ρ) (h):exS q F (.ret e) ρ h=(evE q F ρ e h).st ρ fun v h=>.ok (.ret v) ρ h:=rfl
theorem zoN (q:Bool) (F:Fn) (t) (a) (b) (ρ) (h):exS q F (.ifs t a b) ρ h=(evE q F ρ t h).st ρ fun x h=>match truthy x with
  |some true=>exSs q F a ρ h
  |some false=>exSs q F b ρ h
  |Option.none=>.bad:=rfl
theorem zoM (q:Bool) (F:Fn) (x) (it) (body) (ρ) (h):exS q F (.for1 x it body) ρ h=if !q then .bad else(evIt q F ρ it h).st ρ fun vs h=>forL vs.2 (bind1 x) (fun ρ h=>exSs q F body ρ h) vs.1 ρ h:=rfl
theorem zoL (q:Bool) (F:Fn) (x) (y) (it) (body) (ρ) (h):exS q F (.for2 x y it body) ρ h=if !q then .bad else(evIt q F ρ it h).st ρ fun vs h=>forL vs.2 (bind2 x y) (fun ρ h=>exSs q F body ρ h) vs.1 ρ h:=rfl
theorem zgj (q:Bool) (F:Fn) (t) (body) (ρ) (h):exS q F (.while t body) ρ h=if !q then .bad else whileL (fun ρ h=>evE q F ρ t h) (fun ρ h=>exSs q F body ρ h) turns ρ h:=rfl
theorem ziR (q:Bool) (F:Fn) (c) (ρ) (h):exS q F (.raise c) ρ h=.bad:=rfl
theorem zgi (q:Bool) (F:Fn) (body) (c) (x) (handler) (ρ) (h):exS q F (.try body c x handler) ρ h=if !q then .bad else match exSs q F body ρ h with
  |.ok f ρ h=>.ok f ρ h
  |_=>.bad:=rfl
theorem ziQ (q:Bool) (F:Fn)  (ρ) (h):exS q F .pass ρ h=.ok .next ρ h:=rfl
theorem ziP (q:Bool) (F:Fn) (x) (ρ) (h):exS q F (.frz x) ρ h=freeze x ρ h:=rfl
theorem zqT (q:Bool) (F:Fn)  (ρ) (h):exSs q F [] ρ h=.ok .next ρ h:=rfl
theorem zpj (q:Bool) (F:Fn) (s) (ss) (ρ) (h):exSs q F (s::ss) ρ h=(exS q F s ρ h).then fun ρ h=>exSs q F ss ρ h:=rfl
theorem zqJ (q:Bool) (F:Fn) (ρ:List V) (h:H):evAnd q F ρ [] h=.bad:=rfl
theorem zqI (q:Bool) (F:Fn) (ρ:List V) (e:PE) (h:H):evAnd q F ρ [e] h=evE q F ρ e h:=rfl
theorem zqH (q:Bool) (F:Fn) (ρ:List V) (e d:PE) (es:List PE) (h:H):evAnd q F ρ (e::d::es) h=(evE q F ρ e h).bind fun x h=>match truthy x with
  |some true=>evAnd q F ρ (d::es) h
  |some false=>.ok x h
  |Option.none=>.bad:=rfl
theorem zqE (q:Bool) (F:Fn) (ρ:List V) (h:H):evOr q F ρ [] h=.bad:=rfl
theorem zqD (q:Bool) (F:Fn) (ρ:List V) (e:PE) (h:H):evOr q F ρ [e] h=evE q F ρ e h:=rfl
theorem znK (q:Bool) (F:Fn) (ρ:List V) (e d:PE) (es:List PE) (h:H):evOr q F ρ (e::d::es) h=(evE q F ρ e h).bind fun x h=>match truthy x with
  |some true=>.ok x h
  |some false=>evOr q F ρ (d::es) h
  |Option.none=>.bad:=rfl
end Mine
namespace Mine
open PySem
structure Ck where
 ctx:List (Str × Nat)
 names:List (Str × NameKind)
 fns:List String
 nums:List (String × Int)
noncomputable def zg0 (k:Option NameKind):Bool:=k == some .local||k == some .cell||k == some .free
noncomputable def Ck.var (c:Ck) (x:Str) (i:Nat):Bool:=c.ctx.lookup x == some i&&zg0 (c.names.lookup x)&&!(x == ("__debug__":Str))&&!(x == ("__classdict__":Str))
noncomputable def Ck.glob (c:Ck) (x:Str):Bool:=c.names.lookup x == some .globalImplicit&&!(x == ("__debug__":Str))
noncomputable def bopM:Bop→Operator
 |.add=>.Add|.sub=>.Sub|.mul=>.Mult|.fdiv=>.FloorDiv|.mod=>.Mod|.pow=>.Pow
noncomputable def copM:Cop→CmpOp
 |.eq=>.Eq|.ne=>.NotEq|.lt=>.Lt|.le=>.LtE|.gt=>.Gt|.ge=>.GtE|.is=>.Is|.isNot=>.IsNot|.isin=>.In|.notIn=>.NotIn
noncomputable def bopIs (op:Bop) (o:Operator):Bool:=decide (bopM op=o)
noncomputable def copIs (op:Cop) (o:CmpOp):Bool:=decide (copM op=o)
noncomputable def tyName:Ty→Str
 |.int=>"int"|.bool=>"bool"|.list=>"list"|.tuple=>"tuple"|.valueError=>"ValueError"
 |.own c=>Str.ofString c
noncomputable def isStar (e:Expr):Bool:=@Expr.casesOn (fun z_=>Bool) e (fun z_ z_ z_=>false) (fun z_ z_ z_=>false) (fun z_ z_ z_ z_=>false) (fun z_ z_ z_=>false) (fun z_ z_ z_ z_=>false) (fun z_ z_ z_ z_=>false) (fun z_ z_ z_=>false) (fun z_ z_ z_=>false) (fun z_ z_ z_ z_=>false) (fun z_ z_ z_ z_=>false) (fun z_ z_ z_ z_ z_=>false) (fun z_ z_ z_ z_=>false) (fun z_ z_=>false) (fun z_ z_=>false) (fun z_ z_=>false) (fun z_ z_ z_ z_=>false) (fun z_ z_ z_ z_=>false) (fun z_ z_ z_ z_=>false) (fun z_ z_=>false) (fun z_ z_ z_=>false) (fun z_ z_ z_=>false) (fun z_ z_ z_=>false) (fun z_ z_=>true) (fun z_ z_=>false) (fun z_ z_=>false) (fun z_ z_ z_=>false) (fun z_ z_ z_ z_=>false)
noncomputable def zol (o:Bop):Bool:=@Bop.casesOn (fun z_=>Bool) o
 true
 false
 false
 false false false
noncomputable def freshF (f:Bf):Bool:=@Bf.casesOn (fun z_=>Bool) f false true false false false false false false false false true false
noncomputable def freshE (e:PE):Bool:=@PE.casesOn (fun z_=>Bool) e false (fun z_=>false) (fun z_=>false) (fun z_=>false) (fun z_=>false) (fun z_ z_=>false) (fun o z_ z_=>zol o) (fun z_=>false) (fun z_=>false) (fun z_=>false) (fun z_=>false) (fun z_ z_ z_=>false) (fun z_ z_ z_=>false) (fun z_ z_ z_ z_ z_=>false) (fun z_=>true) (fun z_=>false) false (fun z_ z_=>false) (fun z_ z_ z_=>true) (fun z_=>false) (fun z_ z_=>false) (fun z_ z_=>false) (fun z_ z_=>false) (fun f z_=>freshF f) (fun z_=>false) (fun z_ z_ z_ z_=>true) (fun z_ z_ z_=>false) (fun z_=>false) (fun z_=>false) (fun z_ z_=>false) (fun z_ z_=>false) (fun z_=>false) (fun z_ z_=>false) (fun z_=>false) (fun z_ z_=>false) (fun z_ z_ z_=>false) (fun z_ z_ z_=>false) (fun z_ z_=>false)
noncomputable def okBase (e:Expr):Bool:=@Expr.casesOn (fun z_=>Bool) e (fun z_ z_ z_=>true) (fun z_ z_ z_=>true) (fun z_ z_ z_ z_=>true) (fun z_ z_ z_=>true) (fun z_ z_ z_ z_=>true) (fun z_ z_ z_ z_=>true) (fun z_ z_ z_=>true) (fun z_ z_ z_=>true) (fun z_ z_ z_ z_=>true) (fun z_ z_ z_ z_=>true) (fun z_ z_ z_ z_ z_=>true) (fun z_ z_ z_ z_=>true) (fun z_ z_=>true) (fun z_ z_=>true) (fun z_ z_=>true) (fun z_ z_ z_ z_=>true) (fun z_ xs z_ z_=>!xs.isEmpty) (fun z_ z_ z_ z_=>true) (fun z_ z_=>true) (fun z_ z_ z_=>true) (fun z_ z_ z_=>true) (fun z_ z_ z_=>true) (fun z_ z_=>true) (fun z_ z_=>true) (fun z_ z_=>true) (fun z_ z_ z_=>true) (fun z_ z_ z_ z_=>true)
noncomputable def isSet (e:Expr):Bool:=@Expr.casesOn (fun z_=>Bool) e (fun z_ z_ z_=>false) (fun z_ z_ z_=>false) (fun z_ z_ z_ z_=>false) (fun z_ z_ z_=>false) (fun z_ z_ z_ z_=>false) (fun z_ z_ z_ z_=>false) (fun z_ z_ z_=>false) (fun z_ z_ z_=>true) (fun z_ z_ z_ z_=>false) (fun z_ z_ z_ z_=>false) (fun z_ z_ z_ z_ z_=>false) (fun z_ z_ z_ z_=>false) (fun z_ z_=>false) (fun z_ z_=>false) (fun z_ z_=>false) (fun z_ z_ z_ z_=>false) (fun z_ z_ z_ z_=>false) (fun z_ z_ z_ z_=>false) (fun z_ z_=>false) (fun z_ z_ z_=>false) (fun z_ z_ z_=>false) (fun z_ z_ z_=>false) (fun z_ z_=>false) (fun z_ z_=>false) (fun z_ z_=>false) (fun z_ z_ z_=>false) (fun z_ z_ z_ z_=>false)
noncomputable def tyPl:Ty→Bool
 |.own _|.valueError=>false
 |_=>true
theorem no {α:Type}{P:Prop}{x:α}(h:(none:Option α)=some x):P:=nomatch h
theorem noB {P:Prop}(h:false=true):P:=nomatch h
theorem al {a b:Bool}(h:(a&&b)=true):a=true:=(Bool.and_eq_true_iff.mp h).1
theorem ar {a b:Bool}(h:(a&&b)=true):b=true:=(Bool.and_eq_true_iff.mp h).2
theorem nt {a:Bool}(h:(!a)=true):a=false:=by cases a;rfl;cases h
theorem zaf {c:Prop} [Decidable c] {g:c→Bool}{G:Prop}(h:(dite c g fun z_=>false)=true) (k:∀ hc,g hc=true→G):G :=
 if hc:c then k hc ((dif_pos hc).symm.trans h) else noB ((dif_neg hc).symm.trans h)
noncomputable def xConst (e:Expr) (v0:Const) (p:Bool):Bool:=dite (e.ctorIdx=19) (fun hc=>(@Expr.Constant.elim (fun z_=>Bool) e hc fun v z_ z_=>decide (v=v0)&&p)) fun z_=>false
theorem zbS {e:Expr}{v0:Const}{p:Bool}{G:Expr→Prop}(h:xConst e v0 p=true) (k:∀ n q,p=true→G (.Constant v0 n q)):G e :=
 zaf h fun hc h=>@Expr.Constant.elim (fun e=>∀ hc:e.ctorIdx=19,(@Expr.Constant.elim (fun z_=>Bool) e hc fun v z_ z_=>decide (v=v0)&&p)=true→G e) e hc (fun v n q z_ h=>(show G (.Constant v n q) from by cases of_decide_eq_true (al h);exact k n q (ar h))) hc h
noncomputable def xName (e:Expr) (p:Str→Bool):Bool:=dite (e.ctorIdx=23) (fun hc=>(@Expr.Name.elim (fun z_=>Bool) e hc fun x z_=>p x)) fun z_=>false
theorem zc3 {e:Expr}{p:Str→Bool}{G:Expr→Prop}(h:xName e p=true) (k:∀ x q,p x=true→G (.Name x q)):G e :=
 zaf h fun hc h=>@Expr.Name.elim (fun e=>∀ hc:e.ctorIdx=23,(@Expr.Name.elim (fun z_=>Bool) e hc fun x z_=>p x)=true→G e) e hc (fun x q z_ h=>k x q h) hc h
noncomputable def zfb (e:Expr) (x0:Str) (p:Bool):Bool:=dite (e.ctorIdx=23) (fun hc=>(@Expr.Name.elim (fun z_=>Bool) e hc fun x z_=>decide (x=x0)&&p)) fun z_=>false
theorem zdg {e:Expr}{x0:Str}{p:Bool}{G:Expr→Prop}(h:zfb e x0 p=true) (k:∀ q,p=true→G (.Name x0 q)):G e :=
 zaf h fun hc h=>@Expr.Name.elim (fun e=>∀ hc:e.ctorIdx=23,(@Expr.Name.elim (fun z_=>Bool) e hc fun x z_=>decide (x=x0)&&p)=true→G e) e hc (fun x q z_ h=>(show G (.Name x q) from by cases of_decide_eq_true (al h);exact k q (ar h))) hc h
noncomputable def xBin (e:Expr) (o0:Operator) (p:Expr→Expr→Bool):Bool:=dite (e.ctorIdx=2) (fun hc=>(@Expr.BinOp.elim (fun z_=>Bool) e hc fun l o r z_=>decide (o=o0)&&p l r)) fun z_=>false
theorem zoF {e:Expr}{o0:Operator}{p:Expr→Expr→Bool}{G:Expr→Prop}(h:xBin e o0 p=true) (k:∀ l r q,p l r=true→G (.BinOp l o0 r q)):G e :=
 zaf h fun hc h=>@Expr.BinOp.elim (fun e=>∀ hc:e.ctorIdx=2,(@Expr.BinOp.elim (fun z_=>Bool) e hc fun l o r z_=>decide (o=o0)&&p l r)=true→G e) e hc (fun l o r q z_ h=>(show G (.BinOp l o r q) from by cases of_decide_eq_true (al h);exact k l r q (ar h))) hc h
noncomputable def xUn (e:Expr) (o0:UnaryOp) (p:Expr→Bool):Bool:=dite (e.ctorIdx=3) (fun hc=>(@Expr.UnaryOp.elim (fun z_=>Bool) e hc fun o y z_=>decide (o=o0)&&p y)) fun z_=>false
theorem zmF {e:Expr}{o0:UnaryOp}{p:Expr→Bool}{G:Expr→Prop}(h:xUn e o0 p=true) (k:∀ y q,p y=true→G (.UnaryOp o0 y q)):G e :=
 zaf h fun hc h=>@Expr.UnaryOp.elim (fun e=>∀ hc:e.ctorIdx=3,(@Expr.UnaryOp.elim (fun z_=>Bool) e hc fun o y z_=>decide (o=o0)&&p y)=true→G e) e hc (fun o y q z_ h=>(show G (.UnaryOp o y q) from by cases of_decide_eq_true (al h);exact k y q (ar h))) hc h
noncomputable def xBool (e:Expr) (o0:BoolOp) (p:List Expr→Bool):Bool:=dite (e.ctorIdx=0) (fun hc=>(@Expr.BoolOp.elim (fun z_=>Bool) e hc fun o ys z_=>decide (o=o0)&&p ys)) fun z_=>false
theorem ziA {e:Expr}{o0:BoolOp}{p:List Expr→Bool}{G:Expr→Prop}(h:xBool e o0 p=true) (k:∀ ys q,p ys=true→G (.BoolOp o0 ys q)):G e :=
 zaf h fun hc h=>@Expr.BoolOp.elim (fun e=>∀ hc:e.ctorIdx=0,(@Expr.BoolOp.elim (fun z_=>Bool) e hc fun o ys z_=>decide (o=o0)&&p ys)=true→G e) e hc (fun o ys q z_ h=>(show G (.BoolOp o ys q) from by cases of_decide_eq_true (al h);exact k ys q (ar h))) hc h
noncomputable def xCmp (e:Expr) (p:Expr→List CmpOp→List Expr→Bool):Bool:=dite (e.ctorIdx=15) (fun hc=>(@Expr.Compare.elim (fun z_=>Bool) e hc fun l os rs z_=>p l os rs)) fun z_=>false
theorem zk5 {e:Expr}{p:Expr→List CmpOp→List Expr→Bool}{G:Expr→Prop}(h:xCmp e p=true) (k:∀ l os rs q,p l os rs=true→G (.Compare l os rs q)):G e :=
 zaf h fun hc h=>@Expr.Compare.elim (fun e=>∀ hc:e.ctorIdx=15,(@Expr.Compare.elim (fun z_=>Bool) e hc fun l os rs z_=>p l os rs)=true→G e) e hc (fun l os rs q z_ h=>k l os rs q h) hc h
noncomputable def xList (e:Expr) (p:List Expr→Bool):Bool:=dite (e.ctorIdx=24) (fun hc=>(@Expr.List.elim (fun z_=>Bool) e hc fun xs z_=>p xs)) fun z_=>false
theorem zlY {e:Expr}{p:List Expr→Bool}{G:Expr→Prop}(h:xList e p=true) (k:∀ xs q,p xs=true→G (.List xs q)):G e :=
 zaf h fun hc h=>@Expr.List.elim (fun e=>∀ hc:e.ctorIdx=24,(@Expr.List.elim (fun z_=>Bool) e hc fun xs z_=>p xs)=true→G e) e hc (fun xs q z_ h=>k xs q h) hc h
noncomputable def xTup (e:Expr) (p:List Expr→Bool):Bool:=dite (e.ctorIdx=25) (fun hc=>(@Expr.Tuple.elim (fun z_=>Bool) e hc fun xs z_ z_=>p xs)) fun z_=>false
theorem zjy {e:Expr}{p:List Expr→Bool}{G:Expr→Prop}(h:xTup e p=true) (k:∀ xs n q,p xs=true→G (.Tuple xs n q)):G e :=
 zaf h fun hc h=>@Expr.Tuple.elim (fun e=>∀ hc:e.ctorIdx=25,(@Expr.Tuple.elim (fun z_=>Bool) e hc fun xs z_ z_=>p xs)=true→G e) e hc (fun xs n q z_ h=>k xs n q h) hc h
noncomputable def xDict (e:Expr) (p:List (Option Expr)→List Expr→Bool):Bool:=dite (e.ctorIdx=6) (fun hc=>(@Expr.Dict.elim (fun z_=>Bool) e hc fun ks vs z_=>p ks vs)) fun z_=>false
theorem zfU {e:Expr}{p:List (Option Expr)→List Expr→Bool}{G:Expr→Prop}(h:xDict e p=true) (k:∀ ks vs q,p ks vs=true→G (.Dict ks vs q)):G e :=
 zaf h fun hc h=>@Expr.Dict.elim (fun e=>∀ hc:e.ctorIdx=6,(@Expr.Dict.elim (fun z_=>Bool) e hc fun ks vs z_=>p ks vs)=true→G e) e hc (fun ks vs q z_ h=>k ks vs q h) hc h
noncomputable def xSub (e:Expr) (p:Expr→Expr→Bool):Bool:=dite (e.ctorIdx=21) (fun hc=>(@Expr.Subscript.elim (fun z_=>Bool) e hc fun v i z_=>p v i)) fun z_=>false
theorem zfj {e:Expr}{p:Expr→Expr→Bool}{G:Expr→Prop}(h:xSub e p=true) (k:∀ v i q,p v i=true→G (.Subscript v i q)):G e :=
 zaf h fun hc h=>@Expr.Subscript.elim (fun e=>∀ hc:e.ctorIdx=21,(@Expr.Subscript.elim (fun z_=>Bool) e hc fun v i z_=>p v i)=true→G e) e hc (fun v i q z_ h=>k v i q h) hc h
noncomputable def xSlice (e:Expr) (p:Option Expr→Option Expr→Option Expr→Bool):Bool:=dite (e.ctorIdx=26) (fun hc=>(@Expr.Slice.elim (fun z_=>Bool) e hc fun l u d z_=>p l u d)) fun z_=>false
theorem zgg {e:Expr}{p:Option Expr→Option Expr→Option Expr→Bool}{G:Expr→Prop}(h:xSlice e p=true) (k:∀ l u d q,p l u d=true→G (.Slice l u d q)):G e :=
 zaf h fun hc h=>@Expr.Slice.elim (fun e=>∀ hc:e.ctorIdx=26,(@Expr.Slice.elim (fun z_=>Bool) e hc fun l u d z_=>p l u d)=true→G e) e hc (fun l u d q z_ h=>k l u d q h) hc h
noncomputable def xCall (e:Expr) (p:Expr→List Expr→List Keyword→Pos→Bool):Bool:=dite (e.ctorIdx=16) (fun hc=>(@Expr.Call.elim (fun z_=>Bool) e hc fun f xs ks q=>p f xs ks q)) fun z_=>false
theorem ziw {e:Expr}{p:Expr→List Expr→List Keyword→Pos→Bool}{G:Expr→Prop}(h:xCall e p=true) (k:∀ f xs ks q,p f xs ks q=true→G (.Call f xs ks q)):G e :=
 zaf h fun hc h=>@Expr.Call.elim (fun e=>∀ hc:e.ctorIdx=16,(@Expr.Call.elim (fun z_=>Bool) e hc fun f xs ks q=>p f xs ks q)=true→G e) e hc (fun f xs ks q z_ h=>k f xs ks q h) hc h
noncomputable def xAttr (e:Expr) (m0:Str) (p:Expr→Pos→Bool):Bool:=dite (e.ctorIdx=20) (fun hc=>(@Expr.Attribute.elim (fun z_=>Bool) e hc fun v m q=>decide (m=m0)&&p v q)) fun z_=>false
theorem zmw {e:Expr}{m0:Str}{p:Expr→Pos→Bool}{G:Expr→Prop}(h:xAttr e m0 p=true) (k:∀ v q,p v q=true→G (.Attribute v m0 q)):G e :=
 zaf h fun hc h=>@Expr.Attribute.elim (fun e=>∀ hc:e.ctorIdx=20,(@Expr.Attribute.elim (fun z_=>Bool) e hc fun v m q=>decide (m=m0)&&p v q)=true→G e) e hc (fun v m q z_ h=>(show G (.Attribute v m q) from by cases of_decide_eq_true (al h);exact k v q (ar h))) hc h
noncomputable def xLC (e:Expr) (p:Expr→List Comprehension→Scope→Bool):Bool:=dite (e.ctorIdx=8) (fun hc=>(@Expr.ListComp.elim (fun z_=>Bool) e hc fun y gs sc z_=>p y gs sc)) fun z_=>false
theorem zmZ {e:Expr}{p:Expr→List Comprehension→Scope→Bool}{G:Expr→Prop}(h:xLC e p=true) (k:∀ y gs sc q,p y gs sc=true→G (.ListComp y gs sc q)):G e :=
 zaf h fun hc h=>@Expr.ListComp.elim (fun e=>∀ hc:e.ctorIdx=8,(@Expr.ListComp.elim (fun z_=>Bool) e hc fun y gs sc z_=>p y gs sc)=true→G e) e hc (fun y gs sc q z_ h=>k y gs sc q h) hc h
noncomputable def one {α:Type}(l:List α) (p:α→Bool):Bool:=@List.casesOn α (fun z_=>Bool) l false fun x t=>@List.casesOn α (fun z_=>Bool) t (p x) fun z_ z_=>false
theorem zaW {α:Type}{l:List α}{p:α→Bool}{G:List α→Prop}(h:one l p=true) (k:∀ x,p x=true→G [x]):G l :=
 @List.casesOn α (fun l=>one l p=true→G l) l noB (fun x t=>@List.casesOn α (fun t=>one (x::t) p=true→G (x::t)) t (k x) fun z_ z_=>noB) h
noncomputable def two {α:Type}(l:List α) (p:α→α→Bool):Bool:=@List.casesOn α (fun z_=>Bool) l false fun x t=>one t (p x)
theorem zcM {α:Type}{l:List α}{p:α→α→Bool}{G:List α→Prop}(h:two l p=true) (k:∀ x y,p x y=true→G [x,y]):G l :=
 @List.casesOn α (fun l=>two l p=true→G l) l noB (fun x t h=>zaW (G:=fun t=>G (x::t)) h (k x)) h
noncomputable def three {α:Type}(l:List α) (p:α→α→α→Bool):Bool:=@List.casesOn α (fun z_=>Bool) l false fun x t=>two t (p x)
theorem zjA {α:Type}{l:List α}{p:α→α→α→Bool}{G:List α→Prop}(h:three l p=true) (k:∀ x y z,p x y z=true→G [x,y,z]):G l :=
 @List.casesOn α (fun l=>three l p=true→G l) l noB (fun x t h=>zcM (G:=fun t=>G (x::t)) h (k x)) h
theorem zbc {α:Type}{l:List α}{G:List α→Prop}(h:l.isEmpty=true) (k:G []):G l:=by
 cases l with
 |nil=>exact k
 |cons _ _=>cases h
noncomputable def oneO {α:Type}(o:Option α) (p:α→Bool):Bool:=@Option.casesOn α (fun z_=>Bool) o false p
theorem zdG {α:Type}{o:Option α}{p:α→Bool}{G:Option α→Prop}(h:oneO o p=true) (k:∀ x,p x=true→G (some x)):G o :=
 @Option.casesOn α (fun o=>oneO o p=true→G o) o noB k h
theorem zdH {α:Type}{o:Option α}{G:Option α→Prop}(h:o.isNone=true) (k:G none):G o:=by
 cases o with
 |none=>exact k
 |some _=>cases h
noncomputable def xNamed (e:Expr) (f:Str) (p:List Expr→Bool):Bool:=xCall e fun g xs ks z_=>ks.isEmpty&&(zfb g f true&&p xs)
theorem zbo {e:Expr}{f:Str}{p:List Expr→Bool}{G:Expr→Prop}(h:xNamed e f p=true) (k:∀ xs q q',p xs=true→G (.Call (.Name f q) xs [] q')):G e :=
 ziw h fun g xs ks q' h=>zbc (G:=fun ks=>G (.Call g xs ks q')) (al h) (zdg (G:=fun g=>G (.Call g xs [] q')) (al (ar h)) fun q z_=>k xs q q' (ar (ar h)))
noncomputable def xMeth (e:Expr) (m:Str) (p:Expr→List Expr→Bool):Bool:=xCall e fun g xs ks q'=>ks.isEmpty&&xAttr g m fun v q=>q.endLine == q'.line&&p v xs
theorem zcz {e:Expr}{m:Str}{p:Expr→List Expr→Bool}{G:Expr→Prop}(h:xMeth e m p=true) (k:∀ v xs q q',(q.endLine == q'.line)=true→p v xs=true→G (.Call (.Attribute v m q) xs [] q')):G e :=
 ziw h fun g xs ks q' h=>zbc (G:=fun ks=>G (.Call g xs ks q')) (al h) (zmw (G:=fun g=>G (.Call g xs [] q')) (ar h) fun v q h=>k v xs q q' (al h) (ar h))
noncomputable def xGen (gs:List Comprehension) (p:Str→Expr→List Expr→Bool):Bool:=one gs fun g=>decide (g.is_async=0)&&xName g.target fun x=>p x g.iter g.ifs
theorem zkE {gs:List Comprehension}{p:Str→Expr→List Expr→Bool}{G:List Comprehension→Prop}(h:xGen gs p=true) (k:∀ x iter ifs q,p x iter ifs=true→G [⟨.Name x q,iter,ifs,0⟩]):G gs :=
 zaW h fun g h=>by
  obtain⟨t,iter,ifs,d⟩:=g
  cases of_decide_eq_true (al h)
  exact zc3 (G:=fun t=>G [⟨t,iter,ifs,0⟩]) (ar h) fun x q h=>k x iter ifs q h
noncomputable def ckTy (c:Ck) (t:Ty) (e:Expr):Bool:=zfb e (tyName t) true&&c.glob (tyName t)
theorem ziv {c:Ck}{t:Ty}{e:Expr}(h:ckTy c t e=true):∃ p,e=.Name (tyName t) p∧c.glob (tyName t)=true :=
 zdg (G:=fun e=>∃ p,e=.Name (tyName t) p∧c.glob (tyName t)=true) (al h) fun q z_=>⟨q,rfl,ar h⟩
noncomputable def ckTys (c:Ck):List Ty→List Expr→Bool
 |[],[]=>true
 |t::ts,e::es=>ckTy c t e&&ckTys c ts es
 |_,_=>false
noncomputable def relab (outer:List (Str × NameKind)) (names:List (Str × NameKind)):List (Str × NameKind) :=
 names.map fun(n,k)=>if(k == .free&&outer.lookup n == some .cell) then(n,.cell) else(n,k)
noncomputable def zd1 (c:Ck) (x:Str) (scope:Scope):Bool :=
 scope.kind == .function&&scope.names.all (fun p=>(p.2 != .local||((p.1 == x||p.1 == (".0":Str))&&scope.names.lookup p.1 == some .local))&&(p.2 != .free||c.names.lookup p.1 == some .cell||c.names.lookup p.1 == some .free)&&p.2 != .cell) &&
 scope.names.lookup x == some .local&&!(x == (".0":Str))&&c.ctx.lookup (".0":Str) == none
noncomputable def Ck.inner (c:Ck) (x:Str) (i:Nat) (scope:Scope):Ck:=⟨(x,i)::c.ctx,relab c.names scope.names,c.fns,c.nums⟩
noncomputable def bfName:Bf→Str
 |.len=>"len"|.list=>"list"|.tuple=>"tuple"|.sorted=>"sorted"|.min=>"min"|.sum=>"sum"|.any=>"any"|.all=>"all"|.int=>"int"|.str=>"str"
 |.listRev=>"list"|.listRange=>"list"
mutual
noncomputable def ckE (c:Ck):PE→Expr→Bool
 |.none,ex=>xConst ex .none true
 |.bool b,ex=>xConst ex (.bool b) true
 |.int i,ex=>xConst ex (.int i) true
 |.str s,ex=>xConst ex (.str (Str.ofString s)) true
 |.var i,ex=>xName ex fun x=>c.var x i
 |.glob g i,ex=>zfb ex (Str.ofString g) true&&(c.glob (Str.ofString g)&&c.nums.contains (g,i))
 |.bin op a b,ex=>xBin ex (bopM op) fun l r=>ckE c a l&&ckE c b r
 |.neg i,ex=>xUn ex .USub fun y=>xConst y (.int i) true
 |.not a,ex=>xUn ex .Not fun y=>ckE c a y
 |.and es,ex=>xBool ex .And fun ys=>ckEs c es ys
 |.or es,ex=>xBool ex .Or fun ys=>ckEs c es ys
 |.ite ..,_=>false
 |.cmp op a b,ex=>xCmp ex fun l os rs=>one os fun o=>one rs fun r=>copIs op o&&(ckE c a l&&(ckE c b r&&!isSet r))
 |.cmp2 o1 o2 a b d,ex=>xCmp ex fun l os rs=>two os fun u1 u2=>two rs fun r1 r2=>copIs o1 u1&&(copIs o2 u2&&(ckE c a l&&(ckE c b r1&&(ckE c d r2&&!isSet r2))))
 |.list es,ex=>xList ex fun xs=>ckEs c es xs
 |.tup es,ex=>xTup ex fun xs=>ckEs c es xs
 |.dict0,ex=>xDict ex fun ks vs=>ks.isEmpty&&vs.isEmpty
 |.idx a i,ex=>xSub ex fun v s=>ckE c a v&&ckE c i s
 |.slice a lo hi,ex=>xSub ex fun v s=>xSlice s fun l u d=>d.isNone&&(ckE c a v&&(ckO c lo l&&ckO c hi u))
 |.rev a,ex=>xSub ex fun v s=>xSlice s fun l u d=>d.isNone&&(u.isNone&&(ckE c a v&&oneO l fun e=>xConst e (.int 1) true))
 |.isinst a ts,ex=>xNamed ex "isinstance" fun xs=>two xs fun y t=>c.glob "isinstance"&&(ckE c a y&&(ts.all tyPl&&one ts fun u=>ckTy c u t))
 |.isexc _ _,_=>false
 |.callX _ _,_=>false
 |.bf f a,ex=>xNamed ex (bfName f) fun xs=>one xs fun x=>c.glob (bfName f)&&(match f with
    |.listRev=>xNamed x "reversed" fun ys=>one ys fun y=>c.glob "reversed"&&ckE c a y
    |.listRange=>xNamed x "range" fun ys=>one ys fun y=>c.glob "range"&&ckE c a y
    |_=>ckE c a x)
 |.join0 ..,_=>false
 |.comp elt i it cond,ex=>xLC ex fun y gs sc=>xGen gs fun x iter ifs=>ckIt c it iter&&(!isSet iter&&(zd1 c x sc&&(c.ctx.all (fun p=>p.2 != i)&&(ckE (c.inner x i sc) elt y&&ckC (c.inner x i sc) cond ifs))))
 |.call _ f args,ex=>xNamed ex (Str.ofString f) fun xs=>c.glob (Str.ofString f)&&(c.fns.contains f&&(ckEs c args xs&&!args.isEmpty))
 |.own a,ex=>freshE a&&ckE c a ex
 |.newDict es,ex=>xDict ex fun ks vs=>ks.isEmpty&&(vs.isEmpty&&es.isEmpty)
 |.append o a,ex=>xMeth ex "append" fun v xs=>one xs fun x=>okBase v&&(ckE c o v&&(ckE c a x&&!isStar x))
 |.extend o a,ex=>xMeth ex "extend" fun v xs=>one xs fun x=>okBase v&&(ckE c o v&&(ckE c a x&&!isStar x))
 |.clear ..,_=>false
 |.remove o a,ex=>xMeth ex "remove" fun v xs=>one xs fun x=>okBase v&&(ckE c o v&&(ckE c a x&&!isStar x))
 |.pop o,ex=>xMeth ex "pop" fun v xs=>okBase v&&(ckE c o v&&xs.isEmpty)
 |.popAt ..,_=>false
 |.get o k d,ex=>xMeth ex "get" fun v xs=>two xs fun x y=>okBase v&&(ckE c o v&&(ckE c k x&&(ckE c d y&&(!isStar x&&!isStar y))))
 |.setdef o k d,ex=>xMeth ex "setdefault" fun v xs=>two xs fun x y=>okBase v&&(ckE c o v&&(ckE c k x&&(ckE c d y&&(!isStar x&&!isStar y))))
 |.dict1 a b,ex=>xDict ex fun ks vs=>one ks fun k=>oneO k fun k=>one vs fun v=>ckE c a k&&ckE c b v
noncomputable def ckEs (c:Ck):List PE→List Expr→Bool
 |[],xs=>xs.isEmpty
 |e::es,xs=>(match xs with|x::xs=>!isStar x&&(ckE c e x&&ckEs c es xs)|[]=>false)
noncomputable def ckO (c:Ck):Option PE→Option Expr→Bool
 |none,x=>x.isNone
 |some e,x=>oneO x fun x=>ckE c e x
noncomputable def ckC (c:Ck):Option PE→List Expr→Bool
 |none,xs=>xs.isEmpty
 |some e,xs=>one xs fun x=>ckE c e x
noncomputable def ckIt (c:Ck):PIt→Expr→Bool
 |.seq e,x=>ckE c e x
 |.range1 a,x=>xNamed x "range" fun xs=>one xs fun y=>c.glob "range"&&ckE c a y
 |.range2 a b,x=>xNamed x "range" fun xs=>two xs fun y z=>c.glob "range"&&(ckE c a y&&ckE c b z)
 |.range3 a b d,x=>xNamed x "range" fun xs=>three xs fun y z w=>c.glob "range"&&(ckE c a y&&(ckE c b z&&ckE c d w))
 |.enum ..,_=>false
end
structure Amb where
 prog:Program
 w:World
 B:Heap
 mg:Str→Option Value
 mb:Str→Option Value
 P:Tab
 K:List (Addr × Obj):=[]
 res:List Addr:=[]
abbrev Amb.M (am:Amb):Model:=model am.prog am.w
mutual
noncomputable def VR (am:Amb) (π:List Addr) (h:Heap):V→Value→Prop
 |.undef,_=>False
 |.none,x=>x=.none
 |.bool b,x=>x=.bool b
 |.int i,x=>∃ t,x=.int i t
 |.str s,x=>∃ t,x=.str (Str.ofString s) t
 |.tup vs,x=>∃ a xs,x=.ref a∧(a ∉ π∧a ∉ am.res)∧h.IsTuple a (List.toArray xs)∧vs.length≤1000000∧VRs am π h vs xs
 |.lst vs,x=>∃ a xs,x=.ref a∧(a ∉ π∧a ∉ am.res)∧h.IsList a (List.toArray xs)∧vs.length≤1000000∧VRs am π h vs xs
 |.ref i,x=>∃ a,x=.ref a∧π[i]?=some a
 |.exc _,_=>False
 |.dct,x=>∃ a o es ep,x=.ref a∧(a ∉ π∧a ∉ am.res)∧h.get? a=some o∧o.cls=.type "dict"∧o.data=.dict es ep
noncomputable def VRs (am:Amb) (π:List Addr) (h:Heap):List V→List Value→Prop
 |[],xs=>xs=[]
 |v::vs,xs=>∃ x xs',xs=x::xs'∧VR am π h v x∧VRs am π h vs xs'
end
theorem VRs.len {am:Amb}{π:List Addr}{h:Heap}:∀ {vs:List V}{xs:List Value},VRs am π h vs xs→xs.length=vs.length
 |[],xs,e=>by simp only[VRs] at e;simp[e]
 |v::vs,xs,e=>by
  simp only[VRs] at e;obtain⟨x,xs',rfl,_,r⟩:=e;simp[VRs.len r]
theorem VRs.get {am:Amb}{π:List Addr}{h:Heap}:∀ {vs:List V}{xs:List Value},VRs am π h vs xs→∀ (i:Nat) (v:V),vs[i]?=some v→∃ x,xs[i]?=some x∧VR am π h v x
 |[],_,_,i,v,hv=>by simp at hv
 |v::vs,xs,e,i,w,hw=>by
  simp only[VRs] at e;obtain⟨x,xs',rfl,hx,r⟩:=e
  cases i with
  |zero=>simp only[List.getElem?_cons_zero,Option.some.injEq] at hw ⊢;subst hw;exact⟨x,rfl,hx⟩
  |succ i=>simp only[List.getElem?_cons_succ] at hw ⊢;exact VRs.get r i w hw
theorem VRs.append {am:Amb}{π:List Addr}{h:Heap}:∀ {vs ws:List V}{xs ys:List Value},VRs am π h vs xs→VRs am π h ws ys→VRs am π h (vs++ws) (xs++ys)
 |[],ws,xs,ys,e,r=>by simp only[VRs] at e;subst e;exact r
 |v::vs,ws,xs,ys,e,r=>by
  simp only[VRs] at e;obtain⟨x,xs',rfl,hx,e⟩:=e;simp only[List.cons_append,VRs];exact⟨x,xs'++ys,rfl,hx,VRs.append e r⟩
theorem VRs.single {am:Amb}{π:List Addr}{h:Heap}{v:V}{x:Value}(e:VR am π h v x):VRs am π h [v] [x]:=by
 simp only[VRs];exact⟨x,[],rfl,e,rfl⟩
theorem VRs.take {am:Amb}{π:List Addr}{h:Heap}:∀ {vs:List V}{xs:List Value}(n:Nat),VRs am π h vs xs→VRs am π h (vs.take n) (xs.take n)
 |[],xs,n,e=>by simp only[VRs] at e;subst e;simp[VRs]
 |v::vs,xs,n,e=>by
  simp only[VRs] at e;obtain⟨x,xs',rfl,hx,e⟩:=e
  cases n with
  |zero=>simp[VRs]
  |succ n=>simp only[List.take_succ_cons,VRs];exact⟨x,xs'.take n,rfl,hx,VRs.take n e⟩
theorem VRs.drop {am:Amb}{π:List Addr}{h:Heap}:∀ {vs:List V}{xs:List Value}(n:Nat),VRs am π h vs xs→VRs am π h (vs.drop n) (xs.drop n)
 |[],xs,n,e=>by simp only[VRs] at e;subst e;simp[VRs]
 |v::vs,xs,n,e=>by
  have e0:=e;simp only[VRs] at e;obtain⟨x,xs',rfl,hx,e⟩:=e
  cases n with
  |zero=>exact e0
  |succ n=>simp only[List.drop_succ_cons];exact VRs.drop n e
theorem VRs.reverse {am:Amb}{π:List Addr}{h:Heap}:∀ {vs:List V}{xs:List Value},VRs am π h vs xs→VRs am π h vs.reverse xs.reverse
 |[],xs,e=>by simp only[VRs] at e;subst e;simp[VRs]
 |v::vs,xs,e=>by
  simp only[VRs] at e;obtain⟨x,xs',rfl,hx,e⟩:=e;rw[List.reverse_cons,List.reverse_cons];exact VRs.append (VRs.reverse e) (VRs.single hx)
theorem VRs.flatten {am:Amb}{π:List Addr}{h:Heap}{vs:List V}{xs:List Value}(e:VRs am π h vs xs):∀ n:Nat,VRs am π h (List.replicate n vs).flatten (List.replicate n xs).flatten
 |0=>by simp[VRs]
 |n+1=>by rw[List.replicate_succ,List.replicate_succ,List.flatten_cons,List.flatten_cons];exact VRs.append e (VRs.flatten e n)
theorem VRs.set {am:Amb}{π:List Addr}{h:Heap}:∀ {vs:List V}{xs:List Value}(i:Nat){v:V}{x:Value},VRs am π h vs xs→VR am π h v x→VRs am π h (vs.set i v) (xs.set i x)
 |[],xs,i,v,x,e,_=>by simp only[VRs] at e;subst e;simp[VRs]
 |w::vs,xs,i,v,x,e,hv=>by
  simp only[VRs] at e;obtain⟨y,xs',rfl,hy,e⟩:=e
  cases i with
  |zero=>simp only[List.set_cons_zero,VRs];exact⟨x,xs',rfl,hv,e⟩
  |succ i=>simp only[List.set_cons_succ,VRs];exact⟨y,xs'.set i x,rfl,hy,VRs.set i e hv⟩
theorem VRs.eraseIdx {am:Amb}{π:List Addr}{h:Heap}:∀ {vs:List V}{xs:List Value}(i:Nat),VRs am π h vs xs→VRs am π h (vs.eraseIdx i) (xs.eraseIdx i)
 |[],xs,i,e=>by simp only[VRs] at e;subst e;simp[VRs]
 |w::vs,xs,i,e=>by
  simp only[VRs] at e;obtain⟨y,xs',rfl,hy,e⟩:=e
  cases i with
  |zero=>simpa using e
  |succ i=>simp only[List.eraseIdx_cons_succ,VRs];exact⟨y,xs'.eraseIdx i,rfl,hy,VRs.eraseIdx i e⟩
structure Ext (π Fs:List Addr) (h h':Heap):Prop where
 keep:∀ a o,h.get? a=some o→a ∉ π→a ∉ Fs→h'.get? a=some o
 slots:∀ a o,h.get? a=some o→a ∉ π→∃ sl,h'.get? a=some { o with slots:=sl }
 alive:∀ a o,h.get? a=some o→∃ o',h'.get? a=some o'
theorem Ext.refl (π Fs:List Addr) (h:Heap):Ext π Fs h h :=
 ⟨fun z_ z_ e z_ z_=>e,fun z_ o e z_=>⟨o.slots,e⟩,fun z_ o e=>⟨o,e⟩⟩
theorem Ext.of_keeps {π Fs:List Addr}{h h':Heap}(k:∀ b o,h.get? b=some o→h'.get? b=some o):Ext π Fs h h' :=
 ⟨fun a o e z_ z_=>k a o e,fun a o e z_=>⟨o.slots,k a o e⟩,fun a o e=>⟨o,k a o e⟩⟩
theorem Ext.push (π Fs:List Addr) (h:Heap) (o:Obj):Ext π Fs h (h.push o) :=
 Ext.of_keeps fun z_ z_ e=>Heap.get?_push_of_some _ e
theorem Ext.list {π Fs:List Addr}{h h':Heap}(x:Ext π Fs h h'){a:Addr}{xs:Array Value}(hl:h.IsList a xs) (ha:a ∉ π):h'.IsList a xs:=by
 obtain⟨o,ho,hc,n,hd⟩:=hl;obtain⟨sl,hs⟩:=x.slots a o ho ha;exact⟨_,hs,hc,n,hd⟩
theorem Ext.tuple {π Fs:List Addr}{h h':Heap}(x:Ext π Fs h h'){a:Addr}{xs:Array Value}(hl:h.IsTuple a xs) (ha:a ∉ π):h'.IsTuple a xs:=by
 obtain⟨o,ho,hc,n,hd⟩:=hl;obtain⟨sl,hs⟩:=x.slots a o ho ha;exact⟨_,hs,hc,n,hd⟩
structure Step (Fs:List Addr) (π:List Addr) (s:Shared) (π':List Addr) (s':Shared):Prop where
 same:∃ h' tk,s'={ s with heap:=h',toks:=tk }
 ext:Ext π Fs s.heap s'.heap
 grow:∃ δ,π'=π++δ∧∀ a∈δ,s.heap.get? a=none
theorem Step.refl (Fs π:List Addr) (s:Shared):Step Fs π s π s:=⟨⟨s.heap,s.toks,rfl⟩,.refl ..,[],by simp,by simp⟩
theorem Step.notin {Fs π π':List Addr}{s s':Shared}(x:Step Fs π s π' s'){a:Addr}{o:Obj}(ho:s.heap.get? a=some o) (ha:a ∉ π):a ∉ π':=by
 obtain⟨δ,rfl,hδ⟩:=x.grow;intro hm
 rcases List.mem_append.mp hm with h1|h1
 ·exact ha h1
 ·have:=hδ a h1;rw[ho] at this;cases this
theorem Step.trans {Fs π₀ π₁ π₂:List Addr}{s₀ s₁ s₂:Shared}(x:Step Fs π₀ s₀ π₁ s₁) (y:Step Fs π₁ s₁ π₂ s₂):Step Fs π₀ s₀ π₂ s₂:=by
 refine⟨?_,⟨fun a o e h1 h2=>?_,fun a o e h1=>?_,fun a o e=>?_⟩,?_⟩
 ·obtain⟨h',tk,rfl⟩:=x.same
  obtain⟨h'',tk',rfl⟩:=y.same;exact⟨h'',tk',rfl⟩
 ·exact y.ext.keep a o (x.ext.keep a o e h1 h2) (x.notin e h1) h2
 ·obtain⟨sl,h3⟩:=x.ext.slots a o e h1
  obtain⟨sl',h4⟩:=y.ext.slots a _ h3 (x.notin e h1);exact⟨sl',h4⟩
 ·obtain⟨o',h3⟩:=x.ext.alive a o e
  exact y.ext.alive a o' h3
 ·obtain⟨δ,rfl,hδ⟩:=x.grow
  obtain⟨δ',rfl,hδ'⟩:=y.grow;refine⟨δ++δ',by simp,fun a ha=>?_⟩
  rcases List.mem_append.mp ha with h1|h1
  ·exact hδ a h1
  ·cases hq:s₀.heap.get? a with
   |none=>rfl
   |some o =>
    obtain⟨o',h3⟩:=x.ext.alive a o hq;have:=hδ' a h1;rw[h3] at this;cases this
theorem Step.keeps {Fs π:List Addr}{s:Shared}{h':Heap}{tk:Nat}(k:∀ b o,s.heap.get? b=some o→h'.get? b=some o):Step Fs π s π { s with heap:=h',toks:=tk } :=
 ⟨⟨h',tk,rfl⟩,.of_keeps k,[],by simp,by simp⟩
theorem Step.tok {Fs π:List Addr}{s:Shared}(tk:Nat):Step Fs π s π { s with toks:=tk }:=Step.keeps fun z_ z_ e=>e
noncomputable def Via (am am':Amb) (π π':List Addr) (h h':Heap):Prop :=
 (∀ a o,h.get? a=some o→(∀ us,o.data≠.fields us)→a ∉ π→a ∉ am.res→(∃ sl,h'.get? a=some { o with slots:=sl })∧a ∉ π'∧a ∉ am'.res)∧∀ (i:Nat) (a:Addr),π[i]?=some a→π'[i]?=some a
mutual
theorem VR.via {am am':Amb}{π π':List Addr}{h h':Heap}(k:Via am am' π π' h h'):∀ {v:V}{y:Value},VR am π h v y→VR am' π' h' v y
 |.undef,_,e=>e
 |.none,_,e=>e
 |.bool _,_,e=>e
 |.int _,_,e=>e
 |.str _,_,e=>e
 |.exc _,_,e=>e
 |.ref i,y,⟨a,h1,h2⟩=>⟨a,h1,k.2 i a h2⟩
 |.tup vs,y,⟨a,xs,h1,ha,⟨o,ho,hc,n,hd⟩,hz,e⟩ =>
  have q:=k.1 a o ho (fun us z=>by rw[hd] at z;cases z) ha.1 ha.2
  have⟨sl,hs⟩:=q.1
  ⟨a,xs,h1,q.2,⟨_,hs,hc,n,hd⟩,hz,VRs.via k e⟩
 |.lst vs,y,⟨a,xs,h1,ha,⟨o,ho,hc,n,hd⟩,hz,e⟩ =>
  have q:=k.1 a o ho (fun us z=>by rw[hd] at z;cases z) ha.1 ha.2
  have⟨sl,hs⟩:=q.1
  ⟨a,xs,h1,q.2,⟨_,hs,hc,n,hd⟩,hz,VRs.via k e⟩
 |.dct,y,⟨a,o,es,ep,h1,ha,ho,hc,hd⟩ =>
  have q:=k.1 a o ho (fun us z=>by rw[hd] at z;cases z) ha.1 ha.2
  have⟨sl,hs⟩:=q.1
  ⟨a,_,es,ep,h1,q.2,hs,hc,hd⟩
theorem VRs.via {am am':Amb}{π π':List Addr}{h h':Heap}(k:Via am am' π π' h h'):∀ {vs:List V}{ys:List Value},VRs am π h vs ys→VRs am' π' h' vs ys
 |[],_,e=>e
 |v::vs,ys,⟨y,ys',h1,h2,h3⟩=>⟨y,ys',h1,VR.via k h2,VRs.via k h3⟩
end
theorem Step.via {am:Amb}{Fs π π':List Addr}{s s':Shared}(x:Step Fs π s π' s'):Via am am π π' s.heap s'.heap :=
 ⟨fun a o ho z_ h1 h2=>⟨x.ext.slots a o ho h1,x.notin ho h1,h2⟩,fun i a ha=>by
  obtain⟨δ,rfl,_⟩:=x.grow;rw[List.getElem?_append_left (List.getElem?_eq_some_iff.mp ha).1];exact ha⟩
theorem VR.step {am:Amb}{Fs π π':List Addr}{s s':Shared}(x:Step Fs π s π' s'){v:V}{y:Value}(e:VR am π s.heap v y):VR am π' s'.heap v y:=e.via x.via
theorem VRs.step {am:Amb}{Fs π π':List Addr}{s s':Shared}(x:Step Fs π s π' s'){vs:List V}{ys:List Value}(e:VRs am π s.heap vs ys):VRs am π' s'.heap vs ys:=e.via x.via
noncomputable def PL (h:Heap) (a:Addr) (xs:List Value):Prop:=∃ o n,h.get? a=some o∧o.cls=.type "list"∧o.dict=none∧o.data=.seq (List.toArray xs) n
theorem PL.is {h:Heap}{a:Addr}{xs:List Value}(x:PL h a xs):h.IsList a (List.toArray xs):=let ⟨o,n,ho,hc,_,hd⟩:=x;⟨o,ho,hc,n,hd⟩
noncomputable def Cell.vals:Cell→List V
 |.list vs=>vs
 |.dict es=>es.flatMap fun e=>[e.1,e.2]
noncomputable def hashV (k:V):Int:=match keyT k with
 |some is=>reduceHash (Builtin.Tuple.tupleHashOf (is.map hashInt))
 |none=>0
noncomputable def ents:List (V × V)→List Value→List DictEntry
 |(k,_)::es,x::y::xs=>⟨hashV k,x,y⟩::ents es xs
 |_,_=>[]
noncomputable def dgood (es:List (V × V)):Prop:=(es.map (·.1)).Nodup∧∀ e∈es,(keyT e.1).isSome=true
noncomputable def CK:Cell→Addr→Obj→List Value→Prop
 |.list _,_,o,xs=>∃ n,o.cls=.type "list"∧o.dict=none∧o.data=.seq (List.toArray xs) n
 |.dict es,a,o,xs=>a≠sysModules∧∃ arr ep,o.cls=.type "dict"∧o.dict=none∧o.data=.dict arr ep∧arr.toList=ents es xs∧dgood es∧ep=es.length
theorem CK.slots {c:Cell}{a:Addr}{o:Obj}{xs:List Value}(sl:Array (Option Value)) (x:CK c a o xs):CK c a { o with slots:=sl } xs:=by
 cases c<;>exact x
theorem CK.nf {c:Cell}{a:Addr}{o:Obj}{xs:List Value}(x:CK c a o xs):∀ us,o.data≠.fields us:=fun us q=>by
 cases c with
 |list vs=>obtain⟨n,_,_,hd⟩:=x;rw[hd] at q;cases q
 |dict es=>obtain⟨_,arr,ep,_,_,hd,_⟩:=x;rw[hd] at q;cases q
noncomputable def CellAt (am:Amb) (π:List Addr) (h:Heap) (c:Cell) (a:Addr):Prop:=∃ o xs,h.get? a=some o∧CK c a o xs∧c.vals.length≤1000000∧VRs am π h c.vals xs
theorem CellAt.list {am:Amb}{π:List Addr}{h:Heap}{vs:List V}{a:Addr}(x:CellAt am π h (.list vs) a):∃ xs,PL h a xs∧vs.length≤1000000∧VRs am π h vs xs:=by
 obtain⟨o,xs,ho,⟨n,r⟩,h2,h3⟩:=x;exact⟨xs,⟨o,n,ho,r⟩,h2,h3⟩
theorem CellAt.ofList {am:Amb}{π:List Addr}{h:Heap}{vs:List V}{a:Addr}{xs:List Value}(x:PL h a xs) (h2:vs.length≤1000000) (h3:VRs am π h vs xs):CellAt am π h (.list vs) a:=by
 obtain⟨o,n,ho,r⟩:=x;exact⟨o,xs,ho,⟨n,r⟩,h2,h3⟩
theorem CellAt.obj {am:Amb}{π:List Addr}{h:Heap}{c:Cell}{a:Addr}(x:CellAt am π h c a):∃ o,h.get? a=some o∧∀ us,o.data≠.fields us:=by
 obtain⟨o,xs,ho,hk,_⟩:=x;exact⟨o,ho,hk.nf⟩
theorem CellAt.via {am am':Amb}{π π':List Addr}{h h':Heap}(k:Via am am' π π' h h'){c:Cell}{a:Addr}(ka:∀ o,h.get? a=some o→(∀ us,o.data≠.fields us)→∃ sl,h'.get? a=some { o with slots:=sl }) (x:CellAt am π h c a):CellAt am' π' h' c a:=by
 obtain⟨o,xs,ho,hk,h2,h3⟩:=x;obtain⟨sl,hs⟩:=ka o ho hk.nf;exact⟨_,xs,hs,hk.slots sl,h2,h3.via k⟩
structure HR (am:Amb) (stack:List Env) (π:List Addr) (H:H) (h:Heap):Prop where
 base:am.B.StaysIn h
 frames:h.FunFrames am.B stack
 len:π.length=H.length
 nodup:π.Nodup
 res:∀ a∈am.res,∃ o,h.get? a=some o∧∀ us,o.data≠.fields us
 off:∀ a∈π,am.B.get? a=none∧a ∉ stack.filterMap (·.frame)
 cell:∀ (i:Nat) (c:Cell) (a:Addr),H[i]?=some c→π[i]?=some a→CellAt am π h c a
end Mine
namespace Mine
open PySem PySem.W
abbrev Fs (stack:List Env):List Addr:=stack.filterMap (·.frame)
theorem zbj {base B:Heap}(k:base.StaysIn B){b:Addr}(e:B.get? b=none):base.get? b=none:=by
 cases q:base.get? b with
 |none=>rfl
 |some o=>have:=k b o q;rw[e] at this;cases this
theorem zem {h h' base:Heap}(k:h.UpToSlots h'){l:List Env}(x:h.FunFrames base l):h'.FunFrames base l :=
 x.of_keeps fun b o ho hn=>let ⟨_,e⟩:=k b o ho hn;⟨_,e,rfl⟩
theorem zf9 {M:Model}{A:Around}{α:Type}{t:Sem α}{Q:α→Shared→Prop}{E:Value→Shared→Prop}{s:Shared}(h:∀ (Q':α→Shared→Prop) (E':Value→Shared→Prop),(∀ a s,Q a s→Q' a s)→(∀ y s,E y s→E' y s)→wpAny M A t Q' E' s):wpAny M A t Q E s:=h Q E (fun z_ z_ h=>h) fun z_ z_ h=>h
inductive OkP (am:Amb) (stack:List Env){α β:Type}(Rel:List Addr→Heap→β→α→Prop) (π:List Addr) (s:Shared) (r:R β) (a:α) (s':Shared):Prop
 |mk (b:β) (H':H) (π':List Addr) (h1:r=.ok b H') (h2:Step (Fs stack) π s π' s') (h3:HR am stack π' H' s'.heap) (h4:Rel π' s'.heap b a)
noncomputable def ErP (am:Amb) (stack:List Env){β:Type}(π:List Addr) (s:Shared) (r:R β) (x:Value) (s':Shared):Prop:=False
noncomputable def JAt (am:Amb) (stack:List Env) (A:Around){α β:Type}(m:Sem α) (r:R β) (Rel:List Addr→Heap→β→α→Prop) (π:List Addr) (s:Shared):Prop :=
 r=.bad∨wpAny am.M A m (OkP am stack Rel π s r) (ErP am stack π s r) s
theorem OkP.step {am:Amb}{stack:List Env}{α β:Type}{Rel:List Addr→Heap→β→α→Prop}{π π₁:List Addr}{s s₁:Shared}{r:R β}{a:α}{s':Shared}
  (x:Step (Fs stack) π s π₁ s₁) (y:OkP am stack Rel π₁ s₁ r a s'):OkP am stack Rel π s r a s':=by
 refine hold fun z_ k_=>?_;obtain⟨b,H',π',h1,h2,h3,h4⟩:=y;refine k_ ?_;exact⟨b,H',π',h1,x.trans h2,h3,h4⟩
theorem ErP.step {am:Amb}{stack:List Env}{β:Type}{π π₁:List Addr}{s s₁:Shared}{r:R β}{a:Value}{s':Shared}
  (_:Step (Fs stack) π s π₁ s₁) (y:ErP am stack π₁ s₁ r a s'):ErP am stack π s r a s':=y
section
variable {am:Amb}{stack:List Env}{A:Around}{α β γ δ:Type}{Rel:List Addr→Heap→β→α→Prop}{Rel':List Addr→Heap→δ→γ→Prop}{π:List Addr}{s:Shared}
theorem JAt.seqP {m:Sem α}{t:Sem γ}{f:α→Sem γ}{r:R β}{g:β→H→R δ}{P:α→Shared→Prop}
  (K:∀ (Q:γ→Shared→Prop) (E:Value→Shared→Prop),wpAny am.M A m (fun a s₁=>P a s₁∧wpAny am.M A (f a) Q E s₁) E s→wpAny am.M A t Q E s) (h1:JAt am stack A m r Rel π s)
  (h2:∀ a b H' π' s',r=.ok b H'→Step (Fs stack) π s π' s'→HR am stack π' H' s'.heap→Rel π' s'.heap b a→P a s'∧JAt am stack A (f a) (g b H') Rel' π' s') :
  JAt am stack A t (r.bind g) Rel' π s:=by
 by_cases hb:r.bind g=.bad
 ·exact .inl hb
 rcases h1 with rfl|h1
 ·exact absurd rfl hb
 refine .inr (K _ _ (wpAny_mono h1 (fun a s' h=>?_) fun z_ z_ h=>False.elim h));refine hold fun z_ k_=>?_;obtain⟨b,H',π',h,h3,h4,h5⟩:=h;refine k_ ?_;subst h;have h2:=h2 a b H' π' s' rfl h3 h4 h5;exact⟨h2.1,wpAny_mono (h2.2.resolve_left hb) (fun z_ z_ y=>OkP.step h3 y) fun z_ z_ y=>y⟩
theorem JAt.bind {m:Sem α}{f:α→Sem γ}{r:R β}{g:β→H→R δ}(h1:JAt am stack A m r Rel π s)
  (h2:∀ a b H' π' s',r=.ok b H'→Step (Fs stack) π s π' s'→HR am stack π' H' s'.heap→Rel π' s'.heap b a→JAt am stack A (f a) (g b H') Rel' π' s') :
  JAt am stack A (m >>= f) (r.bind g) Rel' π s :=
 JAt.seqP (P:=fun z_ z_=>True) (fun Q E h=>wpAny_bind (wpAny_mono h (fun z_ z_ x=>x.2) fun z_ z_ x=>x)) h1 fun a b H' π' s' e1 e2 e3 e4=>⟨trivial,h2 a b H' π' s' e1 e2 e3 e4⟩
theorem JAt.mono {m:Sem α}{r:R β}{Rel₂:List Addr→Heap→β→α→Prop}(h:JAt am stack A m r Rel π s) (k:∀ π h b a,Rel π h b a→Rel₂ π h b a):JAt am stack A m r Rel₂ π s:=by
 rcases h with h|h
 ·exact .inl h
 ·exact .inr (wpAny_mono h (fun a s' ⟨b,H',π',h1,h2,h3,h4⟩=>⟨b,H',π',h1,h2,h3,k _ _ _ _ h4⟩) fun z_ z_ y=>y)
theorem JAt.pure {a:α}{b:β}{Hc:H}(hr:HR am stack π Hc s.heap) (h:Rel π s.heap b a):JAt am stack A (pure a:Sem α) (.ok b Hc) Rel π s :=
 .inr (wpAny_pure ⟨b,Hc,π,rfl,.refl ..,hr,h⟩)
theorem JAt.bad {m:Sem α}:JAt am stack A m (.bad:R β) Rel π s:=.inl rfl
theorem JAt.congr {m m':Sem α}{r r':R β}(e:m=m') (er:r=r') (h:JAt am stack A m' r' Rel π s):JAt am stack A m r Rel π s:=by subst e er;exact h
theorem JAt.holding {vs:List Value}{m:Sem α}{r:R β}(h:JAt am stack A m r Rel π s):JAt am stack A (PySem.holding vs m) r Rel π s:=by
 rcases h with h|h
 ·exact .inl h
 ·exact .inr (wpAny_holding h)
theorem JAt.standAt {pos:Pos}{f:Unit→Sem α}{r:R β}(h:JAt am stack A (f ()) r Rel π s):JAt am stack A (PySem.standAt pos >>= f) r Rel π s:=by
 rcases h with h|h
 ·exact .inl h
 ·exact .inr (wpAny_bind (wpAny_standAt h))
theorem JAt.of_wp {m:Sem α}{r:R β}(h:wpAny am.M A m (OkP am stack Rel π s r) (ErP am stack π s r) s):JAt am stack A m r Rel π s:=.inr h
theorem JAt.rule {m m':Sem α}{r:R β}(k:∀ (Q:α→Shared→Prop) (E:Value→Shared→Prop),wpAny am.M A m' Q E s→wpAny am.M A m Q E s) (h:JAt am stack A m' r Rel π s):JAt am stack A m r Rel π s:=by
 rcases h with h|h
 ·exact .inl h
 ·exact .inr (k _ _ h)
end
theorem zeV {M:Model}{A:Around}{vs keep:List Value}{Q:Unit→Shared→Prop}{E:Value→Shared→Prop}{s:Shared}(h:Q () s):wpAny M A (release vs keep) Q E s :=
 fun Γ p z_=>by
  unfold release;rw[Sem.wp_release_go];exact h
theorem zdf {M:Model}{A:Around}{vs:List Value}{m:Sem Value}{Q:Value→Shared→Prop}{E:Value→Shared→Prop}{s:Shared}(h:wpAny M A m Q E s):wpAny M A (operate vs m) Q E s:=by
 unfold operate;exact wpAny_bind (wpAny_holding (wpAny_mono h (fun r s' hr=>wpAny_bind (zeV (wpAny_pure hr))) fun z_ z_ y=>y))
theorem JAt.operate {am:Amb}{stack:List Env}{A:Around}{β:Type}{Rel:List Addr→Heap→β→Value→Prop}{π:List Addr}{s:Shared}{vs:List Value}{m:Sem Value}{r:R β}(h:JAt am stack A m r Rel π s):JAt am stack A (PySem.operate vs m) r Rel π s :=
 h.rule fun z_ z_ x=>zdf x
structure Cx where
 env:Env
 stack:List Env
 ctx:List (Str × Nat)
noncomputable def Vis (env:Env) (x:Str):Prop:=env.kindOf x=some .local∨env.kindOf x=some .cell∨env.kindOf x=some .free
noncomputable def VarAt (h:Heap) (env:Env) (x:Str) (v:Value):Prop :=
 (env.kindOf x=some .local∧∃ m,h.Ns env.locals m∧m x=some v) ∨
 ((env.kindOf x=some .cell∨env.kindOf x=some .free)∧∃ c,env.cells.lookup x=some c∧h.IsCell c (some v))
abbrev SR (am:Amb) (π:List Addr) (h:Heap) (v:V) (x:Value):Prop:=VR am π h v x
structure ER (am:Amb) (cx:Cx) (ρ:List V) (π:List Addr) (h:Heap):Prop where
 ns:∃ m,h.Ns cx.env.locals m
 locOff:cx.env.locals ∉ π
 cellOff:∀ x c,cx.env.cells.lookup x=some c→c ∉ π∧c≠cx.env.locals∧∃ v,h.IsCell c v
 apart:∀ x y c,cx.env.cells.lookup x=some c→cx.env.cells.lookup y=some c→x=y
 var:∀ x i v,cx.ctx.lookup x=some i→ρ[i]?=some v→v≠.undef→Vis cx.env x→∃ v',VarAt h cx.env x v'∧SR am π h v v'
theorem Ext.ns {π Fs:List Addr}{h h':Heap}(x:Ext π Fs h h'){a:Addr}{m:Str→Option Value}(hn:h.Ns a m) (ha:a ∉ π):h'.Ns a m:=by
 refine hold fun z_ k_=>?_;obtain⟨o,es,ep,ho,hd,r⟩:=hn;refine k_ ?_;obtain⟨sl,hs⟩:=x.slots a o ho ha;exact⟨_,es,ep,hs,hd,r⟩
theorem Ext.cell {π Fs:List Addr}{h h':Heap}(x:Ext π Fs h h'){a:Addr}{v:Option Value}(hn:h.IsCell a v) (ha:a ∉ π):h'.IsCell a v:=by
 obtain⟨o,ho,hd⟩:=hn;obtain⟨sl,hs⟩:=x.slots a o ho ha;exact⟨_,hs,hd⟩
theorem Heap.Ns.exist {h:Heap}{a:Addr}{m:Str→Option Value}(hn:h.Ns a m):∃ o,h.get? a=some o:=let ⟨o,_,_,ho,_⟩:=hn;⟨o,ho⟩
theorem Heap.IsCell.exist {h:Heap}{a:Addr}{v:Option Value}(hn:h.IsCell a v):∃ o,h.get? a=some o:=let ⟨o,ho,_⟩:=hn;⟨o,ho⟩
theorem SR.step {am:Amb}{Fs π π':List Addr}{s s':Shared}(x:Step Fs π s π' s'){v:V}{y:Value}(e:SR am π s.heap v y):SR am π' s'.heap v y:=VR.step x e
theorem ER.step {am:Amb}{cx:Cx}{ρ:List V}{Fs π π':List Addr}{s s':Shared}(x:Step Fs π s π' s') (e:ER am cx ρ π s.heap):ER am cx ρ π' s'.heap:=by
 obtain⟨m,hm⟩:=e.ns;obtain⟨o,ho⟩:=Heap.Ns.exist hm;refine⟨⟨m,x.ext.ns hm e.locOff⟩,x.notin ho e.locOff,fun y c hc=>?_,e.apart,fun y i v h1 h2 h3 h4=>?_⟩
 ·refine hold fun z_ k_=>?_
  obtain⟨h1,h2,v,h3⟩:=e.cellOff y c hc;refine k_ ?_;obtain⟨o,ho⟩:=Heap.IsCell.exist h3;exact⟨x.notin ho h1,h2,v,x.ext.cell h3 h1⟩
 ·obtain⟨v',h5,h6⟩:=e.var y i v h1 h2 h3 h4
  refine⟨v',?_,h6.step x⟩
  rcases h5 with⟨k,m',h7,h8⟩|⟨k,c,h7,h8⟩
  ·exact .inl ⟨k,m',x.ext.ns h7 e.locOff,h8⟩
  ·exact .inr ⟨k,c,h7,x.ext.cell h8 (e.cellOff y c h7).1⟩
noncomputable def Hd (q:Bool) (A:Around) (π Fs:List Addr) (h:Heap):Prop:=A.handled=none
theorem Hd.step {q:Bool}{A:Around}{Fs π π':List Addr}{s s':Shared}(_:Step Fs π s π' s') (e:Hd q A π Fs s.heap):Hd q A π' Fs s'.heap:=e
structure AS (n:Nat) (stack:List Env) (A:Around):Prop where
 frames:A.frames=some stack
 depth:A.depth+n < 800
 units:A.units+10 * n < 9000
theorem AS.dk {n:Nat}{stack:List Env}{A:Around}(as:AS n stack A){k:Nat}(hk:k≤200):A.depth+k < 1000:=Nat.lt_of_le_of_lt (Nat.add_le_add_right (Nat.le_add_right _ n) k) (Nat.lt_of_lt_of_le (Nat.add_lt_add_right as.depth k) (Nat.add_le_add_left hk 800))
theorem AS.uk {n:Nat}{stack:List Env}{A:Around}(as:AS n stack A){k:Nat}(hk:k≤900):A.units+k < 9900:=Nat.lt_of_le_of_lt (Nat.add_le_add_right (Nat.le_add_right _ (10 * n)) k) (Nat.lt_of_lt_of_le (Nat.add_lt_add_right as.units k) (Nat.add_le_add_left hk 9000))
theorem zkP {i n:Nat}(h:i < n+1) (h':¬ i < n):i=n:=Nat.le_antisymm (Nat.le_of_lt_succ h) (Nat.le_of_not_lt h')
structure St (am:Amb) (q:Bool) (cx:Cx) (ρ:List V) (π:List Addr) (Hc:H) (A:Around) (s:Shared):Prop where
 hr:HR am cx.stack π Hc s.heap
 er:ER am cx ρ π s.heap
 hd:Hd q A π (Fs cx.stack) s.heap
theorem St.step {am:Amb}{q:Bool}{cx:Cx}{ρ:List V}{π π':List Addr}{Hc H':H}{A:Around}{s s':Shared}(x:St am q cx ρ π Hc A s) (y:Step (Fs cx.stack) π s π' s') (hr:HR am cx.stack π' H' s'.heap):St am q cx ρ π' H' A s' :=
 ⟨hr,x.er.step y,x.hd.step y⟩
structure AmbOK (am:Amb):Prop where
 g:am.B.Ns mainGlobals am.mg
 b:am.B.Ns builtinsNs am.mb
 nolimit:am.B.NoLimit
 noseer:am.B.NoSeer
 tree:am.prog.given.tree=none
structure TopEnv (e₀:Env):Prop where
 gen:e₀.scope.isGenerator=false
 co:e₀.scope.isCoroutine=false
 globals:e₀.globals=mainGlobals
 builtins:e₀.builtins=builtinsNs
noncomputable def zf2 (stack:List Env):Prop:=∃ e₀ outer,stack=e₀::outer∧TopEnv e₀
structure CxOK (cx:Cx):Prop where
 clos:∀ x,cx.env.kindOf x=some .cell∨cx.env.kindOf x=some .free→∃ c,cx.env.cells.lookup x=some c
 kind:cx.env.scope.kind=.function
 globals:cx.env.globals=mainGlobals
 builtins:cx.env.builtins=builtinsNs
 top:∃ e₀ outer,cx.stack=e₀::outer∧e₀.frame=cx.env.frame∧TopEnv e₀
theorem CxOK.stackOK {cx:Cx}(x:CxOK cx):zf2 cx.stack:=let ⟨e₀,outer,h,_,t⟩:=x.top;⟨e₀,outer,h,t⟩
end Mine
namespace Mine
open PySem PySem.W PyProof.Rows
theorem VR.keeps {am:Amb}{π:List Addr}{h h':Heap}(k:∀ b o,h.get? b=some o→h'.get? b=some o){v:V}{x:Value}(e:VR am π h v x):VR am π h' v x :=
 VR.step (Fs:=[]) (s:={ heap:=h }) (s':={ heap:=h' }) (Step.keeps (s:={ heap:=h }) (tk:=1) k) e
theorem VRs.keeps {am:Amb}{π:List Addr}{h h':Heap}(k:∀ b o,h.get? b=some o→h'.get? b=some o){v:List V}{x:List Value}(e:VRs am π h v x):VRs am π h' v x :=
 VRs.step (Fs:=[]) (s:={ heap:=h }) (s':={ heap:=h' }) (Step.keeps (s:={ heap:=h }) (tk:=1) k) e
theorem CellAt.keeps {am:Amb}{π:List Addr}{h h':Heap}(k:∀ b o,h.get? b=some o→h'.get? b=some o){c:Cell}{a:Addr}(e:CellAt am π h c a):CellAt am π h' c a:=by
 obtain⟨o,xs,ho,hk,h2,h3⟩:=e;exact⟨o,xs,k _ _ ho,hk,h2,h3.keeps k⟩
theorem HR.keeps {am:Amb}{stack:List Env}{π:List Addr}{Hc:H}{h h':Heap}(x:HR am stack π Hc h) (k:∀ b o,h.get? b=some o→h'.get? b=some o):HR am stack π Hc h' :=
 ⟨fun b o e=>k b o (x.base b o e),x.frames.of_keeps fun b o e z_=>⟨o,k b o e,rfl⟩,x.len,x.nodup,fun a ha=>let ⟨o,ho,hn⟩:=x.res a ha;⟨o,k a o ho,hn⟩,x.off,fun i c a h1 h2=>(x.cell i c a h1 h2).keeps k⟩
section
variable {am:Amb}{stack:List Env}{A:Around}{α β:Type}{Rel:List Addr→Heap→β→α→Prop}{π:List Addr}{s:Shared}{Hc:H}
theorem OkP.keeps {h':Heap}{tk:Nat}{a:α}{b:β}(hr:HR am stack π Hc s.heap) (k:∀ b o,s.heap.get? b=some o→h'.get? b=some o) (h:Rel π h' b a) :
  OkP am stack Rel π s (.ok b Hc) a { s with heap:=h',toks:=tk } :=
 ⟨b,Hc,π,rfl,.keeps k,hr.keeps k,h⟩
theorem OkP.tok {tk:Nat}{a:α}{b:β}(hr:HR am stack π Hc s.heap) (h:Rel π s.heap b a) :
  OkP am stack Rel π s (.ok b Hc) a { s with toks:=tk }:=OkP.keeps (h':=s.heap) hr (fun z_ z_ e=>e) h
theorem OkP.here {a:α}{b:β}(hr:HR am stack π Hc s.heap) (h:Rel π s.heap b a) :
  OkP am stack Rel π s (.ok b Hc) a s:=OkP.tok (tk:=s.toks) hr h
end
theorem zal {am:Amb}{stack:List Env}{π:List Addr}{Hc:H}{h:Heap}(hr:HR am stack π Hc h){l:Addr}(hl:h.get? l=none):l ∉ am.res:=fun hm=>by
 obtain⟨o,ho,_⟩:=hr.res l hm;rw[hl] at ho;cases ho
theorem zar {am:Amb}{stack:List Env}{π:List Addr}{Hc:H}{h:Heap}(hr:HR am stack π Hc h){l:Addr}(hl:h.get? l=none):l ∉ π:=by
 intro hm;obtain⟨i,hi⟩:=List.mem_iff_getElem?.mp hm;have hlt:i < Hc.length:=by rw[←hr.len];exact(List.getElem?_eq_some_iff.mp hi).1
 obtain⟨o,ho,_⟩:=(hr.cell i Hc[i] _ (List.getElem?_eq_getElem hlt) hi).obj;rw[hl] at ho;cases ho
theorem za6 {am:Amb}{stack:List Env}{π:List Addr}{Hc:H}{h:Heap}(hr:HR am stack π Hc h){l:Addr}(hl:h.get? l=none):l ∉ Fs stack:=fun hm=>by
 refine hold fun z_ k_=>?_;obtain⟨_,o,ho,_⟩:=hr.frames.mem hm;refine k_ ?_;rw[hl] at ho;cases ho
theorem zai (h:Heap):h.get? h.objs.size=none:=by
 cases q:h.get? h.objs.size with
 |none=>rfl
 |some o=>exact absurd (Heap.lt_size q) (Nat.lt_irrefl _)
noncomputable def Amb.hold (am:Amb) (l:Addr):Amb:={ am with res:=l::am.res }
theorem zmE {am:Amb}{π:List Addr}{h:Heap}{l:Addr}:Via (am.hold l) am π (π++[l]) h h :=
 ⟨fun a o ho z_ h1 h2=>⟨⟨o.slots,ho⟩,by
   simp only[Amb.hold,List.mem_cons,not_or] at h2;simp[h1,h2.1],by
   simp only[Amb.hold,List.mem_cons,not_or] at h2;exact h2.2⟩,fun i a ha=>by rw[List.getElem?_append_left (List.getElem?_eq_some_iff.mp ha).1];exact ha⟩
theorem zjt {am:Amb}{π:List Addr}{h:Heap}{l:Addr}:Via (am.hold l) am π π h h :=
 ⟨fun a o ho z_ h1 h2=>⟨⟨o.slots,ho⟩,h1,fun q=>h2 (List.mem_cons_of_mem _ q)⟩,fun z_ z_ e=>e⟩
theorem zhN {am:Amb}{π:List Addr}{h:Heap}{l:Addr}(hl:h.get? l=none):Via am (am.hold l) π π h h :=
 ⟨fun a o ho z_ h1 h2=>⟨⟨o.slots,ho⟩,h1,fun q=>by
  rcases List.mem_cons.mp q with rfl|q
  ·rw[hl] at ho;cases ho
  ·exact h2 q⟩,fun z_ z_ e=>e⟩
theorem VR.reserve {am:Amb}{π:List Addr}{h:Heap}{l:Addr}{v:V}{x:Value}(e:VR (am.hold l) π h v x):VR am (π++[l]) h v x∧VR am π h v x:=⟨e.via zmE,e.via zjt⟩
theorem VRs.reserve {am:Amb}{π:List Addr}{h:Heap}{l:Addr}{vs:List V}{xs:List Value}(e:VRs (am.hold l) π h vs xs):VRs am (π++[l]) h vs xs∧VRs am π h vs xs:=⟨e.via zmE,e.via zjt⟩
theorem VR.held {am:Amb}{π:List Addr}{h:Heap}{l:Addr}(hl:h.get? l=none){v:V}{x:Value}(e:VR am π h v x):VR (am.hold l) π h v x:=e.via (zhN hl)
theorem VRs.held {am:Amb}{π:List Addr}{h:Heap}{l:Addr}(hl:h.get? l=none){vs:List V}{xs:List Value}(e:VRs am π h vs xs):VRs (am.hold l) π h vs xs:=e.via (zhN hl)
noncomputable def NewL (am:Amb) (π:List Addr) (s:Shared) (vs:List V) (x:Value) (s':Shared):Prop :=
 ∃ l xs h' tk,x=.ref l∧s'={ s with heap:=h',toks:=tk }∧(∀ b o,s.heap.get? b=some o→h'.get? b=some o)∧s.heap.get? l=none∧PL h' l xs∧VRs (am.hold l) π h' vs xs
theorem NewL.push {am:Amb}{π:List Addr}{s:Shared}{vs:List V}{xs:List Value}{o:Obj}{n:Nat}{tk:Nat}(hv:VRs am π s.heap vs xs) (hc:o.cls=.type "list") (hdi:o.dict=none) (hd:o.data=.seq (List.toArray xs) n) :
  NewL am π s vs (.ref s.heap.objs.size) { s with heap:=s.heap.push o,toks:=tk }:=by
 have k:∀ b o',s.heap.get? b=some o'→(s.heap.push o).get? b=some o':=fun z_ z_ e=>Heap.get?_push_of_some _ e;exact⟨_,xs,_,tk,rfl,rfl,k,zai _,⟨o,n,Heap.get?_push_size _ (Obj.isFreed_of_seq hd),hc,hdi,hd⟩,(hv.held (zai _)).keeps k⟩
theorem NewL.lst {am:Amb}{stack:List Env}{π:List Addr}{s s':Shared}{Hc:H}{vs:List V}{x:Value}(hr:HR am stack π Hc s.heap) (hl:vs.length≤1000000) (n:NewL am π s vs x s') :
  OkP am stack (VR am) π s (.ok (.lst vs) Hc) x s':=by
 refine hold fun z_ k_=>?_;obtain⟨l,xs,h',tk,rfl,rfl,k,h1,h2,h3⟩:=n;refine k_ ?_;refine OkP.keeps hr k ?_;simp only[VR];exact⟨_,xs,rfl,⟨zar hr h1,zal hr h1⟩,h2.is,hl,h3.reserve.2⟩
theorem NewL.cell {am:Amb}{stack:List Env}{π:List Addr}{s s':Shared}{Hc:H}{vs:List V}{x:Value}(hr:HR am stack π Hc s.heap) (hl:vs.length≤1000000) (n:NewL am π s vs x s') :
  OkP am stack (VR am) π s (.ok (.ref Hc.length) (Hc++[.list vs])) x s':=by
 refine hold fun z_ k_=>?_;obtain⟨l,xs,h',tk,rfl,rfl,k,h1,h2,h3⟩:=n;refine k_ ?_;have hp:=zar hr h1;have st:Step (Fs stack) π s (π++[l]) { s with heap:=h',toks:=tk }:=⟨⟨h',tk,rfl⟩,.of_keeps k,[l],rfl,fun a ha=>by rw[List.mem_singleton.mp ha];exact h1⟩
 have hr':=hr.keeps k;refine⟨_,_,π++[l],rfl,st,⟨hr'.base,hr'.frames,by simp[hr.len],?_,hr'.res,?_,?_⟩,?_⟩
 ·rw[List.nodup_append]
  exact⟨hr.nodup,by simp,fun a ha b hb=>by rw[List.mem_singleton.mp hb];exact fun q=>hp (q ▸ ha)⟩
 ·intro a ha
  rcases List.mem_append.mp ha with ha|ha
  ·exact hr.off a ha
  ·rw[List.mem_singleton.mp ha];exact⟨zbj hr.base h1,za6 hr h1⟩
 ·intro i c a hi ha
  by_cases hlt:i < Hc.length
  ·rw[List.getElem?_append_left hlt] at hi
   rw[List.getElem?_append_left (by rw[hr.len];exact hlt)] at ha
   exact(hr.cell i c a hi ha).via st.via fun o e z_=>⟨o.slots,k _ _ e⟩
  ·have hi':i=Hc.length:=zkP (by have:=(List.getElem?_eq_some_iff.mp hi).1;rw[List.length_append] at this;exact this) hlt
   subst hi';simp only[List.getElem?_concat_length,Option.some.injEq] at hi;rw[←hr.len] at ha;simp only[List.getElem?_concat_length,Option.some.injEq] at ha;subst hi ha;exact .ofList h2 hl h3.reserve.1
 ·simp only[VR]
  exact⟨l,rfl,by rw[←hr.len];simp⟩
theorem OkP.lst {am:Amb}{stack:List Env}{π:List Addr}{s:Shared}{Hc:H}{vs:List V}{xs:List Value}{o:Obj}{n:Nat}{tk:Nat}(hr:HR am stack π Hc s.heap) (hv:VRs am π s.heap vs xs) (hl:vs.length≤1000000)
  (hc:o.cls=.type "list") (hdi:o.dict=none) (hd:o.data=.seq (List.toArray xs) n):OkP am stack (VR am) π s (.ok (.lst vs) Hc) (.ref s.heap.objs.size) { s with heap:=s.heap.push o,toks:=tk } :=
 (NewL.push hv hc hdi hd).lst hr hl
theorem OkP.tup {am:Amb}{stack:List Env}{π:List Addr}{s:Shared}{Hc:H}{vs:List V}{xs:List Value}{o:Obj}{n:Nat}{tk:Nat}(hr:HR am stack π Hc s.heap) (hv:VRs am π s.heap vs xs) (hl:vs.length≤1000000)
  (hc:o.cls=.type "tuple") (hd:o.data=.seq (List.toArray xs) n):OkP am stack (VR am) π s (.ok (.tup vs) Hc) (.ref s.heap.objs.size) { s with heap:=s.heap.push o,toks:=tk }:=by
 have k:∀ b o',s.heap.get? b=some o'→(s.heap.push o).get? b=some o':=fun z_ z_ e=>Heap.get?_push_of_some _ e;refine OkP.keeps hr k ?_;simp only[VR];exact⟨_,xs,rfl,⟨zar hr (zai _),zal hr (zai _)⟩,⟨o,Heap.get?_push_size _ (Obj.isFreed_of_seq hd),hc,n,hd⟩,hl,hv.keeps k⟩
set_option tactic.hygienic true in
theorem zaq {am:Amb}{stack:List Env}{π:List Addr}{Hc:H}{h:Heap}(hr:HR am stack π Hc h){v:V}{x:Value}{vs:List V}(e:VR am π h v x) (hi:litems Hc v=some vs) :
  ∃ l xs,x=.ref l∧h.IsList l (List.toArray xs)∧vs.length≤1000000∧VRs am π h vs xs:=by
 cases v with
 |lst ws =>
  simp only[litems,Option.some.injEq] at hi;subst hi;simp only[VR] at e;refine hold fun z_ k_=>?_;obtain⟨a,xs,h1,_,h3,h4,h5⟩:=e;refine k_ ?_;exact⟨a,xs,h1,h3,h4,h5⟩
 |ref i =>
  simp only[litems] at hi;simp only[VR] at e;obtain⟨a,h1,h2⟩:=e
  split at hi
  ·rename_i ws hw
   simp only[Option.some.injEq] at hi;subst hi;refine hold fun z_ k_=>?_;obtain⟨xs,h3,h4,h5⟩:=(hr.cell i _ a hw h2).list;refine k_ ?_;exact⟨a,xs,h1,h3.is,h4,h5⟩
  ·cases hi
 |_=>simp[litems] at hi
theorem zbB:(1000000:Nat)≤sizeLine:=by decide
theorem za7 {n:Nat}(h:n≤1000000):n≤sizeLine:=Nat.le_trans h zbB
theorem zdX {n:Nat}(h:n≤1000000):(n:Int) < 2 ^ 63:=Int.lt_of_le_of_lt (Int.ofNat_le.2 h) (by decide)
theorem zhR {j n:Nat}(h:j < n) (hz:n≤1000000):(j:Int) < 2 ^ 63:=zdX (Nat.le_trans (Nat.le_of_lt h) hz)
theorem zgf {k:Int}{n:Nat}(h:-(n:Int)≤k) (hz:n≤1000000):-2 ^ 63≤k:=Int.le_trans (Int.le_trans (by decide) (Int.neg_le_neg (Int.ofNat_le.2 hz))) h
section
variable {am:Amb}{stack:List Env}{A:Around}{π:List Addr}{s:Shared}{Hc:H}
theorem seer (ok:AmbOK am) (st:zf2 stack) (hf:A.frames=some stack) (hr:HR am stack π Hc s.heap):SeerAt am.M A s.heap:=by
 refine hold fun z_ k_=>?_;obtain⟨e₀,outer,rfl,t⟩:=st;refine k_ ?_;exact SeerAt.of (ok.noseer.keeps hr.base) ok.tree hf t.gen t.co t.builtins t.globals
theorem zi1 {x y:Int}{t u:Tok}(hr:HR am stack π Hc s.heap):JAt am stack A (binaryOp .Add (.int x t) (.int y u)) (.ok (V.int (x+y)) Hc) (VR am) π s :=
 .inr (add_int (OkP.tok hr ⟨_,rfl⟩))
theorem ziW {x y:Int}{t u:Tok}(hr:HR am stack π Hc s.heap):JAt am stack A (binaryOp .Sub (.int x t) (.int y u)) (.ok (V.int (x - y)) Hc) (VR am) π s :=
 .inr (sub_int' (OkP.tok hr ⟨_,rfl⟩))
set_option tactic.hygienic true in
theorem ze5 {x:Int}(h:x.natAbs < 9223372036854775808):Builtin.Int.intBits x≤64:=by
 unfold Builtin.Int.intBits
 split
 ·exact Nat.zero_le _
 ·rename_i h0
  have h1:x.natAbs≠0:=by simpa using h0
  exact Nat.le_succ_of_le ((Nat.log2_lt h1 (k:=63)).mpr (by simpa using h))
theorem ziX {x y:Int}{t u:Tok}(hr:HR am stack π Hc s.heap) (h:x.natAbs < 9223372036854775808∨y.natAbs < 9223372036854775808) :
  JAt am stack A (binaryOp .Mult (.int x t) (.int y u)) (.ok (V.int (x * y)) Hc) (VR am) π s :=
 .inr (PyProof.Rows.mul_int (OkP.tok hr ⟨_,rfl⟩) (h.elim (fun h=>.of_left (ze5 h)) fun h=>.of_right (ze5 h)))
theorem ziY {x y:Int}{t u:Tok}(hr:HR am stack π Hc s.heap) (h:y≠0) :
  JAt am stack A (binaryOp .Mod (.int x t) (.int y u)) (.ok (V.int (x.fmod y)) Hc) (VR am) π s :=
 .inr (mod_int' h (OkP.tok hr ⟨_,rfl⟩))
theorem zhe {n:Nat}{x y:Int}{t u:Tok}(ok:AmbOK am) (st:zf2 stack) (as:AS n stack A) (hr:HR am stack π Hc s.heap) (h:y≠0) :
  JAt am stack A (binaryOp .FloorDiv (.int x t) (.int y u)) (.ok (V.int (x.fdiv y)) Hc) (VR am) π s :=
 .inr (floordiv_int h (OkP.tok hr ⟨_,rfl⟩) (.inr (PylongRoom.of (ok.nolimit.keeps hr.base) (as.dk (by decide)) (seer ok st as.frames hr))))
theorem zdQ {a b:V}{x y:Value}{vs ws:List V}{Q:Value→Shared→Prop}{E:Value→Shared→Prop}(hr:HR am stack π Hc s.heap) (ha:VR am π s.heap a x) (hb:VR am π s.heap b y) (la:litems Hc a=some vs) (lb:litems Hc b=some ws) (hle:(vs++ws).length≤1000000)
  (h:∀ y s',NewL am π s (vs++ws) y s'→Q y s'):wpAny am.M A (binaryOp .Add x y) Q E s:=by
 refine hold fun z_ k_=>?_;obtain⟨l,xs,rfl,hl,h1,h2⟩:=zaq hr ha la;refine k_ ?_;refine hold fun z_ k_=>?_;obtain⟨l',ys,rfl,hl',h3,h4⟩:=zaq hr hb lb;refine k_ ?_;refine hold fun z_ k_=>?_;obtain⟨⟨cls,dd,data,sl⟩,ho,hc,n,hd⟩:=hl;refine k_ ?_;refine hold fun z_ k_=>?_;obtain⟨⟨cls2,dd2,data2,sl2⟩,ho2,hc2,n2,hd2⟩:=hl';refine k_ ?_;simp only at hc hd hc2 hd2;subst hc hd hc2 hd2;have hsz:(List.toArray xs).size+(List.toArray ys).size≤sizeLine:=by
  rw[List.length_append] at hle;rw[List.size_toArray,List.size_toArray,h2.len,h4.len];exact za7 hle
 refine concat_meets ⟨_,ho,rfl⟩ ⟨_,ho2,rfl⟩ noFill_list_add seq_list_add PySem.F.slot_list_add PySem.F.entry_list_add (PySem.F.args_list_add_2 _ _) (list_addW l l' _ _ n n2 dd dd2 sl sl2 hsz) ⟨ho,ho2,?_⟩;exact h _ _ (NewL.push (xs:=xs++ys) (n:=0) (h2.append h4) rfl rfl (by simp))
set_option tactic.hygienic true in
theorem zhf {a b:V}{x y:Value}{vs ws:List V}(hr:HR am stack π Hc s.heap) (ha:VR am π s.heap a x) (hb:VR am π s.heap b y) (la:litems Hc a=some vs) (lb:litems Hc b=some ws) :
  JAt am stack A (binaryOp .Add x y) (R.opt (mkL (vs++ws)) Hc) (VR am) π s:=by
 unfold mkL
 split
 ·rename_i hle
  exact .inr (zdQ hr ha hb la lb hle fun y s' n=>n.lst hr hle)
 ·exact .inl rfl
set_option tactic.hygienic true in
theorem zi0 {x y:Value}{vs ws:List V}(hr:HR am stack π Hc s.heap) (ha:VR am π s.heap (.tup vs) x) (hb:VR am π s.heap (.tup ws) y) :
  JAt am stack A (binaryOp .Add x y) (R.opt (mkT (vs++ws)) Hc) (VR am) π s:=by
 unfold mkT
 split
 ·rename_i hle
  simp only[VR] at ha hb;refine hold fun z_ k_=>?_;obtain⟨l,xs,rfl,hp,hl,h1,h2⟩:=ha;refine k_ ?_;refine hold fun z_ k_=>?_;obtain⟨l',ys,rfl,hp',hl',h3,h4⟩:=hb;refine k_ ?_;have hl0:=hl;have hl0':=hl';refine hold fun z_ k_=>?_;obtain⟨⟨cls,dd,data,sl⟩,ho,hc,n,hd⟩:=hl;refine k_ ?_;refine hold fun z_ k_=>?_;obtain⟨⟨cls2,dd2,data2,sl2⟩,ho2,hc2,n2,hd2⟩:=hl';refine k_ ?_;simp only at hc hd hc2 hd2;subst hc hd hc2 hd2
  have hsz:(List.toArray xs).size+(List.toArray ys).size≤sizeLine:=by
   rw[List.length_append] at hle;rw[List.size_toArray,List.size_toArray,h2.len,h4.len];exact za7 hle
  refine .inr ?_
  by_cases hv:xs=[]
  ·refine concat_meets ⟨_,ho,rfl⟩ ⟨_,ho2,rfl⟩ noFill_tuple_add seq_tuple_add PySem.F.slot_tuple_add PySem.F.entry_tuple_add (PySem.F.args_tuple_add_2 _ _)
    (tuple_addW0 l l' _ _ n n2 dd dd2 sl sl2 (by simp[hv])) ⟨ho,ho2,OkP.here hr ?_⟩
   have:vs=[]:=by have:=h2.len;rw[hv] at this;exact List.eq_nil_of_length_eq_zero this.symm
   subst this;simp only[List.nil_append,VR];exact⟨l',ys,rfl,hp',hl0',h3,h4⟩
  ·by_cases hw:ys=[]
   ·refine concat_meets ⟨_,ho,rfl⟩ ⟨_,ho2,rfl⟩ noFill_tuple_add seq_tuple_add PySem.F.slot_tuple_add PySem.F.entry_tuple_add (PySem.F.args_tuple_add_2 _ _)
     (tuple_addW1 l l' _ _ n n2 dd dd2 sl sl2 (by simpa using hv) (by simp[hw])) ⟨ho,ho2,OkP.here hr ?_⟩
    have:ws=[]:=by have:=h4.len;rw[hw] at this;exact List.eq_nil_of_length_eq_zero this.symm
    subst this;simp only[List.append_nil,VR];exact⟨l,xs,rfl,hp,hl0,h1,h2⟩
   ·refine concat_meets ⟨_,ho,rfl⟩ ⟨_,ho2,rfl⟩ noFill_tuple_add seq_tuple_add PySem.F.slot_tuple_add PySem.F.entry_tuple_add (PySem.F.args_tuple_add_2 _ _)
     (tuple_addW2 l l' _ _ n n2 dd dd2 sl sl2 (by simpa using hv) (by simpa using hw) hsz) ⟨ho,ho2,?_⟩
    exact OkP.tup (xs:=xs++ys) (n:=0) hr (h2.append h4) hle rfl (by simp)
 ·exact .inl rfl
theorem zgK (xs:List Value):∀ (n:Nat) (acc:Array Value),(List.foldl (fun x1 x2=>x1++x2) acc (List.replicate n (List.toArray xs)))=acc++List.toArray (List.replicate n xs).flatten
 |0,acc=>by simp
 |n+1,acc=>by
  rw[List.replicate_succ,List.foldl_cons,zgK xs n,List.replicate_succ,List.flatten_cons];simp
theorem znH {α:Type}(vs:List α) (n:Int):(rep vs n).length=n.toNat * vs.length:=by simp[rep]
theorem zgY {a:V}{x:Value}{vs:List V}{k:Int}{u:Tok}{Q:Value→Shared→Prop}{E:Value→Shared→Prop}(hr:HR am stack π Hc s.heap) (ha:VR am π s.heap a x) (la:litems Hc a=some vs) (hk:k < 1000000∧-1000000 < k) (hle:(rep vs k).length≤1000000)
  (h:∀ y s',NewL am π s (rep vs k) y s'→Q y s'):wpAny am.M A (binaryOp .Mult x (.int k u)) Q E s:=by
 refine hold fun z_ k_=>?_;obtain⟨l,xs,rfl,hl,h1,h2⟩:=zaq hr ha la;refine k_ ?_;refine hold fun z_ k_=>?_;obtain⟨⟨cls,dd,data,sl⟩,ho,hc,n,hd⟩:=hl;refine k_ ?_;simp only at hc hd;subst hc hd;have e1:=h2.len;rw[znH] at hle;have hsz:(List.toArray xs).size * k.toNat≤1000000:=by rw[List.size_toArray,e1,Nat.mul_comm];exact hle
 refine wpAny_binaryOp_repeat_ref (T:="list") (U:="int") (by decide) ⟨_,ho,rfl⟩ (fun s'=>typeIs_int s' k u) noFill_list_mul PySem.F.fills_int_mul PySem.F.slot_int_rmul repeat_list PySem.F.slot_int_index.lookup
  (call_meets PySem.F.slot_int_rmul (typeIs_int s k u) PySem.F.entry_int_rmul (PySem.F.args_int_rmul_2 _ _) (lm_int_rmul_list_any k u l _ n dd sl)
   ⟨ho,rfl,⟨_,ho,rfl⟩,call_meets PySem.F.slot_list_mul ⟨_,ho,rfl⟩ PySem.F.entry_list_mul (PySem.F.args_list_mul_2 _ _)
    (lm_list_mul_any l _ n dd sl k u (by simp[Builtin.List.listFitsIndex];omega) (by omega) (by simp[Builtin.List.listTooLong,sizeLine];simp only[List.size_toArray] at hsz;omega)) ⟨ho,?_⟩⟩)
 rw[zgK];refine h _ _ (NewL.push (xs:=(List.replicate k.toNat xs).flatten) (n:=0) (VRs.flatten h2 _) rfl rfl ?_);simp only[Array.empty_append,List.isEmpty_toArray]
 by_cases hx:xs=[]
 ·subst hx;simp
 ·rw[if_neg (by simpa using hx)]
set_option tactic.hygienic true in
theorem zhd {a:V}{x:Value}{vs:List V}{k:Int}{u:Tok}(hr:HR am stack π Hc s.heap) (ha:VR am π s.heap a x) (la:litems Hc a=some vs) (hk:k < 1000000∧-1000000 < k) :
  JAt am stack A (binaryOp .Mult x (.int k u)) (R.opt (mkL (rep vs k)) Hc) (VR am) π s:=by
 unfold mkL
 split
 ·rename_i hle
  exact .inr (zgY hr ha la hk hle fun y s' n=>n.lst hr hle)
 ·exact .inl rfl
end
end Mine
namespace Mine
open PySem PySem.W PyProof.Rows PySem.SeqAt
mutual
noncomputable def toD:V→PyData
 |.undef=>.none
 |.none=>.none
 |.bool b=>.bool b
 |.int i=>.int i
 |.str s=>.str (Str.ofString s)
 |.tup vs=>.tuple (toDs vs)
 |.lst vs=>.list (toDs vs)
 |.ref _=>.none
 |.exc _=>.none
 |.dct=>.none
noncomputable def toDs:List V→List PyData
 |[]=>[]
 |v::vs=>toD v::toDs vs
end
theorem zgp {a b:String}(h:Str.ofString a=Str.ofString b):a=b:=by
 unfold Str.ofString at h
 injection h with h
 have h:=congrArg Array.toList h;simp only at h;rw[cpsOfBytes_string,cpsOfBytes_string] at h;have h2:a.toList=b.toList:=List.map_inj_right (fun x y e=>by
  have:=Char.ext (UInt32.toNat_inj.mp e);exact this) |>.mp h
 exact String.toList_inj.mp h2
theorem zgq (a b:String):(Str.ofString a == Str.ofString b)=(a == b):=by
 by_cases h:a=b
 ·subst h;simp
 ·rw[beq_eq_false_iff_ne.mpr h]
  exact beq_eq_false_iff_ne.mpr fun e=>h (zgp e)
theorem zlo (s:String):PyData.strOk (Str.ofString s)=true:=by
 unfold PyData.strOk Str.ofString;rw[←Array.all_toList];simp only[cpsOfBytes_string,List.all_map,List.all_eq_true];intro c _;have h:=c.valid;simp only[UInt32.isValidChar,Nat.isValidChar] at h;exact decide_eq_true (h.elim (fun h=>Nat.lt_trans h (by decide)) And.right)
mutual
theorem zfT:∀ (n:Nat) (a b:V),V.ok n a=true→V.ok n b=true→PyData.eqv (toD a) (toD b)=peq a b
 |0,a,b,h,_=>absurd h Bool.false_ne_true
 |n+1,.undef,b,h,_=>absurd h Bool.false_ne_true
 |n+1,.exc _,b,h,_=>absurd h Bool.false_ne_true
 |n+1,.ref _,b,h,_=>absurd h Bool.false_ne_true
 |n+1,.dct,b,h,_=>absurd h Bool.false_ne_true
 |n+1,.none,b,_,h=>by cases b<;>first|rfl|exact absurd h Bool.false_ne_true
 |n+1,.bool _,b,_,h=>by cases b<;>first|rfl|exact absurd h Bool.false_ne_true
 |n+1,.int _,b,_,h=>by cases b<;>first|rfl|exact absurd h Bool.false_ne_true
 |n+1,.str x,b,_,h=>by
  cases b<;>first|rfl|exact absurd h Bool.false_ne_true|exact zgq _ _
 |n+1,.tup vs,b,h,h'=>by
  cases b<;>first|rfl|exact absurd h' Bool.false_ne_true|exact zfS n vs _ h h'
 |n+1,.lst vs,b,h,h'=>by
  cases b<;>first|rfl|exact absurd h' Bool.false_ne_true|exact zfS n vs _ h h'
theorem zfS:∀ (n:Nat) (a b:List V),a.all (V.ok n)=true→b.all (V.ok n)=true→PyData.eqvAll (toDs a) (toDs b)=peqs a b
 |n,[],[],_,_=>rfl
 |n,[],_::_,_,_=>rfl
 |n,_::_,[],_,_=>rfl
 |n,a::as,b::bs,h,h'=>by
  simp only[List.all_cons,Bool.and_eq_true] at h h';simp only[toDs,PyData.eqvAll,zgm,zfT n a b h.1 h'.1,zfS n as bs h.2 h'.2]
end
mutual
theorem zdn:∀ (n:Nat) (a:V),V.ok n a=true→(toD a).canLay0=true∧(toD a).depth≤n
 |0,a,h=>absurd h Bool.false_ne_true
 |n+1,.undef,h=>absurd h Bool.false_ne_true
 |n+1,.exc _,h=>absurd h Bool.false_ne_true
 |n+1,.ref _,h=>absurd h Bool.false_ne_true
 |n+1,.dct,h=>absurd h Bool.false_ne_true
 |n+1,.none,_=>⟨rfl,Nat.zero_le _⟩
 |n+1,.bool _,_=>⟨rfl,Nat.zero_le _⟩
 |n+1,.int _,_=>⟨rfl,Nat.zero_le _⟩
 |n+1,.str x,_=>⟨zlo x,Nat.zero_le _⟩
 |n+1,.tup vs,h=>(zcc n vs h).imp id Nat.succ_le_succ
 |n+1,.lst vs,h=>(zcc n vs h).imp id Nat.succ_le_succ
theorem zcc:∀ (n:Nat) (a:List V),a.all (V.ok n)=true→PyData.canLayAll0 (toDs a)=true∧PyData.depthAll (toDs a)≤n
 |n,[],_=>⟨rfl,by simp[toDs,PyData.depthAll]⟩
 |n,a::as,h=>by
  simp only[List.all_cons,Bool.and_eq_true] at h;have h1:=zdn n a h.1;have h2:=zcc n as h.2;simp only[toDs,PyData.canLayAll0,PyData.depthAll,Bool.and_eq_true];exact⟨⟨h1.1,h2.1⟩,Nat.max_le.2 ⟨h1.2,h2.2⟩⟩
end
theorem zcw {a:V}(h:V.ok 8 a=true):shaped (toD a)=true:=by
 have:=zdn 8 a h;unfold shaped;rw[this.1];simp only[Bool.true_and,decide_eq_true_eq];exact Nat.le_trans this.2 (by decide)
noncomputable def Tells (am:Amb) (π:List Addr) (h:Heap) (g:Nat→Option V):Prop :=
 ∀ (i:Nat) (a:Addr) (v':V),π[i]?=some a→g i=some v'→∀ n,V.ok n v'=true→∃ as,Reads h (.ref a) (toD v') as
mutual
theorem zdw {am:Amb}{π:List Addr}{h:Heap}{g:Nat→Option V}(T:Tells am π h g):∀ (v:V) (x:Value) (v':V) (n:Nat),VR am π h v x→V.mapRef g v=some v'→V.ok n v'=true→∃ as,Reads h x (toD v') as
 |v,x,v',0,_,_,h3=>absurd h3 Bool.false_ne_true
 |.undef,x,v',n+1,h1,_,_=>h1.elim
 |.exc _,x,v',n+1,h1,_,_=>h1.elim
 |.dct,x,v',n+1,_,h2,h3=>by cases h2;exact absurd h3 Bool.false_ne_true
 |.none,x,v',n+1,h1,h2,_=>by
  cases h2;obtain rfl:x=.none:=h1;exact⟨[],.none⟩
 |.bool b,x,v',n+1,h1,h2,_=>by
  cases h2;obtain rfl:x=.bool b:=h1;exact⟨[],.bool _⟩
 |.int _,x,v',n+1,h1,h2,_=>by
  cases h2;obtain⟨t,rfl⟩:=h1;exact⟨[],.int _ t⟩
 |.str _,x,v',n+1,h1,h2,_=>by
  cases h2;obtain⟨t,rfl⟩:=h1;exact⟨[],.str _ t⟩
 |.ref i,x,v',n+1,h1,h2,h3=>by
  obtain⟨a,rfl,ha⟩:=h1;exact T i a v' ha h2 _ h3
 |.tup vs,x,v',n+1,h1,h2,h3=>by
  obtain⟨vs',j2,rfl⟩:=Option.map_eq_some_iff.1 h2;refine hold fun z_ k_=>?_;obtain⟨a,xs,rfl,_,⟨o,ho,hc,m,hd⟩,_,h5⟩:=h1;refine k_ ?_;obtain⟨as,h6⟩:=zbu T vs xs vs' n h5 j2 h3;exact⟨as,.tuple ho hc hd (by simpa using h6)⟩
 |.lst vs,x,v',n+1,h1,h2,h3=>by
  obtain⟨vs',j2,rfl⟩:=Option.map_eq_some_iff.1 h2;refine hold fun z_ k_=>?_;obtain⟨a,xs,rfl,_,⟨o,ho,hc,m,hd⟩,_,h5⟩:=h1;refine k_ ?_;obtain⟨as,h6⟩:=zbu T vs xs vs' n h5 j2 h3;exact⟨a::as,.list ho hc hd (by simpa using h6)⟩
theorem zbu {am:Amb}{π:List Addr}{h:Heap}{g:Nat→Option V}(T:Tells am π h g):∀ (vs:List V) (xs:List Value) (vs':List V) (n:Nat),VRs am π h vs xs→V.mapRefs g vs=some vs'→vs'.all (V.ok n)=true→∃ as,ReadsAll h xs (toDs vs') as
 |[],xs,vs',n,h1,h2,_=>by
  cases h2;obtain rfl:xs=[]:=h1
  exact⟨[],.nil⟩
 |v::vs,xs,vs',n,h1,h2,h3=>by
  refine hold fun z_ k_=>?_;obtain⟨v',j2,h4⟩:=Option.bind_eq_some_iff.1 h2;obtain⟨ws,j4,rfl⟩:=Option.map_eq_some_iff.1 h4;refine k_ ?_;refine hold fun z_ k_=>?_;obtain⟨x,xs',rfl,h5,h6⟩:=h1;refine k_ ?_;simp only[List.all_cons,Bool.and_eq_true] at h3;obtain⟨as,h7⟩:=zdw T v x v' n h5 j2 h3.1;obtain⟨bs,h8⟩:=zbu T vs xs' ws n h6 j4 h3.2;exact⟨as++bs,.cons h7 h8⟩
end
set_option tactic.hygienic true in
theorem zdS {am:Amb}{stack:List Env}{π:List Addr}{Hc:H}{h:Heap}(hr:HR am stack π Hc h):∀ k:Nat,Tells am π h (frzAt k 0 Hc)
 |0=>fun i a v' z_ hg=>nomatch hg
 |k+1=>fun i a v' hi hg n hn=>by
  rw[zen,if_neg (Nat.not_lt_zero _)] at hg
  split at hg
  ·rename_i vs hc
   obtain⟨vs',h1,rfl⟩:=Option.map_eq_some_iff.1 hg;refine hold fun z_ k_=>?_;obtain⟨xs,⟨o,m,ho,hcl,_,hd⟩,_,h3⟩:=(hr.cell i _ a hc hi).list;refine k_ ?_
   cases n with
   |zero=>exact absurd hn Bool.false_ne_true
   |succ n =>
    obtain⟨as,h6⟩:=zbu (zdS hr k) vs xs vs' n h3 h1 hn;exact⟨a::as,.list ho hcl hd (by simpa using h6)⟩
  ·cases hg
section
variable {am:Amb}{stack:List Env}{A:Around}{π:List Addr}{s:Shared}{Hc:H}
theorem zbL (hr:HR am stack π Hc s.heap){v v':V}{x:Value}(h1:VR am π s.heap v x) (h2:frz 0 Hc v=some v') (h3:V.ok 8 v'=true):∃ as,Reads s.heap x (toD v') as :=
 zdw (zdS hr 4) v x v' 8 h1 h2 h3
set_option tactic.hygienic true in
theorem zqZ {n:Nat}{a b:V}{x y:Value}(as:AS n stack A) (hr:HR am stack π Hc s.heap) (ha:VR am π s.heap a x) (hb:VR am π s.heap b y) :
  JAt am stack A (compareOp .Eq x y) (R.opt ((pyEq Hc a b).map V.bool) Hc) (VR am) π s:=by
 unfold pyEq
 cases h1:frz 0 Hc a with
 |none=>exact .inl rfl
 |some a' =>
  cases h2:frz 0 Hc b with
  |none=>exact .inl rfl
  |some b' =>
   simp only
   split
   ·rename_i h
    simp only[Bool.and_eq_true] at h;obtain⟨_,r1⟩:=zbL hr ha h1 h.1;obtain⟨_,r2⟩:=zbL hr hb h2 h.2;refine .inr (compareEq_shaped r1 r2 (zcw h.1) (zcw h.2) (as.uk (by decide)) ?_)
    rw[zfT 8 a' b' h.1 h.2];exact OkP.here hr rfl
   ·exact .inl rfl
set_option tactic.hygienic true in
theorem zqU {n:Nat}{a b:V}{x y:Value}(as:AS n stack A) (hr:HR am stack π Hc s.heap) (ha:VR am π s.heap a x) (hb:VR am π s.heap b y) :
  JAt am stack A (compareOp .NotEq x y) (R.opt (((pyEq Hc a b).map (!·)).map V.bool) Hc) (VR am) π s:=by
 unfold pyEq
 cases h1:frz 0 Hc a with
 |none=>exact .inl rfl
 |some a' =>
  cases h2:frz 0 Hc b with
  |none=>exact .inl rfl
  |some b' =>
   simp only
   split
   ·rename_i h
    simp only[Bool.and_eq_true] at h;obtain⟨_,r1⟩:=zbL hr ha h1 h.1;obtain⟨_,r2⟩:=zbL hr hb h2 h.2;refine .inr (compareNe_shaped r1 r2 (zcw h.1) (zcw h.2) (as.uk (by decide)) ?_)
    rw[zfT 8 a' b' h.1 h.2];exact OkP.here hr rfl
   ·exact .inl rfl
theorem zoI {n:Nat}{vs:List V}{a:V}(h:vs.all (V.ok n)=true) (ha:V.ok n a=true):((toDs vs).any fun y=>PyData.eqv y (toD a))=vs.any fun y=>peq y a:=by
 induction vs with
 |nil=>rfl
 |cons v vs ih =>
  simp only[List.all_cons,Bool.and_eq_true] at h;simp only[toDs,List.any_cons,zfT n v a h.1 ha,ih h.2]
theorem zj7:∀ (n:Nat) (v:V),V.ok n v=true→V.ok (n+1) v=true
 |0,v,h=>by simp[V.ok] at h
 |n+1,v,h=>by
  unfold V.ok at h ⊢
  cases v<;>simp only at h ⊢<;>first|exact h|(simp only[List.all_eq_true] at h ⊢;exact fun x hx=>zj7 n x (h x hx))
set_option tactic.hygienic true in
theorem zj3 {n:Nat}{a b:V}{x y:Value}(as:AS n stack A) (hr:HR am stack π Hc s.heap) (ha:VR am π s.heap a x) (hb:VR am π s.heap b y) :
  JAt am stack A (compareOp .In x y) (R.opt ((isIn Hc a b).map V.bool) Hc) (VR am) π s∧JAt am stack A (compareOp .NotIn x y) (R.opt (((isIn Hc a b).map (!·)).map V.bool) Hc) (VR am) π s:=by
 unfold isIn
 cases h1:frz 0 Hc a with
 |none=>exact⟨.inl rfl,.inl rfl⟩
 |some a' =>
  cases h2:frz 0 Hc b with
  |none=>exact⟨.inl rfl,.inl rfl⟩
  |some b' =>
   simp only
   split
   ·rename_i h
    simp only[Bool.and_eq_true] at h;obtain⟨_,r1⟩:=zbL hr ha h1 h.1;obtain⟨_,r2⟩:=zbL hr hb h2 h.2;have hu:A.units+100 < cLine:=as.uk (by decide)
    have ca:=zdn 8 a' h.1;have key:∀ vs:List V,vs.all (V.ok 7)=true→PyData.canLayAll0 (toDs vs)=true∧A.units+1+min (PyData.depthAll (toDs vs)) (toD a').depth < cLine∧((toDs vs).any fun y=>PyData.eqv y (toD a'))=vs.any fun y=>peq y a':=fun vs hv=>by
     have:=zcc 7 vs hv;refine⟨this.1,Nat.lt_of_le_of_lt (Nat.add_le_add_left (Nat.le_trans (Nat.min_le_left ..) this.2) _) (as.uk (k:=8) (by decide)),zoI (n:=8) (by simp only[List.all_eq_true] at hv ⊢;exact fun x hx=>zj7 7 x (hv x hx)) h.1⟩
    cases b' with
    |lst vs =>
     have hv:vs.all (V.ok 7)=true:=h.2;obtain⟨k1,k2,k3⟩:=key vs hv;refine⟨.inr (in_list_reads (c:=y) (xs:=toDs vs) r2 r1 k1 ca.1 k2 ?_),.inr (notIn_list_reads (c:=y) (xs:=toDs vs) r2 r1 k1 ca.1 k2 ?_)⟩
     ·rw[k3];exact OkP.here hr rfl
     ·rw[k3];exact OkP.here hr rfl
    |tup vs =>
     have hv:vs.all (V.ok 7)=true:=h.2;obtain⟨k1,k2,k3⟩:=key vs hv;refine⟨.inr (in_tuple_reads (c:=y) (xs:=toDs vs) r2 r1 k1 ca.1 k2 ?_),.inr (notIn_tuple_reads (c:=y) (xs:=toDs vs) r2 r1 k1 ca.1 k2 ?_)⟩
     ·rw[k3];exact OkP.here hr rfl
     ·rw[k3];exact OkP.here hr rfl
    |_=>exact⟨.inl rfl,.inl rfl⟩
   ·exact⟨.inl rfl,.inl rfl⟩
theorem znX {v:V}{x:Value}(h:VR am π s.heap v x) (hv:v≠.none):(x == Value.none)=false:=by
 cases v<;>simp only[VR] at h<;>first|exact h.elim|exact absurd rfl hv|skip
 ·subst h;rfl
 ·obtain⟨t,rfl⟩:=h;rfl
 ·obtain⟨t,rfl⟩:=h;rfl
 ·obtain⟨a,xs,rfl,_⟩:=h;rfl
 ·obtain⟨a,xs,rfl,_⟩:=h;rfl
 ·obtain⟨a,rfl,_⟩:=h;rfl
 ·obtain⟨a,_,_,_,rfl,_⟩:=h;rfl
theorem zpy {a b:V}{x y:Value}(hr:HR am stack π Hc s.heap) (ha:VR am π s.heap a x) (hb:VR am π s.heap b y) :
  JAt am stack A (compareOp .Is x y) (R.opt ((pyIs a b).map V.bool) Hc) (VR am) π s∧JAt am stack A (compareOp .IsNot x y) (R.opt (((pyIs a b).map (!·)).map V.bool) Hc) (VR am) π s:=by
 unfold pyIs
 cases b with
 |none =>
  simp only[VR] at hb;subst hb
  by_cases hv:a=.none
  ·subst hv
   simp only[VR] at ha;subst ha;exact⟨.inr (is_none (OkP.here hr rfl)),.inr (isNot_none (OkP.here hr rfl))⟩
  ·have e:=znX ha hv
   have key:JAt am stack A (compareOp .Is x Value.none) (R.ok (V.bool false) Hc) (VR am) π s∧JAt am stack A (compareOp .IsNot x Value.none) (R.ok (V.bool true) Hc) (VR am) π s:=by
    refine⟨.inr (is_none ?_),.inr (isNot_none ?_)⟩
    ·rw[e];exact OkP.here hr rfl
    ·rw[e];exact OkP.here hr rfl
   cases a<;>first|exact key|exact absurd rfl hv|exact⟨.inl rfl,.inl rfl⟩
 |bool y' =>
  simp only[VR] at hb;subst hb
  cases a with
  |bool x' =>
   simp only[VR] at ha;subst ha;have e:(Value.bool x' == Value.bool y')=(x' == y'):=by cases x'<;>cases y'<;>rfl
   refine⟨.inr (wpAny_is_plain (by cases x'<;>cases y'<;>rfl) ?_),.inr ?_⟩
   ·rw[e];exact OkP.here hr rfl
   ·refine wpAny_isNot_plain (by cases x'<;>cases y'<;>rfl) ?_
    rw[e];exact OkP.here hr rfl
  |_=>exact⟨.inl rfl,.inl rfl⟩
 |_=>exact⟨.inl rfl,.inl rfl⟩
theorem zgu (a b:Int):decide (a≤b)=!decide (b < a):=by
 rw[←decide_not];exact decide_eq_decide.mpr Int.not_lt.symm
theorem zqV {a b:V}{x y:Value}(hr:HR am stack π Hc s.heap) (ha:VR am π s.heap a x) (hb:VR am π s.heap b y) :
  JAt am stack A (compareOp .Lt x y) (R.opt ((pyLt a b).map V.bool) Hc) (VR am) π s:=by
 unfold pyLt
 split
 ·simp only[VR] at ha hb;obtain⟨_,rfl⟩:=ha;obtain⟨_,rfl⟩:=hb
  exact .inr (lt_int (OkP.here hr rfl))
 ·exact .inl rfl
theorem zqX {a b:V}{x y:Value}(hr:HR am stack π Hc s.heap) (ha:VR am π s.heap a x) (hb:VR am π s.heap b y) :
  JAt am stack A (compareOp .Gt x y) (R.opt ((pyLt b a).map V.bool) Hc) (VR am) π s:=by
 unfold pyLt
 split
 ·simp only[VR] at ha hb;obtain⟨_,rfl⟩:=ha;obtain⟨_,rfl⟩:=hb
  exact .inr (gt_int (OkP.here hr rfl))
 ·exact .inl rfl
theorem zqW {a b:V}{x y:Value}(hr:HR am stack π Hc s.heap) (ha:VR am π s.heap a x) (hb:VR am π s.heap b y) :
  JAt am stack A (compareOp .LtE x y) (R.opt (((pyLt b a).map (!·)).map V.bool) Hc) (VR am) π s:=by
 unfold pyLt
 split
 ·simp only[VR] at ha hb;obtain⟨_,rfl⟩:=ha;obtain⟨_,rfl⟩:=hb
  exact .inr (PyProof.Rows.le_int (OkP.here hr (congrArg Value.bool (zgu _ _))))
 ·exact .inl rfl
theorem zqY {a b:V}{x y:Value}(hr:HR am stack π Hc s.heap) (ha:VR am π s.heap a x) (hb:VR am π s.heap b y) :
  JAt am stack A (compareOp .GtE x y) (R.opt (((pyLt a b).map (!·)).map V.bool) Hc) (VR am) π s:=by
 unfold pyLt
 split
 ·simp only[VR] at ha hb;obtain⟨_,rfl⟩:=ha;obtain⟨_,rfl⟩:=hb
  exact .inr (PyProof.Rows.ge_int (OkP.here hr (congrArg Value.bool (zgu _ _))))
 ·exact .inl rfl
end
end Mine
namespace Mine
open PySem PySem.W PyProof.Rows PySem.MeetsSeq PySem.MeetsSeq3
open AutoSeq1 (wpAny_loadPart')
theorem zek {xs:List Value}{is:List Int}(h:IntsAre xs is):∀ {i:Nat},i < xs.length→∃ n t,xs[i]?=some (.int n t)∧is.drop i=n::is.drop (i+1):=by
 induction h with
 |nil=>intro i hi;simp at hi
 |@cons n t vs ns _ ih =>
  intro i hi
  cases i with
  |zero=>exact⟨n,t,rfl,rfl⟩
  |succ i =>
   obtain⟨m,u,h1,h2⟩:=ih (i:=i) (by simpa using hi)
   exact⟨m,u,by simpa using h1,by simpa using h2⟩
theorem zma {xs:List Value}{is:List Int}(h:IntsAre xs is):is.length=xs.length:=by
 induction h with
 |nil=>rfl
 |cons _ _ _ ih=>simp[ih]
theorem zc5 {xs:List Value}{is:List Int}(h:IntsAre xs is){i:Nat}(hi:xs.length≤i):is.drop i=[]:=by
 exact List.drop_of_length_le (by rw[zma h];exact hi)
theorem zn0 (l b:Addr) (d1 d2:Option Addr) (s1 s2:Array (Option Value)) (xs ys:List Value) (is js:List Int) (n n2:Nat) (h1:IntsAre xs is) (h2:IntsAre ys js) (k:Nat) :
  ∀ i:Nat,i≤ys.length→i+k=xs.length→Meets (Builtin.«list.__eq__.loop» ⟨[.ref l,.ref b,rawInt i,rawInt 0],[]⟩)
   (fun z_ R s=>s.heap.get? l=some { cls:=.type "list",dict:=d1,data:=.seq xs.toArray n,slots:=s1 }∧s.heap.get? b=some { cls:=.type "list",dict:=d2,data:=.seq ys.toArray n2,slots:=s2 } ∧
    R (.ok (.ret (.bool (lexLt (is.drop i) (js.drop i))))) s):=by
 have fin:∀ {R:Result→Shared→Prop}{s:Shared}{v:Bool},R (.ok (.ret (.bool v))) s→v=decide (xs.length < ys.length)→R (.ok (.ret (.bool (decide (xs.toArray.size < ys.toArray.size))))) s:=fun h e=>by
  rw[List.size_toArray,List.size_toArray,← e];exact h
 induction k with
 |zero =>
  intro i hj hk prog w A R s h;obtain⟨hp,g,d,tk,os⟩:=s;obtain⟨hl,hb,h⟩:=h
  wp_walk using wpAny_loadPart' hl,wpAny_loadPart' hb
  have hi1:xs.toArray[((i:Nat):Int).toNat]?=none:=by simp;exact Nat.le_of_eq hk.symm
  rw[hi1];rw[zc5 h1 (i:=i) (Nat.le_of_eq hk.symm)] at h
  cases hy:ys.toArray[((i:Nat):Int).toNat]? with
  |none =>
   have hy':ys.length≤i:=by simpa using hy
   wp_walk using wpAny_loadPart' hl,wpAny_loadPart' hb
   rw[zc5 h2 hy'] at h;exact fin h (decide_eq_false (Nat.not_lt.2 (Nat.le_trans hy' (Nat.le_of_eq hk)))).symm
  |some y =>
   have hy':i < ys.length:=by
    have:=(Array.getElem?_eq_some_iff.1 hy).1
    simpa using this
   obtain⟨m,u,_,e2⟩:=zek h2 hy';rw[e2] at h
   wp_walk using wpAny_loadPart' hl,wpAny_loadPart' hb
   exact fin h (decide_eq_true (Nat.lt_of_le_of_lt (Nat.le_of_eq hk.symm) hy')).symm
 |succ k ih =>
  intro i hj hk prog w A R s h;obtain⟨hp,g,d,tk,os⟩:=s;obtain⟨hl,hb,h⟩:=h
  wp_walk using wpAny_loadPart' hl,wpAny_loadPart' hb
  obtain⟨x,t,hx,ex⟩:=zek h1 (i:=i) (hk ▸ Nat.lt_add_of_pos_right (Nat.succ_pos k));have hi1:xs.toArray[((i:Nat):Int).toNat]?=some (.int x t):=by simpa using hx
  rw[hi1];rw[ex] at h
  rcases Nat.lt_or_ge i ys.length with hlt|hge
  ·obtain⟨y,u,hy,ey⟩:=zek h2 hlt
   have hi2:ys.toArray[((i:Nat):Int).toNat]?=some (.int y u):=by simpa using hy
   rw[hi2];rw[ey] at h;refine wpAny_bind (wpAny_eqBool_int ?_);have hc:((i:Int)+1)=((i+1:Nat):Int):=by push_cast;rfl
   by_cases hxy:x=y
   ·rw[if_pos (by simpa using hxy),hc]
    rw[zcm,if_pos hxy] at h
    wp_walk
    exact⟨plainId_quiet plain_eq_loop _,codeAny_builtin entry_eq_loop (by
     rw[Around.under_plainId plain_eq_loop _];exact ih (i+1) hlt (by rw[Nat.add_assoc,Nat.add_comm 1 k];exact hk) prog w A R _ ⟨hl,hb,h⟩)⟩
   ·rw[if_neg (by simpa using hxy)]
    rw[zcm,if_neg hxy] at h
    wp_walk using wpAny_loadPart' hl,wpAny_loadPart' hb
    rw[hi1,hi2];refine wpAny_bind (PyProof.Rows.lt_int ?_);exact wpAny_pure h
  ·have hi2:ys.toArray[((i:Nat):Int).toNat]?=none:=by simpa using hge
   rw[hi2]
   wp_walk using wpAny_loadPart' hl,wpAny_loadPart' hb
   rw[zc5 h2 hge] at h;exact fin h (decide_eq_false (Nat.not_lt.2 (Nat.le_trans hge (hk ▸ Nat.le_add_right ..)))).symm
theorem zh4 (l b:Addr) (d1 d2:Option Addr) (s1 s2:Array (Option Value)) (xs ys:List Value) (is js:List Int) (n1 n2:Nat) (I1:IntsAre xs is) (I2:IntsAre ys js):Meets (Builtin.«list.__lt__» ⟨[.ref l,.ref b],[]⟩)
  (fun z_ R s=>s.heap.get? l=some ⟨.type "list",d1,.seq xs.toArray n1,s1⟩∧s.heap.get? b=some ⟨.type "list",d2,.seq ys.toArray n2,s2⟩∧R (.ok (.ret (.bool (lexLt is js)))) s):=by
 intro prog w A R s h;obtain⟨hp,g,d,tk,os⟩:=s;obtain⟨hl,hb,h⟩:=h;have f3:=AutoSeq1.sub_list_list
 wp_walk using AutoSeq1.wpAny_loadPart' hl,AutoSeq1.wpAny_loadPart' hb
 exact⟨plainId_quiet MeetsSeq3.plain_eq_loop _,codeAny_builtin MeetsSeq3.entry_eq_loop (by
  rw[Around.under_plainId MeetsSeq3.plain_eq_loop _];exact zn0 l b d1 d2 s1 s2 xs ys is js n1 n2 I1 I2 xs.length 0 (Nat.zero_le _) (Nat.zero_add _) prog w A R _ ⟨hl,hb,by simpa using h⟩)⟩
end Mine
namespace Mine
open PySem PySem.W PyProof.Rows
theorem zcE {am:Amb}{π:List Addr}{h:Heap}:∀ {vs:List V}{is:List Int}{xs:List Value},asInts vs=some is→VRs am π h vs xs→IntsAre xs is
 |[],is,xs,e,hv=>by cases e;simp only[VRs] at hv;subst hv;exact .nil
 |v::vs,is,xs,e,hv=>by
  cases v<;>first|(cases e;done)|skip
  simp only[asInts,Option.map_eq_some_iff] at e;obtain⟨js,e,rfl⟩:=e;obtain⟨x,xs',rfl,⟨t,rfl⟩,r⟩:=hv;exact .cons _ _ (zcE e r)
section
variable {am:Amb}{stack:List Env}{A:Around}{π:List Addr}{s:Shared}{Hc:H}
theorem zcR (hr:HR am stack π Hc s.heap){v:V}{x:Value}{is:List Int}(hvx:VR am π s.heap v x) (hk:keyL Hc v=some is):∃ b ys,x=.ref b∧s.heap.IsList b ys.toArray∧IntsAre ys is:=by
 unfold keyL at hk;obtain⟨us,e1,e2⟩:=Option.bind_eq_some_iff.1 hk;obtain⟨b,ys,rfl,hb,_,hvs⟩:=zaq hr hvx e1;exact⟨b,ys,rfl,hb,zcE e2 hvs⟩
end
section
variable {am:Amb}{stack:List Env}{π:List Addr}{Hc:H}{A:Around}
theorem zpP {s:Shared}{h':Heap}{tk:Nat}(hu:A.units < cLine) (hr:HR am stack π Hc s.heap) (kk:∀ b o,s.heap.get? b=some o→h'.get? b=some o){v u:V}{x y:Value}{is js:List Int}(hv:VR am π s.heap v x) (hw:VR am π s.heap u y) (hk:keyL Hc v=some is) (hk':keyL Hc u=some js)
  {Q:Value→Shared→Prop}{E:Value→Shared→Prop}(h:Q (.bool (lexLt is js)) { s with heap:=h',toks:=tk }):wpAny am.M A (richCompare .Lt x y) Q E { s with heap:=h',toks:=tk }:=by
 obtain⟨l,xs,rfl,⟨⟨k1,d1,u1,s1⟩,ho1,c1,n1,e1⟩,I1⟩:=zcR hr hv hk;obtain⟨b,ys,rfl,⟨⟨k2,d2,u2,s2⟩,ho2,c2,n2,e2⟩,I2⟩:=zcR hr hw hk';simp only at c1 c2 e1 e2;subst c1 c2 e1 e2;exact richCompare_meets_room ⟨_,kk _ _ ho1,rfl⟩ ⟨_,kk _ _ ho2,rfl⟩ F.slot_list_lt F.entry_list_lt (F.args_list_lt_2 _ _) (zh4 l b d1 d2 s1 s2 xs ys is js n1 n2 I1 I2) ⟨kk _ _ ho1,kk _ _ ho2,by simp,h⟩ hu
end
section
variable {am:Amb}{stack:List Env}{A:Around}{π:List Addr}{s:Shared}{Hc:H}
theorem zpu {n:Nat}{a b:V}{x y:Value}(as:AS n stack A) (hr:HR am stack π Hc s.heap) (ha:VR am π s.heap a x) (hb:VR am π s.heap b y) :
  JAt am stack A (compareOp .Lt x y) (R.opt ((pyLtH Hc a b).map V.bool) Hc) (VR am) π s:=by
 unfold pyLtH
 cases h1:pyLt a b with
 |some r =>
  have:=zqV (A:=A) hr ha hb;rw[h1] at this;exact this
 |none =>
  cases h2:keyL Hc a with
  |none=>exact .inl rfl
  |some l=>cases h3:keyL Hc b with
   |none=>exact .inl rfl
   |some m=>exact .inr (zpP (tk:=s.toks) (as.uk (k:=0) (by decide)) hr (fun z_ z_ e=>e) ha hb h2 h3 (OkP.here hr rfl))
end
end Mine
namespace Mine
open PySem PySem.W PyProof.Rows PySem.MeetsSeq PySem.MeetsSeq3
open AutoSeq1 (wpAny_loadPart')
theorem zke (l:List Int):lexLt l []=false:=by cases l<;>rfl
theorem zn4 (l b:Addr) (d1 d2:Option Addr) (s1 s2:Array (Option Value)) (xs ys:List Value) (is js:List Int) (n n2:Nat) (h1:IntsAre xs is) (h2:IntsAre ys js) (k:Nat) :
  ∀ i:Nat,i≤ys.length→i+k=xs.length→Meets (Builtin.«list.__eq__.loop» ⟨[.ref l,.ref b,rawInt i,rawInt 1],[]⟩)
   (fun z_ R s=>s.heap.get? l=some { cls:=.type "list",dict:=d1,data:=.seq xs.toArray n,slots:=s1 }∧s.heap.get? b=some { cls:=.type "list",dict:=d2,data:=.seq ys.toArray n2,slots:=s2 } ∧
    R (.ok (.ret (.bool (!lexLt (js.drop i) (is.drop i))))) s):=by
 have fin:∀ {R:Result→Shared→Prop}{s:Shared}{v:Bool},R (.ok (.ret (.bool v))) s→v=decide (xs.length≤ys.length)→R (.ok (.ret (.bool (decide (xs.toArray.size≤ys.toArray.size))))) s:=fun h e=>by
  rw[List.size_toArray,List.size_toArray,← e];exact h
 induction k with
 |zero =>
  intro i hj hk prog w A R s h;obtain⟨hp,g,d,tk,os⟩:=s;obtain⟨hl,hb,h⟩:=h
  wp_walk using wpAny_loadPart' hl,wpAny_loadPart' hb
  have hi1:xs.toArray[((i:Nat):Int).toNat]?=none:=by simp;exact Nat.le_of_eq hk.symm
  rw[hi1];rw[zc5 h1 (i:=i) (Nat.le_of_eq hk.symm),zke] at h;have e:true=decide (xs.length≤ys.length):=(decide_eq_true (Nat.le_trans (Nat.le_of_eq hk.symm) hj)).symm
  cases hy:ys.toArray[((i:Nat):Int).toNat]? with
  |none =>
   wp_walk using wpAny_loadPart' hl,wpAny_loadPart' hb
   exact fin h e
  |some y =>
   wp_walk using wpAny_loadPart' hl,wpAny_loadPart' hb
   exact fin h e
 |succ k ih =>
  intro i hj hk prog w A R s h;obtain⟨hp,g,d,tk,os⟩:=s;obtain⟨hl,hb,h⟩:=h
  wp_walk using wpAny_loadPart' hl,wpAny_loadPart' hb
  obtain⟨x,t,hx,ex⟩:=zek h1 (i:=i) (hk ▸ Nat.lt_add_of_pos_right (Nat.succ_pos k));have hi1:xs.toArray[((i:Nat):Int).toNat]?=some (.int x t):=by simpa using hx
  rw[hi1];rw[ex] at h
  rcases Nat.lt_or_ge i ys.length with hlt|hge
  ·obtain⟨y,u,hy,ey⟩:=zek h2 hlt
   have hi2:ys.toArray[((i:Nat):Int).toNat]?=some (.int y u):=by simpa using hy
   rw[hi2];rw[ey] at h;refine wpAny_bind (wpAny_eqBool_int ?_);have hc:((i:Int)+1)=((i+1:Nat):Int):=by push_cast;rfl
   by_cases hxy:x=y
   ·rw[if_pos (by simpa using hxy),hc]
    rw[zcm,if_pos hxy.symm] at h
    wp_walk
    exact⟨plainId_quiet plain_eq_loop _,codeAny_builtin entry_eq_loop (by
     rw[Around.under_plainId plain_eq_loop _];exact ih (i+1) hlt (by rw[Nat.add_assoc,Nat.add_comm 1 k];exact hk) prog w A R _ ⟨hl,hb,h⟩)⟩
   ·rw[if_neg (by simpa using hxy)]
    rw[zcm,if_neg fun q=>hxy q.symm] at h;have e:(!decide (y < x))=decide (x≤y):=by
     by_cases q:y < x
     ·rw[decide_eq_true q,decide_eq_false (Int.not_le.2 q)];rfl
     ·rw[decide_eq_false q,decide_eq_true (Int.not_lt.1 q)];rfl
    rw[e] at h
    wp_walk using wpAny_loadPart' hl,wpAny_loadPart' hb
    rw[hi1,hi2];refine wpAny_bind (le_int ?_);exact wpAny_pure h
  ·have hi2:ys.toArray[((i:Nat):Int).toNat]?=none:=by simpa using hge
   rw[hi2]
   wp_walk using wpAny_loadPart' hl,wpAny_loadPart' hb
   rw[zc5 h2 hge] at h;exact fin h (decide_eq_false (Nat.not_le.2 (Nat.lt_of_le_of_lt hge (hk ▸ Nat.lt_add_of_pos_right (Nat.succ_pos k))))).symm
theorem zl0 (l b:Addr) (d1 d2:Option Addr) (s1 s2:Array (Option Value)) (xs ys:List Value) (is js:List Int) (n1 n2:Nat) (I1:IntsAre xs is) (I2:IntsAre ys js):Meets (Builtin.«list.__le__» ⟨[.ref l,.ref b],[]⟩)
  (fun z_ R s=>s.heap.get? l=some ⟨.type "list",d1,.seq xs.toArray n1,s1⟩∧s.heap.get? b=some ⟨.type "list",d2,.seq ys.toArray n2,s2⟩∧R (.ok (.ret (.bool (!lexLt js is)))) s):=by
 intro prog w A R s h;obtain⟨hp,g,d,tk,os⟩:=s;obtain⟨hl,hb,h⟩:=h;have f3:=AutoSeq1.sub_list_list
 wp_walk using AutoSeq1.wpAny_loadPart' hl,AutoSeq1.wpAny_loadPart' hb
 exact⟨plainId_quiet MeetsSeq3.plain_eq_loop _,codeAny_builtin MeetsSeq3.entry_eq_loop (by
  rw[Around.under_plainId MeetsSeq3.plain_eq_loop _];exact zn4 l b d1 d2 s1 s2 xs ys is js n1 n2 I1 I2 xs.length 0 (Nat.zero_le _) (Nat.zero_add _) prog w A R _ ⟨hl,hb,by simpa using h⟩)⟩
section
variable {am:Amb}{stack:List Env}{A:Around}{π:List Addr}{s:Shared}{Hc:H}
theorem zq6 (hu:A.units < cLine) (hr:HR am stack π Hc s.heap){v u:V}{x y:Value}{is js:List Int}(hv:VR am π s.heap v x) (hw:VR am π s.heap u y) (hk:keyL Hc v=some is) (hk':keyL Hc u=some js)
  {Q:Value→Shared→Prop}{E:Value→Shared→Prop}(h:Q (.bool (!lexLt js is)) s):wpAny am.M A (richCompare .LtE x y) Q E s:=by
 obtain⟨l,xs,rfl,⟨⟨k1,d1,u1,s1⟩,ho1,c1,n1,e1⟩,I1⟩:=zcR hr hv hk;obtain⟨b,ys,rfl,⟨⟨k2,d2,u2,s2⟩,ho2,c2,n2,e2⟩,I2⟩:=zcR hr hw hk';simp only at c1 c2 e1 e2;subst c1 c2 e1 e2;exact richCompare_meets_room ⟨_,ho1,rfl⟩ ⟨_,ho2,rfl⟩ F.slot_list_le F.entry_list_le (F.args_list_le_2 _ _) (zl0 l b d1 d2 s1 s2 xs ys is js n1 n2 I1 I2) ⟨ho1,ho2,by simp,h⟩ hu
theorem zpw {n:Nat}{a b:V}{x y:Value}(as:AS n stack A) (hr:HR am stack π Hc s.heap) (ha:VR am π s.heap a x) (hb:VR am π s.heap b y) :
  JAt am stack A (compareOp .LtE x y) (R.opt ((pyLeH Hc a b).map V.bool) Hc) (VR am) π s:=by
 unfold pyLeH
 cases h1:pyLt b a with
 |some r =>
  have:=zqW (A:=A) hr ha hb;rw[h1] at this;exact this
 |none =>
  cases h2:keyL Hc a with
  |none=>exact .inl rfl
  |some is=>cases h3:keyL Hc b with
   |none=>exact .inl rfl
   |some js=>exact .inr (zq6 (as.uk (k:=0) (by decide)) hr ha hb h2 h3 (OkP.here hr rfl))
end
end Mine
namespace Mine
open PySem PySem.W PyProof.Rows
noncomputable abbrev kI (am:Amb):KeyKind am.prog am.w Int:=intKind am.prog am.w
theorem zca (es:List (V × V)):(es.flatMap fun e=>[e.1,e.2]).length=2 * es.length:=by
 induction es with
 |nil=>rfl
 |cons e es ih=>rw[List.flatMap_cons,List.length_append,ih,List.length_cons,List.length_cons,List.length_cons,List.length_nil];exact Nat.add_comm 2 (2 * es.length)
theorem zgP {k v:V}:∀ {es:List (V × V)},dfind k es=some v→∃ j:Nat,es[j]?=some (k,v)
 |(k',v')::es,h=>by
  rw[zcb] at h
  by_cases e:k=k'
  ·rw[if_pos e] at h;cases h;exact⟨0,by rw[e];rfl⟩
  ·rw[if_neg e] at h
   obtain⟨j,hj⟩:=zgP h;exact⟨j+1,hj⟩
theorem zfV {k v:V}:∀ {es:List (V × V)}{j:Nat},(es.map (·.1)).Nodup→es[j]?=some (k,v)→dfind k es=some v
 |(k',v')::es,0,_,h=>by cases h;rw[zcb,if_pos rfl]
 |(k',v')::es,j+1,hn,h=>by
  rw[List.map_cons,List.nodup_cons] at hn;have hm:k∈es.map (·.1):=List.mem_map.2 ⟨_,List.mem_of_getElem? h,rfl⟩;rw[zcb,if_neg fun q:k=k'=>hn.1 (q ▸ hm)];exact zfV hn.2 h
section
variable {am:Amb}{π:List Addr}{h:Heap}
theorem zim:∀ {es:List (V × V)}{xs:List Value},VRs am π h (es.flatMap fun e=>[e.1,e.2]) xs→∀ {j:Nat}{k v:V},es[j]?=some (k,v)→∃ x y,(ents es xs)[j]?=some ⟨hashV k,x,y⟩∧VR am π h k x∧VR am π h v y
 |[],_,_,_,_,_,e=>nomatch e
 |(k',v')::es,xs,r,j,k,v,e=>by
  rw[List.flatMap_cons] at r;simp only[List.cons_append,List.nil_append,VRs] at r;obtain⟨x,_,rfl,hx,y,xs',rfl,hy,r⟩:=r
  cases j with
  |zero=>cases e;exact⟨x,y,rfl,hx,hy⟩
  |succ j=>exact zim r e
theorem zil:∀ {es:List (V × V)}{xs:List Value},VRs am π h (es.flatMap fun e=>[e.1,e.2]) xs→(ents es xs).length=es.length
 |[],xs,_=>by cases xs<;>rfl
 |(k',v')::es,xs,r=>by
  rw[List.flatMap_cons] at r;simp only[List.cons_append,List.nil_append,VRs] at r;obtain⟨x,_,rfl,hx,y,xs',rfl,hy,r⟩:=r;exact congrArg Nat.succ (zil r)
structure DC (am:Amb) (π:List Addr) (h:Heap) (es:List (V × V)) (d:Addr) (o:Obj) (arr:Array DictEntry) (ep:Nat) (xs:List Value):Prop where
 ne:(d == sysModules)=false
 ho:h.get? d=some o
 cls:o.cls=.type "dict"
 dict:o.dict=none
 data:o.data=.dict arr ep
 arr:arr.toList=ents es xs
 vr:VRs am π h (es.flatMap fun e=>[e.1,e.2]) xs
 good:dgood es
 age:ep=es.length
 len:(es.flatMap fun e=>[e.1,e.2]).length≤1000000
theorem CellAt.dict {es:List (V × V)}{d:Addr}(x:CellAt am π h (.dict es) d):∃ o arr ep xs,DC am π h es d o arr ep xs:=by
 obtain⟨o,xs,ho,⟨hs,arr,ep,hc,hdi,hd,he,hg,ha⟩,hl,hv⟩:=x;exact⟨o,arr,ep,xs,beq_false_of_ne hs,ho,hc,hdi,hd,he,hv,hg,ha,hl⟩
end
section
variable {am:Amb}{stack:List Env}{A:Around}{π:List Addr}{s:Shared}{Hc:H}{E:Value→Shared→Prop}{es:List (V × V)}{d:Addr}{o:Obj}{arr:Array DictEntry}{ep:Nat}{xs:List Value}{k:V}{x:Value}
theorem DC.typeIs (D:DC am π s.heap es d o arr ep xs):s.TypeIs (.ref d) "dict":=⟨o,D.ho,D.cls⟩
theorem DC.at (D:DC am π s.heap es d o arr ep xs){j:Nat}{k v:V}(e:es[j]?=some (k,v)):∃ x y,arr[j]?=some ⟨hashV k,x,y⟩∧VR am π s.heap k x∧VR am π s.heap v y:=by
 obtain⟨x,y,e1,r⟩:=zim D.vr e;rw[←D.arr,Array.getElem?_toList] at e1;exact⟨x,y,e1,r⟩
theorem DC.size (D:DC am π s.heap es d o arr ep xs):arr.size=es.length:=by rw[←Array.length_toList,D.arr,zil D.vr]
noncomputable abbrev kT (am:Amb):HeapKind am.prog am.w (List Int):=tupleKind (kI am)
theorem ze7:∀ {vs ws:List V}{is:List Int},asInts vs=some is→asInts ws=some is→vs=ws
 |[],[],_,_,_=>rfl
 |[],w::ws,is,h1,h2=>by
  cases h1
  cases w<;>simp[asInts] at h2
 |v::vs,[],is,h1,h2=>by
  cases h2
  cases v<;>simp[asInts] at h1
 |v::vs,w::ws,is,h1,h2=>by
  cases v with
  |int i=>cases w with
   |int j =>
    simp only[asInts,Option.map_eq_some_iff] at h1 h2;obtain⟨a,ha,rfl⟩:=h1;obtain⟨b,hb,e⟩:=h2
    cases e
    rw[ze7 ha hb]
   |_=>exact nomatch h2
  |_=>exact nomatch h1
theorem zfL {k:V}{is:List Int}(h:keyT k=some is):∃ vs,k=.tup vs∧asInts vs=some is:=by
 cases k with
 |tup vs=>exact⟨vs,rfl,h⟩
 |_=>exact nomatch h
theorem zh6 {k k':V}{is:List Int}(h:keyT k=some is) (h':keyT k'=some is):k=k':=by
 obtain⟨vs,rfl,e⟩:=zfL h;obtain⟨ws,rfl,e'⟩:=zfL h';rw[ze7 e e']
theorem zgG {h:Heap}:∀ {vs:List V}{xs:List Value}{is:List Int},asInts vs=some is→VRs am π h vs xs→ItemsAre (kI am) is xs
 |[],xs,is,e,r=>by cases e;simp only[VRs] at r;subst r;exact .nil
 |v::vs,xs,is,e,r=>by
  cases v with
  |int i =>
   simp only[asInts,Option.map_eq_some_iff] at e;obtain⟨a,ha,rfl⟩:=e;simp only[VRs,VR] at r;obtain⟨x,xs',rfl,⟨t,rfl⟩,r⟩:=r;exact .cons (by simp[kI,intKind,Value.isInt]) (zgG ha r)
  |_=>exact nomatch e
theorem zkk {h:Heap}{k:V}{x:Value}(hk:keyOk k=true) (r:VR am π h k x):∃ is a,x=.ref a∧keyT k=some is∧IsTupleKey (kI am) h is a∧hashV k=(kT am).hash is:=by
 obtain⟨is,e⟩:=Option.isSome_iff_exists.1 (show(keyT k).isSome=true from hk);have hh:hashV k=(kT am).hash is:=by unfold hashV;rw[e];rfl
 refine⟨is,?_⟩;obtain⟨vs,rfl,e'⟩:=zfL e;simp only[VR] at r;obtain⟨a,xs,rfl,_,⟨o,ho,hc,n,hd⟩,_,rs⟩:=r;exact⟨a,rfl,e,⟨o,_,n,ho,hc,hd,zgG e' rs⟩,hh⟩
theorem zhr (hk:keyOk k=true) (r:VR am π s.heap k x) (hu:A.units < cLine):∃ n,∀ {Q:Int→Shared→Prop}{E:Value→Shared→Prop},Q (hashV k) { s with toks:=s.toks+n }→wpAny am.M A (pyHash x) Q E s:=by
 obtain⟨is,a,rfl,_,hb,hh⟩:=zkk hk r;refine⟨(kT am).draws is,fun h=>?_⟩;rw[hh] at h;exact(kT am).pyHash hu hb h
theorem zqn {h:Heap}:∀ {es:List (V × V)}{xs:List Value},VRs am π h (es.flatMap fun e=>[e.1,e.2]) xs→(∀ e∈es,keyOk e.1=true) →
  ∃ ks:List (List Int × Addr × Value),ents es xs=ks.map (entryOfKey (kT am))∧(∀ x∈ks,IsTupleKey (kI am) h x.1 x.2.1)∧es.map (fun e=>keyT e.1)=ks.map fun x=>some x.1
 |[],xs,_,_=>⟨[],by cases xs<;>rfl,fun z_ h=>(nomatch h),rfl⟩
 |(k,v)::es,xs,r,g=>by
  rw[List.flatMap_cons] at r;simp only[List.cons_append,List.nil_append,VRs] at r;obtain⟨x,_,rfl,hx,y,xs',rfl,hy,r⟩:=r;obtain⟨is,a,rfl,hk,ht,hh⟩:=zkk (g _ (List.mem_cons_self ..)) hx;obtain⟨ks,he,hi,hm⟩:=zqn r fun e he=>g e (List.mem_cons_of_mem _ he);refine⟨(is,a,y)::ks,?_,fun z hz=>?_,by rw[List.map_cons,List.map_cons,hm,hk]⟩
  ·rw[List.map_cons,← he]
   show(⟨hashV k,.ref a,y⟩:DictEntry)::_=⟨(kT am).hash is,.ref a,y⟩::_;rw[hh]
  ·rcases List.mem_cons.1 hz with rfl|hz
   ·exact ht
   ·exact hi z hz
theorem zhs (D:DC am π s.heap es d o arr ep xs) (hk:keyOk k=true) (r:VR am π s.heap k x) (hu:A.units < cLine){Q:Option Nat→Shared→Prop}(h0:dfind k es=none→Q none s) (h1:∀ j v,es[j]?=some (k,v)→Q (some j) s):wpAny am.M A (dictFind d x (hashV k)) Q E s:=by
 obtain⟨is,a,rfl,e,hb,hh⟩:=zkk hk r;obtain⟨ks,he,hi,hm⟩:=zqn D.vr D.good.2;have at':∀ j:Nat,(es[j]?).map (fun e=>keyT e.1)=(ks[j]?).map fun x=>some x.1:=fun j=>by rw[←List.getElem?_map,hm,List.getElem?_map]
 have hn:(ks.map (·.1)).Nodup:=by
  have inj:(es.map fun e=>keyT e.1).Nodup:=by
   refine List.pairwise_map.2 (List.Pairwise.imp_of_mem (fun {x y} hx hy ne q=>?_) (List.pairwise_map.1 D.good.1));obtain⟨i,ex⟩:=Option.isSome_iff_exists.1 (D.good.2 x hx);exact ne (zh6 ex (q ▸ ex))
  rw[hm] at inj;exact List.pairwise_map.2 (List.Pairwise.imp (fun {x y} ne q=>ne (congrArg some q)) (List.pairwise_map.1 inj))
 rw[hh];refine wpAny_dictFind_heap (knd:=kT am) hu hb D.ho D.data (D.arr.trans he) hi hn (fun hno=>h0 ?_) fun j p hj=>?_
 ·cases hd:dfind k es with
  |none=>rfl
  |some v =>
   obtain⟨j,ej⟩:=zgP hd;have:=at' j;rw[ej,Option.map_some,e] at this
   cases hq:ks[j]? with
   |none=>rw[hq] at this;cases this
   |some z =>
    rw[hq] at this
    cases this
    exact absurd hq (hno j z.2)
 ·have:=at' j
  rw[hj] at this
  cases hq:es[j]? with
  |none=>rw[hq] at this;cases this
  |some z =>
   rw[hq,Option.map_some,Option.map_some] at this;obtain⟨k',v⟩:=z;exact h1 j v (by rw[hq,zh6 (k:=k') (Option.some.inj this) e])
theorem DC.get (D:DC am π s.heap es d o arr ep xs) (hk:keyOk k=true) (r:VR am π s.heap k x) (hu:A.units < cLine){Q:Option Value→Shared→Prop}
  (h0:∀ n,dfind k es=none→Q none { s with toks:=s.toks+n }) (h1:∀ n v y,dfind k es=some v→VR am π s.heap v y→Q (some y) { s with toks:=s.toks+n }):wpAny am.M A (dictGet d x) Q E s:=by
 obtain⟨n,hh⟩:=zhr hk r hu;unfold dictGet
 try with_reducible refine wpAny_holding ?_
 refine wpAny_bind (hh (wpAny_bind (zhs (s:={ s with toks:=s.toks+n }) D hk r hu (fun e=>wpAny_pure (h0 n e)) fun j v e=>?_)))
 obtain⟨x',y,e1,_,hy⟩:=D.at e;refine wpAny_bind (wpAny_dictEntries (s:={ s with toks:=s.toks+n }) D.ho D.data ?_)
 rw[e1];exact wpAny_pure (h1 n v y (zfV D.good.1 e) hy)
theorem DC.contains (D:DC am π s.heap es d o arr ep xs) (hk:keyOk k=true) (r:VR am π s.heap k x) (hu:A.in1.units < cLine){Q:Bool→Shared→Prop}(h:∀ n,Q (dfind k es).isSome { s with toks:=s.toks+n }):wpAny am.M A (PySem.contains (.ref d) x) Q E s:=by
 unfold PySem.contains
 try with_reducible refine wpAny_holding ?_
 refine wpAny_bind (wpAny_specialOf D.typeIs slot_dict_contains.lookup ?_);show wpAny _ _ (if(some (Value.builtin "dict.__contains__") == some Value.none)=true then _ else _) _ E s;rw[if_neg (by rw[beq_builtin_none];exact Bool.false_ne_true)]
 refine wpAny_bind (wpAny_callSpecialUnlessNone?_slot (name:=Str.ofString "__contains__") D.typeIs slot_dict_contains
  (wpAny_call_entry slot_dict_contains D.typeIs entry_dict_contains ?_ (args_dict_contains _ _)))
 show wpAny _ _ (dictGet d x >>= _) _ _ s;refine wpAny_bind (D.get hk r hu (fun n e=>?_) fun n v y e z_=>?_)
 ·have h:=h n
  rw[e] at h;show wpAny _ _ (Builtin.Dict.pendingKey? d x >>= _) _ _ _;exact wpAny_bind (wpAny_pendingKey_other D.ne (wpAny_pure ⟨_,rfl,wpAny_truthy_bool h⟩))
 ·have h:=h n
  rw[e] at h;show wpAny _ _ (ret (.bool true)) _ _ _;exact wpAny_pure ⟨_,rfl,wpAny_truthy_bool h⟩
theorem zj5 {n:Nat}{i:Nat}{a:V}(as:AS n stack A) (hr:HR am stack π Hc s.heap) (hc:Hc[i]?=some (.dict es)) (hp:π[i]?=some d) (ha:VR am π s.heap a x) :
  JAt am stack A (compareOp .In x (.ref d)) (R.opt ((if keyOk a then some (dfind a es).isSome else Option.none).map V.bool) Hc) (VR am) π s∧JAt am stack A (compareOp .NotIn x (.ref d)) (R.opt (((if keyOk a then some (dfind a es).isSome else Option.none).map (!·)).map V.bool) Hc) (VR am) π s:=by
 cases hk:keyOk a with
 |false=>exact⟨.inl rfl,.inl rfl⟩
 |true =>
  obtain⟨o,arr,ep,xs,D⟩:=(hr.cell i _ d hc hp).dict;have hu:A.in1.units < cLine:=as.uk (k:=1) (by decide)
  refine⟨.inr ?_,.inr ?_⟩
  ·show wpAny _ _ (do return Value.bool (← PySem.contains (.ref d) x)) _ _ s
   exact wpAny_bind (D.contains hk ha hu fun n=>wpAny_pure (OkP.tok hr rfl))
  ·show wpAny _ _ (do return Value.bool (!(← PySem.contains (.ref d) x))) _ _ s
   exact wpAny_bind (D.contains hk ha hu fun n=>wpAny_pure (OkP.tok hr rfl))
theorem dput_new {k v:V}:∀ {es:List (V × V)},dfind k es=none→dput k v es=es++[(k,v)]
 |[],_=>rfl
 |(k',v')::es,h=>by
  rw[zcb] at h
  by_cases e:k=k'
  ·rw[if_pos e] at h;cases h
  ·rw[if_neg e] at h
   rw[zgO,if_neg e,dput_new h];rfl
theorem zio {k v v0:V}:∀ {es:List (V × V)}{j:Nat},(es.map (·.1)).Nodup→es[j]?=some (k,v0)→dput k v es=es.set j (k,v)
 |(k',v')::es,0,_,h=>by cases h;rw[zgO,if_pos rfl];rfl
 |(k',v')::es,j+1,hn,h=>by
  rw[List.map_cons,List.nodup_cons] at hn;have hm:k∈es.map (·.1):=List.mem_map.2 ⟨_,List.mem_of_getElem? h,rfl⟩;rw[zgO,if_neg fun q:k=k'=>hn.1 (q ▸ hm),zio hn.2 h];rfl
theorem zik {h:Heap}{v:V}{y:Value}(hy:VR am π h v y):∀ {es:List (V × V)}{xs:List Value}{j:Nat}{k v0:V},VRs am π h (es.flatMap fun e=>[e.1,e.2]) xs→es[j]?=some (k,v0) →
  ∃ xs',VRs am π h ((es.set j (k,v)).flatMap fun e=>[e.1,e.2]) xs'∧ents (es.set j (k,v)) xs'=(ents es xs).modify j fun e=>{ e with val:=y }
 |(k',v')::es,xs,j,k,v0,r,e=>by
  rw[List.flatMap_cons] at r;simp only[List.cons_append,List.nil_append,VRs] at r;obtain⟨x,_,rfl,hx,y',xs',rfl,hy',r⟩:=r
  cases j with
  |zero=>cases e;exact⟨x::y::xs',⟨_,_,rfl,hx,_,_,rfl,hy,r⟩,rfl⟩
  |succ j =>
   obtain⟨xs2,r2,e2⟩:=zik hy r e;refine⟨x::y'::xs2,⟨_,_,rfl,hx,_,_,rfl,hy',r2⟩,?_⟩;show(⟨hashV k',x,y'⟩:DictEntry)::ents (es.set j (k,v)) xs2=_;rw[e2];rfl
theorem zgL:∀ (es:List (V × V)) (xs:List Value) (k v:V) (x y:Value),xs.length=2 * es.length→ents (es++[(k,v)]) (xs++[x,y])=ents es xs++[⟨hashV k,x,y⟩]
 |[],xs,k,v,x,y,h=>by
  have:xs=[]:=List.eq_nil_of_length_eq_zero h;subst this;rfl
 |(k',v')::es,xs,k,v,x,y,h=>by
  match xs,h with
  |[],h=>exact absurd h (Nat.succ_ne_zero _).symm
  |[_],h=>exact absurd (Nat.succ.inj h) (Nat.succ_ne_zero _).symm
  |a::b::xs,h =>
   show(⟨hashV k',a,b⟩:DictEntry)::ents (es++[(k,v)]) (xs++[x,y])=⟨hashV k',a,b⟩::(ents es xs++_);rw[zgL es xs k v x y (Nat.succ.inj (Nat.succ.inj h))]
set_option tactic.hygienic true in
theorem ze3:∀ {es:List (V × V)}{k:V},dfind k es=Option.none→k ∉ es.map (·.1)
 |[],_,_=>by simp
 |(k',v)::es,k,h=>by
  rw[zcb] at h
  split at h
  ·cases h
  ·rename_i ne
   rw[List.map_cons,List.mem_cons];exact fun q=>q.elim (fun e=>ne e) (ze3 h)
theorem zjd {k v:V}(g:dgood es) (hk:keyOk k=true) (hn:dfind k es=none):dgood (es++[(k,v)]):=by
 refine⟨?_,fun e he=>?_⟩
 ·rw[List.map_append,List.nodup_append]
  refine⟨g.1,by simp,fun x hx y hy=>?_⟩
  rw[List.map_cons,List.map_nil,List.mem_singleton] at hy;subst hy;exact fun q=>ze3 hn (q ▸ hx)
 ·rcases List.mem_append.1 he with he|he
  ·exact g.2 e he
  ·rw[List.mem_singleton.1 he];exact hk
end
section
variable {am:Amb}{stack:List Env}{A:Around}{π:List Addr}{s:Shared}{Hc:H}
theorem zpq {t u:Tok}(hr:HR am stack π Hc s.heap):JAt am stack A (binaryOp .Pow (.int 10 t) (.int 20 u)) (.ok (V.int 100000000000000000000) Hc) (VR am) π s :=
 .inr (pow_int (by decide) (by decide +kernel) (OkP.tok hr ⟨_,rfl⟩))
set_option tactic.hygienic true in
theorem zpC {n:Nat}{op:Bop}{a b:V}{x y:Value}(ok:AmbOK am) (st:zf2 stack) (as:AS n stack A) (hr:HR am stack π Hc s.heap) (ha:VR am π s.heap a x) (hb:VR am π s.heap b y) :
  JAt am stack A (binaryOp (bopM op) x y) (R.opt (pyBin op Hc a b) Hc) (VR am) π s:=by
 cases op with
 |add =>
  show JAt _ _ _ _ (R.opt (pyAdd Hc a b) Hc) _ _ _
  rcases zd3 Hc a b with h|⟨i,j⟩|⟨us,ws⟩|⟨us,ws,h1,h2,h⟩
  ·rw[h];exact .inl rfl
  ·simp only[VR] at ha hb;obtain⟨_,rfl⟩:=ha;obtain⟨_,rfl⟩:=hb;exact zi1 hr
  ·exact zi0 hr ha hb
  ·rw[h];exact zhf hr ha hb h1 h2
 |sub =>
  rcases zcC (fun x y=>some (V.int (x - y))) a b with h|⟨i,j⟩
  ·show JAt _ _ _ _ (R.opt (int2 (fun x y=>some (V.int (x - y))) a b) Hc) _ _ _
   rw[h];exact .inl rfl
  ·simp only[VR] at ha hb;obtain⟨_,rfl⟩:=ha;obtain⟨_,rfl⟩:=hb;exact ziW hr
 |mul =>
  show JAt _ _ _ _ (R.opt (pyMul Hc a b) Hc) _ _ _
  rcases zha Hc a b with h|⟨i,j⟩|⟨k,h⟩
  ·rw[h];exact .inl rfl
  ·simp only[VR] at ha hb;obtain⟨_,rfl⟩:=ha;obtain⟨_,rfl⟩:=hb
   show JAt _ _ _ _ (R.opt (if i.natAbs < 9223372036854775808∨j.natAbs < 9223372036854775808 then some (V.int (i * j)) else Option.none) Hc) _ _ _
   split
   ·rename_i h;exact ziX hr h
   ·exact .inl rfl
  ·rw[h]
   split
   ·rename_i hk
    simp only[VR] at hb;obtain⟨u,rfl⟩:=hb
    cases h1:litems Hc a with
    |none=>exact .inl rfl
    |some vs=>exact zhd hr ha h1 ⟨hk.2,hk.1⟩
   ·exact .inl rfl
 |fdiv =>
  show JAt _ _ _ _ (R.opt (int2 (fun x y=>if y=0 then Option.none else some (V.int (x.fdiv y))) a b) Hc) _ _ _
  rcases zcC (fun x y=>if y=0 then Option.none else some (V.int (x.fdiv y))) a b with h|⟨i,j⟩
  ·rw[h];exact .inl rfl
  ·simp only[VR] at ha hb;obtain⟨_,rfl⟩:=ha;obtain⟨_,rfl⟩:=hb
   show JAt _ _ _ _ (R.opt (if j=0 then Option.none else some (V.int (i.fdiv j))) Hc) _ _ _
   split
   ·exact .inl rfl
   ·rename_i h;exact zhe ok st as hr h
 |mod =>
  show JAt _ _ _ _ (R.opt (int2 (fun x y=>if y=0 then Option.none else some (V.int (x.fmod y))) a b) Hc) _ _ _
  rcases zcC (fun x y=>if y=0 then Option.none else some (V.int (x.fmod y))) a b with h|⟨i,j⟩
  ·rw[h];exact .inl rfl
  ·simp only[VR] at ha hb;obtain⟨_,rfl⟩:=ha;obtain⟨_,rfl⟩:=hb
   show JAt _ _ _ _ (R.opt (if j=0 then Option.none else some (V.int (i.fmod j))) Hc) _ _ _
   split
   ·exact .inl rfl
   ·rename_i h;exact ziY hr h
 |pow =>
  show JAt _ _ _ _ (R.opt (int2 (fun x y=>if x=10∧y=20 then some (V.int 100000000000000000000) else Option.none) a b) Hc) _ _ _
  rcases zcC (fun x y=>if x=10∧y=20 then some (V.int 100000000000000000000) else Option.none) a b with h|⟨i,j⟩
  ·rw[h];exact .inl rfl
  ·simp only[VR] at ha hb;obtain⟨_,rfl⟩:=ha;obtain⟨_,rfl⟩:=hb
   show JAt _ _ _ _ (R.opt (if i=10∧j=20 then some (V.int 100000000000000000000) else Option.none) Hc) _ _ _
   split
   ·rename_i h;obtain⟨rfl,rfl⟩:=h;exact zpq hr
   ·exact .inl rfl
set_option tactic.hygienic true in
theorem zj2 {n:Nat}{a b:V}{x y:Value}(as:AS n stack A) (hr:HR am stack π Hc s.heap) (ha:VR am π s.heap a x) (hb:VR am π s.heap b y) :
  JAt am stack A (compareOp .In x y) (R.opt ((pyIn Hc a b).map V.bool) Hc) (VR am) π s∧JAt am stack A (compareOp .NotIn x y) (R.opt (((pyIn Hc a b).map (!·)).map V.bool) Hc) (VR am) π s:=by
 unfold pyIn
 cases b with
 |ref i =>
  simp only
  split
  ·rename_i es hc
   simp only[VR] at hb;obtain⟨ad,rfl,hp⟩:=hb;exact zj5 as hr hc hp ha
  ·exact zj3 as hr ha hb
 |_=>exact zj3 as hr ha hb
theorem zeX {n:Nat}{op:Cop}{a b:V}{x y:Value}(as:AS n stack A) (hr:HR am stack π Hc s.heap) (ha:VR am π s.heap a x) (hb:VR am π s.heap b y) :
  JAt am stack A (compareOp (copM op) x y) (R.opt ((pyCmp op Hc a b).map V.bool) Hc) (VR am) π s:=by
 cases op with
 |eq=>exact zqZ as hr ha hb
 |ne=>exact zqU as hr ha hb
 |lt=>exact zpu as hr ha hb
 |le=>exact zpw as hr ha hb
 |gt=>exact zqX hr ha hb
 |ge=>exact zqY hr ha hb
 |is=>exact(zpy hr ha hb).1
 |isNot=>exact(zpy hr ha hb).2
 |isin=>exact(zj2 as hr ha hb).1
 |notIn=>exact(zj2 as hr ha hb).2
theorem zps {a:V}{x:Value}(hr:HR am stack π Hc s.heap) (ha:VR am π s.heap a x) :
  JAt am stack A (unaryOp .Not x) ((match truthy a with|some b=>R.ok (V.bool (!b)) Hc|Option.none=>R.bad)) (VR am) π s:=by
 cases a with
 |bool b=>simp only[VR] at ha;subst ha;exact .inr (not_value (wpAny_truthy_bool (OkP.here hr rfl)))
 |_=>exact .inl rfl
theorem znq (slice:Expr) (o i:Value):subscripted slice false o i=operate [i,o] (getItem o i)∨subscripted slice false o i=operate [o,i] (getItem o i):=by
 cases slice with
 |Slice a b c p =>
  cases c with
  |none=>exact .inl rfl
  |some _=>exact .inr rfl
 |_=>exact .inr rfl
theorem zcY {E:Value→Shared→Prop}{value slice:Expr}{o i:Value}{T id:String}{Q:Value→Shared→Prop}(hT:s.TypeIs o T)
  (hl:typeLookup (.type T) "__getitem__"=pure (some (.builtin id))) (h:wpAny am.M A (getItem o i) Q E s):wpAny am.M A (subscriptTail value slice o i) Q E s:=by
 unfold subscriptTail;refine wpAny_bind ?_;rw[getitemInPython_of_ne hT.not_modules];refine wpAny_bind (wpAny_specialOf hT hl ?_);have hs:wpAny am.M A (subscripted slice false o i) Q E s:=by
  rcases znq slice o i with e|e
  ·rw[e];exact zdf h
  ·rw[e];exact zdf h
 have fin:wpAny am.M A (subscripted slice false o i) (fun r s₃=>wpAny am.M A (letTemporaryGo value o r >>= fun z_=>pure r) Q E s₃) E s :=
  wpAny_mono hs (fun r s₃ h₃=>wpAny_bind (wpAny_letTemporaryGo (wpAny_pure h₃))) fun z_ z_ x=>x
 first
  |exact wpAny_pure (wpAny_bind fin)
  |exact wpAny_bind (wpAny_pure (wpAny_bind fin))
  |exact wpAny_bind fin
theorem zfq {n:Nat}{i:Int}{j:Nat}(h:place n i=some j):j < n∧(i=j∨(i < 0∧(i+n).toNat=j∧-(n:Int)≤i)):=by
 unfold place at h
 by_cases h0:0≤i
 ·rw[if_pos h0] at h
  by_cases h1:i < n
  ·rw[if_pos h1] at h
   cases h
   exact⟨(Int.toNat_lt h0).2 h1,.inl (Int.toNat_of_nonneg h0).symm⟩
  ·rw[if_neg h1] at h;cases h
 ·rw[if_neg h0] at h
  have h0:=Int.not_le.1 h0
  by_cases h1:0≤i+n
  ·rw[if_pos h1] at h
   cases h
   refine⟨(Int.toNat_lt h1).2 ?_,.inr ⟨h0,rfl,?_⟩⟩
   ·have:=Int.add_lt_add_right h0 (n:Int)
    rwa [Int.zero_add] at this
   ·have:=Int.sub_right_le_of_le_add (a:=0) (b:=i) (c:=n) h1
    rwa [Int.zero_sub] at this
  ·rw[if_neg h1] at h;cases h
theorem zcO {n j:Nat}{i:Int}(h:place n i=some j) (hz:n≤1000000):-2 ^ 63≤i∧i < 2 ^ 63:=by
 obtain⟨h1,rfl|⟨h2,_,h3⟩⟩:=zfq h
 ·exact⟨Int.le_trans (by decide) (Int.natCast_nonneg j),zhR h1 hz⟩
 ·exact⟨zgf h3 hz,Int.lt_trans h2 (by decide)⟩
theorem zko {l:Addr}{xs:List Value}{x:Value}{k:Int}{t:Tok}{j:Nat}{Q:Value→Shared→Prop}{E:Value→Shared→Prop}(hl:s.heap.IsList l (List.toArray xs)) (hz:xs.length≤1000000) (hj:place xs.length k=some j) (hx:xs[j]?=some x) (h:Q x s) :
  wpAny am.M A (getItem (.ref l) (.int k t)) Q E s:=by
 obtain⟨h1,h2⟩:=zfq hj
 rcases h2 with rfl|⟨h2,rfl,h3⟩
 ·exact wpAny_getItem_list hl (Int.natCast_nonneg _) (zhR h1 hz) (by simpa using hx) h
 ·exact wpAny_getItem_list_neg hl h2 (by simpa using h3) (zgf h3 hz) (by simpa using hx) h
theorem ziZ {value slice:Expr}{n r:Nat}{es:List (V × V)}{d:Addr}{i:V}{y:Value}(as:AS n stack A) (hr:HR am stack π Hc s.heap) (hc:Hc[r]?=some (.dict es)) (hp:π[r]?=some d) (hi:VR am π s.heap i y) :
  JAt am stack A (subscriptTail value slice (.ref d) y) (R.opt (if keyOk i then dfind i es else Option.none) Hc) (VR am) π s:=by
 cases hk:keyOk i with
 |false=>exact .inl rfl
 |true =>
  rw[if_pos rfl];obtain⟨o,arr,ep,xs,D⟩:=(hr.cell r _ d hc hp).dict;have hu:A.in1.units < cLine:=as.uk (k:=1) (by decide)
  cases hf:dfind i es with
  |none=>exact .inl rfl
  |some v =>
   refine .inr (zcY D.typeIs slot_dict_getitem.lookup ?_);unfold getItem
   try with_reducible refine wpAny_holding ?_
   refine wpAny_bind (wpAny_sequenceKey D.typeIs (by decide) ?_)
   refine wpAny_bind (wpAny_callSpecial?_slot (name:=Str.ofString "__getitem__") D.typeIs slot_dict_getitem
    (wpAny_call_entry slot_dict_getitem D.typeIs entry_dict_getitem ?_ (args_dict_getitem _ _)))
   show wpAny _ _ (dictGet d y >>= _) _ _ s;refine wpAny_bind (D.get hk hi hu (fun m e=>by rw[hf] at e;cases e) fun m v' u e hv=>?_)
   rw[hf] at e;cases e
   exact wpAny_pure ⟨u,rfl,wpAny_pure (OkP.tok hr hv)⟩
theorem zpA {value slice:Expr}{n:Nat}{a i:V}{x y:Value}(as:AS n stack A) (hr:HR am stack π Hc s.heap) (ha:VR am π s.heap a x) (hi:VR am π s.heap i y) :
  JAt am stack A (subscriptTail value slice x y) (R.opt (pyIdx Hc a i) Hc) (VR am) π s:=by
 have lists:∀ (l:Addr) (xs:List Value) (vs:List V),x=.ref l→s.heap.IsList l (List.toArray xs)→vs.length≤1000000→VRs am π s.heap vs xs →
   JAt am stack A (subscriptTail value slice x y) (R.opt (match i with|.int k=>(place vs.length k).bind fun j=>vs[j]?|_=>Option.none) Hc) (VR am) π s:=by
  rintro l xs vs rfl hl hz hv
  cases i with
  |int k =>
   simp only;simp only[VR] at hi;obtain⟨t,rfl⟩:=hi
   cases hj:place vs.length k with
   |none=>exact .inl rfl
   |some j =>
    cases hw:vs[j]? with
    |none=>exact .inl (by simp only[Option.bind_some,hw];rfl)
    |some v =>
     obtain⟨x',hx',hvx⟩:=hv.get j v hw;simp only[Option.bind_some,hw,R.opt_some];exact .inr (zcY hl.typeIs list_getitem_lookup (zko hl (by rw[hv.len];exact hz) (by rw[hv.len];exact hj) hx' (OkP.here hr hvx)))
  |_=>exact .inl rfl
 unfold pyIdx
 cases a with
 |ref r =>
  simp only;simp only[VR] at ha;obtain⟨ad,rfl,hp⟩:=ha
  cases hc:Hc[r]? with
  |none=>exact .inl rfl
  |some c =>
   cases c with
   |list vs =>
    obtain⟨xs,h1,h2,h3⟩:=(hr.cell r _ ad hc hp).list;exact lists ad xs vs rfl h1.is h2 h3
   |dict es=>exact ziZ as hr hc hp hi
 |lst vs =>
  simp only[VR] at ha;obtain⟨ad,xs,rfl,_,h1,h2,h3⟩:=ha;exact lists ad xs vs rfl h1 h2 h3
 |tup vs =>
  simp only[VR] at ha;obtain⟨ad,xs,rfl,_,h1,hz,hv⟩:=ha
  cases i with
  |int k =>
   simp only;simp only[VR] at hi;obtain⟨t,rfl⟩:=hi
   cases hj:place vs.length k with
   |none=>exact .inl rfl
   |some j =>
    cases hw:vs[j]? with
    |none=>exact .inl (by simp only[Option.bind_some,hw];rfl)
    |some v =>
     obtain⟨x',hx',hvx⟩:=hv.get j v hw;simp only[Option.bind_some,hw,R.opt_some];obtain⟨h5,h6⟩:=zfq hj;have e:=hv.len;refine .inr (zcY h1.typeIs slot_tuple_getitem.lookup (getItem_tuple (j:=j) h1 (zcO hj hz).1 (zcO hj hz).2 ?_ (by simpa using hx') (OkP.here hr hvx)))
     rcases h6 with rfl|⟨h6,rfl,h7⟩
     ·have hn:¬ ((j:Int) < 0):=Int.not_lt.2 (Int.natCast_nonneg j)
      unfold seqIndex?
      simp only[hn,if_false,List.size_toArray,e];rw[if_pos (by simp only[Bool.and_eq_true,decide_eq_true_eq];exact⟨Int.natCast_nonneg j,Int.ofNat_lt.2 h5⟩)]
      simp
     ·have:=seqIndex_neg (n:=vs.length) h6 h7
      simpa [e] using this
  |_=>exact .inl rfl
 |_=>exact .inl rfl
end
theorem zfc {am:Amb}{π:List Addr}{h h':Heap}(k:h.UpToSlots h'):Via am am π π h h':=⟨fun a o ho hn h1 h2=>⟨k a o ho hn,h1,h2⟩,fun z_ z_ e=>e⟩
theorem VR.upto {am:Amb}{π:List Addr}{h h':Heap}(k:h.UpToSlots h'){v:V}{y:Value}(e:VR am π h v y):VR am π h' v y:=e.via (zfc k)
theorem VRs.upto {am:Amb}{π:List Addr}{h h':Heap}(k:h.UpToSlots h'){vs:List V}{ys:List Value}(e:VRs am π h vs ys):VRs am π h' vs ys:=e.via (zfc k)
theorem CellAt.upto {am:Amb}{π:List Addr}{h h':Heap}(k:h.UpToSlots h'){c:Cell}{a:Addr}(e:CellAt am π h c a):CellAt am π h' c a:=by
 exact e.via (zfc k) fun o ho hn=>k a o ho hn
theorem HR.upto {am:Amb}{stack:List Env}{π:List Addr}{Hc:H}{h h':Heap}(x:HR am stack π Hc h) (k:h.UpToSlots h') (kb:am.B.StaysIn h'):HR am stack π Hc h' :=
 ⟨kb,zem k x.frames,x.len,x.nodup,fun a ha=>let ⟨o,ho,hn⟩:=x.res a ha;let ⟨_,hs⟩:=k a o ho hn;⟨_,hs,hn⟩,x.off,fun i c a h1 h2=>(x.cell i c a h1 h2).upto k⟩
noncomputable def NoExc (ρ:List V):Prop:=True
theorem NoExc.set {ρ:List V}(_:NoExc ρ){i:Nat}{v:V}(_:∀ c,v≠.exc c):NoExc (ρ.set i v):=trivial
theorem VR.noexc {am:Amb}{π:List Addr}{h:Heap}{v:V}{x:Value}(e:VR am π h v x):∀ c,v≠.exc c:=fun c q=>by subst q;exact e
theorem SR.vr {am:Amb}{π:List Addr}{h:Heap}{v:V}{x:Value}(e:SR am π h v x) (_:∀ c,v≠.exc c):VR am π h v x:=e
theorem ER.upto {am:Amb}{cx:Cx}{ρ:List V}{π:List Addr}{h h':Heap}(e:ER am cx ρ π h) (k:h.UpToSlots h') (ne:NoExc ρ):ER am cx ρ π h':=by
 have cell:∀ {c v},h.IsCell c v→h'.IsCell c v:=fun {c v} ⟨o,ho,hd⟩=>by
  obtain⟨sl,hs⟩:=k c o ho (fun us q=>by rw[hd] at q;cases q)
  exact⟨_,hs,hd⟩
 obtain⟨m,hm⟩:=e.ns;refine⟨⟨m,k.ns hm⟩,e.locOff,fun y c hc=>?_,e.apart,fun y i v h1 h2 h3 h4=>?_⟩
 ·refine hold fun z_ k_=>?_
  obtain⟨h1,h2,v,h3⟩:=e.cellOff y c hc;refine k_ ?_;exact⟨h1,h2,v,cell h3⟩
 ·obtain⟨v',h5,h6⟩:=e.var y i v h1 h2 h3 h4
  refine⟨v',?_,h6.upto k⟩
  rcases h5 with⟨q,m',h7,h8⟩|⟨q,c,h7,h8⟩
  ·exact .inl ⟨q,m',k.ns h7,h8⟩
  ·exact .inr ⟨q,c,h7,cell h8⟩
noncomputable def Poke (I:Addr) (h h':Heap):Prop:=∀ b o,b≠I→h.get? b=some o→h'.get? b=some o
theorem Poke.slots {I:Addr}{h h':Heap}(p:Poke I h h'){o:Obj}{us:Array Value}(ho:h.get? I=some o) (hd:o.data=.fields us):h.UpToSlots h':=fun b o' hb hn =>
 ⟨o'.slots,p b o' (fun q=>by subst q;rw[ho] at hb;cases hb;exact hn us hd) hb⟩
theorem Step.poke {Fs π π':List Addr}{s s':Shared}{I:Addr}{h'':Heap}{tk:Nat}(x:Step Fs π s π' s') (hI:s.heap.get? I=none) (p:Poke I s'.heap h''):Step Fs π s π' { s' with heap:=h'',toks:=tk }:=by
 have ne:∀ {b o},s.heap.get? b=some o→b≠I:=fun {b o} e q=>by subst q;rw[hI] at e;cases e
 obtain⟨h',tk',rfl⟩:=x.same;refine⟨⟨h'',tk,rfl⟩,⟨fun a o e h1 h2=>p a o (ne e) (x.ext.keep a o e h1 h2),fun a o e h1=>?_,fun a o e=>?_⟩,x.grow⟩
 ·obtain⟨sl,h3⟩:=x.ext.slots a o e h1
  exact⟨sl,p a _ (ne e) h3⟩
 ·obtain⟨o',h3⟩:=x.ext.alive a o e
  exact⟨o',p a o' (ne e) h3⟩
theorem HR.poke {am:Amb}{stack:List Env}{π:List Addr}{Hc:H}{h h':Heap}{I:Addr}(x:HR am stack π Hc h) (p:Poke I h h'){o:Obj}{us:Array Value}(ho:h.get? I=some o) (hd:o.data=.fields us) (hB:am.B.get? I=none):HR am stack π Hc h' :=
 x.upto (p.slots ho hd) fun b o' e=>p b o' (fun q=>by subst q;rw[hB] at e;cases e) (x.base b o' e)
theorem zhO {am:Amb}{π:List Addr}{h h':Heap}(k:∀ b o,b ∉ am.res→h.get? b=some o→h'.get? b=some o):Via am am π π h h':=⟨fun a o ho z_ h1 h2=>⟨⟨o.slots,k a o h2 ho⟩,h1,h2⟩,fun z_ z_ e=>e⟩
theorem VR.free {am:Amb}{π:List Addr}{h h':Heap}(k:∀ b o,b ∉ am.res→h.get? b=some o→h'.get? b=some o){v:V}{y:Value}(e:VR am π h v y):VR am π h' v y:=e.via (zhO k)
theorem VRs.free {am:Amb}{π:List Addr}{h h':Heap}(k:∀ b o,b ∉ am.res→h.get? b=some o→h'.get? b=some o){vs:List V}{ys:List Value}(e:VRs am π h vs ys):VRs am π h' vs ys:=e.via (zhO k)
structure Mv (R Fs π:List Addr) (s:Shared) (π':List Addr) (s':Shared):Prop where
 same:∃ h' tk,s'={ s with heap:=h',toks:=tk }
 keep:∀ a o,s.heap.get? a=some o→a ∉ π→a ∉ Fs→a ∉ R→s'.heap.get? a=some o
 slots:∀ a o,s.heap.get? a=some o→a ∉ π→a ∉ R→∃ sl,s'.heap.get? a=some { o with slots:=sl }
 alive:∀ a o,s.heap.get? a=some o→∃ o',s'.heap.get? a=some o'
 grow:∃ δ,π'=π++δ∧∀ a∈δ,s.heap.get? a=none
theorem Mv.of {R Fs π π':List Addr}{s s':Shared}(x:Step Fs π s π' s'):Mv R Fs π s π' s' :=
 ⟨x.same,fun a o h1 h2 h3 z_=>x.ext.keep a o h1 h2 h3,fun a o h1 h2 z_=>x.ext.slots a o h1 h2,x.ext.alive,x.grow⟩
theorem Mv.notin {R Fs π π':List Addr}{s s':Shared}(x:Mv R Fs π s π' s'){a:Addr}{o:Obj}(ho:s.heap.get? a=some o) (ha:a ∉ π):a ∉ π':=by
 obtain⟨δ,rfl,hδ⟩:=x.grow;intro hm
 rcases List.mem_append.mp hm with h1|h1
 ·exact ha h1
 ·have:=hδ a h1;rw[ho] at this;cases this
theorem Mv.trans {R Fs π₀ π₁ π₂:List Addr}{s₀ s₁ s₂:Shared}(x:Mv R Fs π₀ s₀ π₁ s₁) (y:Mv R Fs π₁ s₁ π₂ s₂):Mv R Fs π₀ s₀ π₂ s₂:=by
 refine⟨?_,fun a o e h1 h2 h3=>?_,fun a o e h1 h3=>?_,fun a o e=>?_,?_⟩
 ·obtain⟨h',tk,rfl⟩:=x.same
  obtain⟨h'',tk',rfl⟩:=y.same;exact⟨_,_,rfl⟩
 ·exact y.keep a o (x.keep a o e h1 h2 h3) (x.notin e h1) h2 h3
 ·obtain⟨sl,h4⟩:=x.slots a o e h1 h3
  obtain⟨sl',h5⟩:=y.slots a _ h4 (x.notin e h1) h3;exact⟨sl',h5⟩
 ·obtain⟨o',h4⟩:=x.alive a o e
  exact y.alive a o' h4
 ·obtain⟨δ,rfl,hδ⟩:=x.grow
  obtain⟨δ',rfl,hδ'⟩:=y.grow;refine⟨δ++δ',by simp,fun a ha=>?_⟩
  rcases List.mem_append.mp ha with h1|h1
  ·exact hδ a h1
  ·cases hq:s₀.heap.get? a with
   |none=>rfl
   |some o =>
    obtain⟨o',h3⟩:=x.alive a o hq;have:=hδ' a h1;rw[h3] at this;cases this
theorem Mv.poke {R Fs π π':List Addr}{s s':Shared}{C:Addr}{h'':Heap}{tk:Nat}(x:Mv R Fs π s π' s') (hC:(C∈R∧∃ o,h''.get? C=some o)∨s.heap.get? C=none) (p:Poke C s'.heap h''):Mv R Fs π s π' { s' with heap:=h'',toks:=tk }:=by
 have ne:∀ {b o},s.heap.get? b=some o→b ∉ R→b≠C:=fun {b o} e hb q=>by
  subst q
  rcases hC with h|h
  ·exact hb h.1
  ·rw[h] at e;cases e
 obtain⟨h',tk',rfl⟩:=x.same;refine⟨⟨h'',tk,rfl⟩,fun a o e h1 h2 h3=>p a o (ne e h3) (x.keep a o e h1 h2 h3),fun a o e h1 h3=>?_,fun a o e=>?_,x.grow⟩
 ·obtain⟨sl,h4⟩:=x.slots a o e h1 h3
  exact⟨sl,p a _ (ne e h3) h4⟩
 ·obtain⟨o',h4⟩:=x.alive a o e
  by_cases hq:a=C
  ·subst hq
   rcases hC with h|h
   ·exact h.2
   ·rw[h] at e;cases e
  ·exact⟨o',p a o' hq h4⟩
theorem zhM {am:Amb}{Fs π π':List Addr}{s s':Shared}(x:Mv am.res Fs π s π' s'):Via am am π π' s.heap s'.heap :=
 ⟨fun a o ho z_ h1 h2=>⟨x.slots a o ho h1 h2,x.notin ho h1,h2⟩,fun i a ha=>by
  obtain⟨δ,rfl,_⟩:=x.grow;rw[List.getElem?_append_left (List.getElem?_eq_some_iff.mp ha).1];exact ha⟩
theorem VR.move {am:Amb}{Fs π π':List Addr}{s s':Shared}(x:Mv am.res Fs π s π' s'){v:V}{y:Value}(e:VR am π s.heap v y):VR am π' s'.heap v y:=e.via (zhM x)
theorem VRs.move {am:Amb}{Fs π π':List Addr}{s s':Shared}(x:Mv am.res Fs π s π' s'){vs:List V}{ys:List Value}(e:VRs am π s.heap vs ys):VRs am π' s'.heap vs ys:=e.via (zhM x)
structure Iter (am:Amb) (stack:List Env) (A:Around) (I:Addr) (wt:Watch) (vs:List V) (Sx:Nat→List Addr→Heap→Prop):Prop where
 stable:∀ k π (s:Shared) π' (s':Shared),Sx k π s.heap→Step (Fs stack) π s π' s'→Sx k π' s'.heap
 move:∀ k π (s:Shared) π' (s':Shared),Sx k π s.heap→Mv am.res (Fs stack) π s π' s'→Sx k π' s'.heap
 free:∀ k π (h h':Heap),Sx k π h→(∀ b o,b ∉ am.res→h.get? b=some o→h'.get? b=some o)→Sx k π h'
 own:∀ k π h,Sx k π h→I ∉ π∧I ∉ Fs stack∧∃ o us,h.get? I=some o∧o.data=.fields us
 item:∀ k π (Hc:H) (s:Shared) v (Q:Option Value→Shared→Prop) (E:Value→Shared→Prop),Sx k π s.heap→HR am stack π Hc s.heap→wt.ok Hc=true→vs[k]?=some v →
  (∀ x h' tk,Poke I s.heap h'→VR am π h' v x→Sx (k+1) π h'→Q (some x) { s with heap:=h',toks:=tk })→wpAny am.M A (pyNext (.ref I)) Q E s
 done:∀ π (Hc:H) (s:Shared) (Q:Option Value→Shared→Prop) (E:Value→Shared→Prop),Sx vs.length π s.heap→HR am stack π Hc s.heap→wt.ok Hc=true →
  (∀ h' tk,Poke I s.heap h'→Q none { s with heap:=h',toks:=tk })→wpAny am.M A (pyNext (.ref I)) Q E s
 self:∀ k π (s:Shared) (Q:Value→Shared→Prop) (E:Value→Shared→Prop),Sx k π s.heap→Q (.ref I) s→wpAny am.M A (pyIter (.ref I)) Q E s
section
variable {am:Amb}{stack:List Env}{A:Around}
noncomputable def IsSq (T:String) (h:Heap) (l:Addr) (xs:List Value):Prop:=∃ o,h.get? l=some o∧o.cls=.type T∧∃ n,o.data=.seq xs.toArray n
noncomputable def IsSqI (T:String) (h:Heap) (I l:Addr) (k:Nat):Prop:=∃ o,h.get? I=some o∧o.cls=.type T∧o.data=.fields #[.ref l,.int k 0]
structure SqS (am:Amb) (stack:List Env) (I l:Addr) (vs:List V) (T T':String) (k:Nat) (π:List Addr) (h:Heap):Prop where
 op:I ∉ π
 os:I ∉ Fs stack
 it:IsSqI T' h I l k
 off:l ∉ π∧I ∉ am.res∧l ∉ am.res
 xs:∃ xs,IsSq T h l xs∧VRs am π h vs xs
theorem Iter.sq {I l:Addr}{vs:List V}{T T':String}
  (hi:∀ {s:Shared}{k:Nat}{xs:List Value}{x:Value}{Q:Option Value→Shared→Prop}{E:Value→Shared→Prop},IsSqI T' s.heap I l k→IsSq T s.heap l xs→xs.toArray[k]?=some x→(∀ h',IsSqI T' h' I l (k+1)→Heap.SameBut I s.heap h'→Q (some x) { s with heap:=h' })→wpAny am.M A (pyNext (.ref I)) Q E s)
  (he:∀ {s:Shared}{k:Nat}{xs:List Value}{Q:Option Value→Shared→Prop}{E:Value→Shared→Prop},IsSqI T' s.heap I l k→IsSq T s.heap l xs→xs.toArray[k]?=none→(∀ h',Heap.ExtBut I s.heap h'→Q none { s with heap:=h' })→wpAny am.M A (pyNext (.ref I)) Q E s)
  (hs:∀ {s:Shared}{k:Nat}{Q:Value→Shared→Prop}{E:Value→Shared→Prop},IsSqI T' s.heap I l k→Q (.ref I) s→wpAny am.M A (pyIter (.ref I)) Q E s):Iter am stack A I none vs (SqS am stack I l vs T T') where
 stable:=fun k π s π' s' z x=>by
  refine hold fun z_ k_=>?_;obtain⟨h1,h2,⟨o,ho,hr⟩,h4,xs,⟨o',ho',r⟩,h6⟩:=z;obtain⟨sl,hs⟩:=x.ext.slots _ _ ho' h4.1;refine k_ ?_;exact⟨x.notin ho h1,h2,⟨o,x.ext.keep _ _ ho h1 h2,hr⟩,⟨x.notin ho' h4.1,h4.2⟩,xs,⟨_,hs,r⟩,h6.step x⟩
 move:=fun k π s π' s' z x=>by
  refine hold fun z_ k_=>?_;obtain⟨h1,h2,⟨o,ho,hr⟩,h4,xs,⟨o',ho',r⟩,h6⟩:=z;obtain⟨sl,hs⟩:=x.slots _ _ ho' h4.1 h4.2.2;refine k_ ?_;exact⟨x.notin ho h1,h2,⟨o,x.keep _ _ ho h1 h2 h4.2.1,hr⟩,⟨x.notin ho' h4.1,h4.2⟩,xs,⟨_,hs,r⟩,h6.move x⟩
 free:=fun k π h h' z kk=>by
  refine hold fun z_ k_=>?_;obtain⟨h1,h2,⟨o,ho,hr⟩,h4,xs,⟨o',ho',r⟩,h6⟩:=z;refine k_ ?_;exact⟨h1,h2,⟨o,kk _ _ h4.2.1 ho,hr⟩,h4,xs,⟨o',kk _ _ h4.2.2 ho',r⟩,h6.free kk⟩
 own:=fun k π h z=>⟨z.op,z.os,let ⟨o,ho,_,hd⟩:=z.it;⟨o,_,ho,hd⟩⟩
 item:=fun k π Hc s v Q E z z_ z_ hv hQ=>by
  refine hold fun z_ k_=>?_;obtain⟨xs,h5,h6⟩:=z.xs;obtain⟨x,hx,hvx⟩:=h6.get k v hv;refine k_ ?_;refine hi z.it h5 (by rw[List.getElem?_toArray];exact hx) fun h' hit' hs'=>?_
  have p:Poke I s.heap h':=fun b o hb e=>hs'.extBut b o hb e;refine hold fun z_ k_=>?_;obtain⟨o,ho,hc,hd⟩:=z.it;obtain⟨ol,hol,hcl,n,hdl⟩:=h5;have hne:l≠I:=fun q=>by subst q;rw[ho] at hol;cases hol;rw[hd] at hdl;cases hdl
  refine k_ ?_;exact hQ x h' s.toks p (hvx.upto (p.slots ho hd)) ⟨z.op,z.os,hit',z.off,xs,⟨ol,p _ _ hne hol,hcl,n,hdl⟩,h6.upto (p.slots ho hd)⟩
 done:=fun π Hc s Q E z z_ z_ hQ=>by
  obtain⟨xs,h5,h6⟩:=z.xs;exact he z.it h5 (by rw[List.getElem?_toArray,List.getElem?_eq_none_iff,h6.len];exact Nat.le_refl _) fun h' he'=>hQ h' s.toks fun b o hb e=>he' b o hb e
 self:=fun z_ z_ z_ z_ z_ z hQ=>hs z.it hQ
theorem Iter.lst (hh:A.handled=none){I l:Addr}{vs:List V}:Iter am stack A I none vs (SqS am stack I l vs "list" "list_iterator") :=
 Iter.sq (fun h1 h2 h3 h4=>wpAny_pyNext_list_item h1 h2 h3 h4) (fun h1 h2 h3 h4=>wpAny_pyNext_list_end hh h1 h2 h3 h4) (fun h1 h2=>wpAny_pyIter_listiter h1 h2)
theorem Iter.tup (hh:A.handled=none){I l:Addr}{vs:List V}:Iter am stack A I none vs (SqS am stack I l vs "tuple" "tuple_iterator") :=
 Iter.sq (fun h1 h2 h3 h4=>wpAny_pyNext_tuple_item h1 h2 h3 h4) (fun h1 h2 h3 h4=>wpAny_pyNext_tuple_end hh h1 h2 h3 h4) (fun h1 h2=>wpAny_pyIter_tupleiter h1 h2)
theorem Iter.cell (hh:A.handled=none){I:Addr}{i:Nat}{vs:List V}:Iter am stack A I (some (i,.list vs)) vs (fun k π h=>I ∉ π∧(I ∉ Fs stack∧I ∉ am.res)∧∃ l,π[i]?=some l∧h.IsListIter I l k) where
 stable:=by
  rintro k π s π' s' ⟨h1,h2,l,h4,h3⟩ x
  obtain⟨o,ho,hr⟩:=id h3;obtain⟨δ,e,_⟩:=x.grow;refine⟨x.notin ho h1,h2,l,?_,⟨o,x.ext.keep _ _ ho h1 h2.1,hr⟩⟩;rw[e,List.getElem?_append_left (List.getElem?_eq_some_iff.mp h4).1];exact h4
 move:=by
  rintro k π s π' s' ⟨h1,h2,l,h4,h3⟩ x
  obtain⟨o,ho,hr⟩:=id h3;obtain⟨δ,e,_⟩:=x.grow;refine⟨x.notin ho h1,h2,l,?_,⟨o,x.keep _ _ ho h1 h2.1 h2.2,hr⟩⟩;rw[e,List.getElem?_append_left (List.getElem?_eq_some_iff.mp h4).1];exact h4
 free:=by
  rintro k π h h' ⟨h1,h2,l,h4,⟨o,ho,hr⟩⟩ kk
  exact⟨h1,h2,l,h4,⟨o,kk _ _ h2.2 ho,hr⟩⟩
 own:=by
  rintro k π h ⟨h1,h2,l,_,⟨o,ho,hc,hd⟩⟩
  exact⟨h1,h2.1,o,_,ho,hd⟩
 item:=by
  rintro k π Hc s v Q E ⟨h1,h2,l,h4,h3⟩ hr hw hv hQ
  have hc:Hc[i]?=some (.list vs):=by simpa [Watch.ok] using hw
  refine hold fun z_ k_=>?_;obtain⟨xs,h5,_,h6⟩:=(hr.cell i _ l hc h4).list;refine k_ ?_;obtain⟨x,hx,hvx⟩:=h6.get k v hv;refine hold fun z_ k_=>?_;obtain⟨o,ho,_,hd⟩:=id h3;refine k_ ?_;refine wpAny_pyNext_list_item h3 h5.is (x:=x) (by simpa using hx) fun h' hit' hs'=>?_
  have p:Poke I s.heap h':=fun b o hb e=>hs'.extBut b o hb e;exact hQ x h' s.toks p (hvx.upto (p.slots ho hd)) ⟨h1,h2,l,h4,hit'⟩
 done:=by
  rintro π Hc s Q E ⟨h1,h2,l,h4,h3⟩ hr hw hQ
  have hc:Hc[i]?=some (.list vs):=by simpa [Watch.ok] using hw
  refine hold fun z_ k_=>?_;obtain⟨xs,h5,_,h6⟩:=(hr.cell i _ l hc h4).list;refine k_ ?_;exact wpAny_pyNext_list_end hh h3 h5.is (by simp[h6.len]) fun h' he'=>hQ h' s.toks fun b o hb e=>he' b o hb e
 self:=fun _ _ _ _ _ ⟨_,_,_,_,st⟩ hQ=>wpAny_pyIter_listiter st hQ
theorem Iter.range (hh:A.handled=none){I:Addr}(a c:Int) (n:Nat):Iter am stack A I none ((List.range n).map fun(i:Nat)=>V.int (a+(i:Int) * c)) (fun k π h=>I ∉ π∧(I ∉ Fs stack∧I ∉ am.res)∧IsRangeIter h I (a+(k:Nat) * c) ((n:Int) - (k:Nat)) c) where
 stable:=by
  rintro k π s π' s' ⟨h1,h2,h3⟩ x
  exact⟨x.notin h3 h1,h2,x.ext.keep _ _ h3 h1 h2.1⟩
 move:=by
  rintro k π s π' s' ⟨h1,h2,h3⟩ x
  exact⟨x.notin h3 h1,h2,x.keep _ _ h3 h1 h2.1 h2.2⟩
 free:=by
  rintro k π h h' ⟨h1,h2,h3⟩ kk
  exact⟨h1,h2,kk _ _ h2.2 h3⟩
 own:=by
  rintro k π h ⟨h1,h2,h3⟩
  exact⟨h1,h2.1,_,_,h3,rfl⟩
 item:=by
  rintro k π Hc s v Q E ⟨h1,h2,h3⟩ hr _ hv hQ
  have hk:k < n:=by have:=(List.getElem?_eq_some_iff.mp hv).1;simpa using this
  have hv':v=V.int (a+(k:Int) * c):=by
   rw[List.getElem?_map,List.getElem?_range hk] at hv
   simpa using hv.symm
  subst hv';refine wpAny_pyNext_range_item h3 (by omega) fun h' hit' hs'=>?_
  have p:Poke I s.heap h':=fun b o hb e=>hs'.extBut b o hb e;refine hQ _ h' _ p ⟨_,rfl⟩ ⟨h1,h2,?_⟩;have e1:a+((k+1:Nat):Int) * c=a+(k:Int) * c+c:=by push_cast;rw[Int.add_mul,Int.one_mul,Int.add_assoc]
  have e2:(n:Int) - ((k+1:Nat):Int)=(n:Int) - (k:Int) - 1:=by rw[Int.natCast_add,← Int.sub_sub];rfl
  rw[e1,e2];exact hit'
 done:=by
  rintro π Hc s Q E ⟨h1,h2,h3⟩ hr _ hQ
  exact wpAny_pyNext_range_end hh h3 (by simp) fun h' he'=>hQ h' s.toks fun b o hb e=>he' b o hb e
 self:=fun z_ z_ z_ z_ z_ st hQ=>wpAny_pyIter_rangeiter st.2.2 hQ
end
structure DO (o:Obj) (d:Addr) (arr:Array DictEntry):Prop where
 ne:(d == sysModules)=false
 cls:o.cls=.type "dict"
 data:o.data=.dict arr arr.size
section
variable {am:Amb}{A:Around}{s:Shared}{E:Value→Shared→Prop}{d I:Addr}{o:Obj}{arr:Array DictEntry}
theorem DO.iter (D:DO o d arr) (ho:s.heap.get? d=some o){Q:Value→Shared→Prop}(h:Q (.ref s.heap.objs.size) { s with heap:=s.heap.push { cls:=.type "dict_keyiterator",data:=.fields #[.ref d,.int 0 0,.int arr.size 0,.int arr.size 0] } }):wpAny am.M A (pyIter (.ref d)) Q E s:=by
 refine wpAny_pyIter_slot (show s.TypeIs (.ref d) "dict" from⟨o,ho,D.cls⟩) PySem.F.slot_dict_iter (wpAny_call_entry PySem.F.slot_dict_iter (show s.TypeIs (.ref d) "dict" from⟨o,ho,D.cls⟩) PySem.F.entry_dict_iter ?_ (PySem.F.args_dict_iter_1 _));unfold Builtin.«dict.__iter__» Builtin.Dict.dictSlotNone;refine wpAny_bind (wpAny_bind (wpAny_notOrdered_dict (show s.TypeIs (.ref d) "dict" from⟨o,ho,D.cls⟩) ?_))
 show wpAny _ _ (pure (Value.ref d)) _ _ s;refine wpAny_pure ?_;show wpAny _ _ (Builtin.Dict.showsAll d >>= _) _ _ s;unfold Builtin.Dict.showsAll;rw[if_neg (by rw[D.ne];exact Bool.false_ne_true)]
 refine wpAny_bind (wpAny_pure ?_);refine wpAny_bind (wpAny_dictEntries ho D.data ?_);refine wpAny_bind (wpAny_dictEpoch ho D.data ?_);refine wpAny_bind (wpAny_newObj_type (wpAny_pure ⟨_,rfl,"dict_keyiterator",_,⟨_,Heap.get?_push_size _ rfl,rfl⟩,PySem.F.slot_dict_keyiterator_next.lookup,?_⟩));exact h
theorem DO.next (D:DO o d arr) (ho:s.heap.get? d=some o){i:Nat}{x:DictEntry}{Q:Option Value→Shared→Prop}(hit:s.heap.IsKeyIter I d i arr.size arr.size) (hxa:arr[i]?=some x)
  (hQ:∀ h',h'.IsKeyIter I d (i+1) arr.size arr.size→Heap.SameBut I s.heap h'→Q (some x.key) { s with heap:=h' }):wpAny am.M A (pyNext (.ref I)) Q E s:=by
 refine hold fun z_ k_=>?_;obtain⟨oI,hoI,hcI,hdI⟩:=id hit;refine k_ ?_;unfold pyNext;refine wpAny_bind (wpAny_attempt (wpAny_callSpecial?_slot (name:=Str.ofString "__next__") hit.typeIs PySem.F.slot_dict_keyiterator_next
  (wpAny_call_entry PySem.F.slot_dict_keyiterator_next hit.typeIs PySem.F.entry_dict_keyiterator_next ?_ (PySem.F.args_dict_keyiterator_next_1 _))))
 refine wpAny_bind (wpAny_pure ?_);refine wpAny_bind (wpAny_bind (wpAny_bind (wpAny_typeNameOfWhole_keyiter hit.typeIs (wpAny_pure ?_))));refine wpAny_bind (wpAny_fieldsOf hoI hdI ?_);rw[if_neg (by decide)]
 show wpAny _ _ (if(Value.ref d == Value.none)=true then _ else _) _ _ s;rw[if_neg (show ¬ ((Value.ref d == Value.none)=true) from Bool.false_ne_true)];refine wpAny_bind (wpAny_pure ?_);refine wpAny_bind (wpAny_dictEntries ho D.data ?_);rw[if_neg (by simp)]
 refine wpAny_bind (wpAny_pure ?_);refine wpAny_bind (wpAny_dictEpoch ho D.data ?_);rw[if_neg (by simp)]
 refine wpAny_pure ?_;dsimp only;rw[if_neg (Int.not_lt.mpr (Int.natCast_nonneg i)),Int.toNat_natCast,hxa];refine wpAny_bind (wpAny_bind (wpAny_typeNameOfWhole_keyiter hit.typeIs (wpAny_pure ?_)));refine wpAny_bind (wpAny_isOneOf_keyiter hit.typeIs ?_);show wpAny _ _ (setField (.ref I) 1 (rawInt ((i:Int)+1)) >>= _) _ _ s;refine wpAny_bind (wpAny_setField hoI hdI (by simp) ?_)
 have hit':(s.heap.update I (Obj.mapFields (·.setIfInBounds 1 (rawInt ((i:Int)+1))))).IsKeyIter I d (i+1) arr.size arr.size :=
  ⟨_,Heap.get?_update_self _ hoI (Obj.isFreed_of_fields (Obj.data_mapFields hdI _)),(Obj.cls_mapFields ..).trans hcI,by rw[Obj.data_mapFields hdI];rfl⟩
 refine wpAny_bind (wpAny_holding ?_);refine wpAny_bind (wpAny_isOneOf_keyiter (s:={ s with heap:=s.heap.update I (Obj.mapFields (·.setIfInBounds 1 (rawInt ((i:Int)+1)))) }) hit'.typeIs ?_)
 show wpAny _ _ (pure x.key) _ _ _;exact wpAny_pure (wpAny_pure ⟨_,rfl,wpAny_pure (hQ _ hit' (Heap.SameBut.update ..))⟩)
theorem DO.last (hh:A.handled=none) (D:DO o d arr) (ho:s.heap.get? d=some o){Q:Option Value→Shared→Prop}(hit:s.heap.IsKeyIter I d arr.size arr.size arr.size) (hQ:∀ h',Heap.ExtBut I s.heap h'→Q none { s with heap:=h' }):wpAny am.M A (pyNext (.ref I)) Q E s:=by
 refine hold fun z_ k_=>?_;obtain⟨oI,hoI,hcI,hdI⟩:=id hit;refine k_ ?_;unfold pyNext;refine wpAny_bind (wpAny_attempt (wpAny_callSpecial?_slot (name:=Str.ofString "__next__") hit.typeIs PySem.F.slot_dict_keyiterator_next
  (wpAny_call_entry PySem.F.slot_dict_keyiterator_next hit.typeIs PySem.F.entry_dict_keyiterator_next ?_ (PySem.F.args_dict_keyiterator_next_1 _))))
 refine wpAny_bind (wpAny_pure ?_);refine wpAny_bind (wpAny_bind (wpAny_bind (wpAny_typeNameOfWhole_keyiter hit.typeIs (wpAny_pure ?_))));refine wpAny_bind (wpAny_fieldsOf hoI hdI ?_);rw[if_neg (by decide)]
 show wpAny _ _ (if(Value.ref d == Value.none)=true then _ else _) _ _ s;rw[if_neg (show ¬ ((Value.ref d == Value.none)=true) from Bool.false_ne_true)];refine wpAny_bind (wpAny_pure ?_);refine wpAny_bind (wpAny_dictEntries ho D.data ?_);rw[if_neg (by simp)]
 refine wpAny_bind (wpAny_pure ?_);refine wpAny_bind (wpAny_dictEpoch ho D.data ?_);rw[if_neg (by simp)]
 refine wpAny_pure ?_;dsimp only;rw[if_neg (Int.not_lt.mpr (Int.natCast_nonneg arr.size)),Int.toNat_natCast,Array.getElem?_eq_none (Nat.le_refl _)];refine wpAny_bind (wpAny_bind (wpAny_typeNameOfWhole_keyiter hit.typeIs (wpAny_pure ?_)));show wpAny _ _ (setField (.ref I) 0 .none >>= _) _ _ s;refine wpAny_bind (wpAny_setField hoI hdI (by simp) ?_)
 show wpAny _ _ (newExc (.type "StopIteration") [] >>= _) _ _ _;refine wpAny_bind ?_;simp only[newExc,newTuple];refine wpAny_bind (wpAny_newObj_type ?_ (by size_fits))
 refine wpAny_bind (m:=firstArgMember _ _) (wpAny_of_eq (a:=Value.none) (by first|rfl|(simp only[firstArgMember];rfl)) ?_)
 refine wpAny_newObj_type ?_ (by size_fits)
 simp only[raiseNew];refine wpAny_bind (wpAny_handled ?_);rw[show A.in1.handled=none from hh];refine wpAny_bind (wpAny_pure (wpAny_throw ?_));refine wpAny_bind (wpAny_isInstance (T:="StopIteration") (b:=true) ⟨_,Heap.get?_push_size _ rfl,rfl⟩ isSubtype_stop ?_);exact wpAny_pure (hQ _ (((Heap.SameBut.update ..).extBut.push _).push _))
theorem DO.walks (hh:A.handled=none) (D:DO o d arr) (hne:d≠I):Walks am.prog am.w A I [I,d] [I] arr.size (fun i v=>∃ e,arr[i]?=some e∧e.key=v) (fun i h=>h.IsKeyIter I d i arr.size arr.size∧h.get? d=some o) where
 sub:=fun b hb=>by rw[List.mem_singleton.1 hb];exact List.mem_cons_self ..
 frame:=fun i h h' ⟨⟨oI,hI,r⟩,hd⟩ k=>⟨⟨oI,k I (List.mem_cons_self ..) oI hI,r⟩,k d (List.mem_cons_of_mem _ (List.mem_cons_self ..)) o hd⟩
 item:=fun i s Q E hi ⟨hit,hd⟩ hQ=>D.next hd hit (Array.getElem?_eq_getElem hi) fun h' hit' hs' =>
  hQ _ h' s.toks ⟨_,Array.getElem?_eq_getElem hi,rfl⟩ ⟨hit',hs'.extBut d o hne hd⟩ fun b o' hb q=>hs'.extBut b o' (fun z=>hb (z ▸ List.mem_singleton.2 rfl)) q
 done:=fun s Q E ⟨hit,hd⟩ hQ=>D.last hh hd hit fun h' he=>hQ h' s.toks fun b o' hb q=>he b o' (fun z=>hb (z ▸ List.mem_singleton.2 rfl)) q
 self:=fun i s Q E st hQ=>wpAny_pyIter_keyiter st.1 hQ
theorem DO.src (D:DO o d arr):KdlSrc am.prog am.w "dict" d d arr.size (fun i v=>∃ e,arr[i]?=some e∧e.key=v) (fun h=>h.get? d=some o) where
 type:=fun z_ hm=>⟨o,hm,D.cls⟩
 there:=fun z_ hm=>⟨Heap.lt_size hm,Heap.lt_size hm⟩
 keep:=fun z_ z_ hm hk=>hk d (.inl rfl) o hm
 notList:=by decide
 notTuple:=by decide
 hint:=fun z_ z_ z_ z_ hm hq=>kdl_hint_dict ⟨o,hm,D.cls⟩ hq
 iter:=fun z_ s hh hm=>⟨_,_,(fun z_ z_ hq=>D.iter hm hq),D.walks hh (Nat.ne_of_lt (Heap.lt_size hm)),⟨_,Heap.get?_push_size _ rfl,rfl,rfl⟩,Heap.get?_push_of_some _ hm⟩
theorem DO.collect (hh:A.handled=none) (D:DO o d arr) (ho:s.heap.get? d=some o) (hle:arr.size≤sizeLine){Q:List Value→Shared→Prop}
  (h:∀ h₁ tk,(∀ b o,s.heap.get? b=some o→h₁.get? b=some o)→Q (arr.toList.map (·.key)) { s with heap:=h₁,toks:=tk }):wpAny am.M A (PySem.collect (.ref d)) Q E s:=by
 have hlt:=Heap.lt_size ho;have hd1:=Heap.get?_push_of_some { cls:=.type "list",data:=.seq ([]:List Value).toArray } ho;have hS:(s.heap.push { cls:=.type "list",data:=.seq ([]:List Value).toArray }).get? s.heap.objs.size=some { cls:=.type "list",data:=.seq #[] 0 }:=Heap.get?_push_size _ rfl;have key:∀ R:Result→Shared→Prop,(∀ h' tk acc c',(∀ b o,b≠s.heap.objs.size→(s.heap.push { cls:=.type "list",data:=.seq ([]:List Value).toArray }).get? b=some o→h'.get? b=some o)→h'.get? s.heap.objs.size=some { cls:=.type "list",dict:=none,data:=.seq acc c',slots:=#[] } →
   ItemsOf (fun i v=>∃ e,arr[i]?=some e∧e.key=v) acc arr.size→R (.ok (.ret (.ref s.heap.objs.size))) { s with heap:=h',toks:=tk })→codeAny am.M A (.builtin "proto.collect" ⟨[.ref d],[]⟩) R s:=by
  intro R hR;refine codeAny_builtin PySem.F.entry_proto_collect ?_;rw[Around.under_plainId PySem.F.plain_proto_collect _];show wpAny _ A.in1 (newList [] >>= fun l=>again (.builtin "list.__iadd__" ⟨[l,.ref d],[]⟩)) _ _ s;refine wpAny_bind (wpAny_newObj_type ?_);refine wpAny_pure ⟨plainId_quiet PySem.F.plain_list_iadd _,codeAny_builtin PySem.F.entry_list_iadd ?_⟩;rw[Around.under_plainId PySem.F.plain_list_iadd _]
  exact kdl_extend (s:={ s with heap:=s.heap.push { cls:=.type "list",data:=.seq ([]:List Value).toArray } }) (D.src (am:=am)) hh hd1 _ (Nat.ne_of_gt hlt) (Nat.ne_of_gt hlt) (.ref s.heap.objs.size) 0 hS hR hle
 unfold PySem.collect;refine wpAny_bind (wpAny_runValue (key _ fun h' tk acc c' k hS' hacc=>?_));show wpAny _ A (load s.heap.objs.size >>= _) _ _ _;refine wpAny_bind (wpAny_load hS' ?_);have e:acc.toList=arr.toList.map (·.key):=List.ext_getElem? fun i=>by
  rw[List.getElem?_map,Array.getElem?_toList,Array.getElem?_toList]
  cases q:acc[i]? with
  |some v =>
   obtain⟨e,e1,e2⟩:=hacc.2 i v q;rw[e1,← e2];rfl
  |none =>
   have:arr.size≤i:=hacc.1 ▸ Array.getElem?_eq_none_iff.1 q;rw[Array.getElem?_eq_none this];rfl
 have h:=h h' tk fun b o q=>k b o (Nat.ne_of_lt (Heap.lt_size q)) (Heap.get?_push_of_some _ q);rw[←e] at h;exact wpAny_pure h
theorem DO.count (D:DO o d arr) (ho:s.heap.get? d=some o) (hfit:(arr.size:Int) < 2 ^ 63){Q:Value→Shared→Prop}(h:Q (.int arr.size (s.toks+1)) { s with toks:=s.toks+1+1 }):wpAny am.M A (call (.builtin "len") [.ref d]) Q E s:=by
 have hT:s.TypeIs (.ref d) "dict":=⟨o,ho,D.cls⟩;refine Calls.call_function_entry kind_len plain_len entry_len (args_len1 _) ?_;unfold Builtin.«len»
 refine wpAny_bind (m:=oneArg "len" _) (wpAny_pure ?_);refine wpAny_bind (m:=callSpecial? (.ref d) (Str.ofString "__len__")) (wpAny_callSpecial?_slot (name:=Str.ofString "__len__") hT PySem.F.slot_dict_len (wpAny_call_entry PySem.F.slot_dict_len hT PySem.F.entry_dict_len ?_ (PySem.F.args_dict_len_1 _)));show wpAny _ _ (dictSize d >>= _) _ _ s;unfold dictSize;refine wpAny_bind (wpAny_bind (wpAny_dictEntries ho D.data (wpAny_pure ?_)))
 show wpAny _ _ (Builtin.Dict.pendingCount d >>= _) _ _ s;refine wpAny_bind (wpAny_pendingCount_other D.ne ?_);refine wpAny_ret_mkInt ?_;rw[show((arr.size:Nat):Int)+((0:Nat):Int)=(arr.size:Int) from Int.add_zero _];refine wpAny_bind (wpAny_holding (wpAny_pure ?_));refine wpAny_bind (wpAny_letGo ?_);show wpAny _ _ (if((arr.size:Nat):Int) < 0 then _ else _) _ _ _;rw[if_neg (Int.not_lt.mpr (Int.natCast_nonneg _))]
 show wpAny _ _ (if((arr.size:Nat):Int) ≥ 2 ^ 63 then _ else _) _ _ _;rw[if_neg (Int.not_le.mpr hfit)];exact wpAny_bind (wpAny_mkInt (wpAny_pure ⟨_,rfl,h⟩))
end
section
variable {am:Amb}{stack:List Env}{A:Around}{π:List Addr}{s:Shared}{Hc:H}{E:Value→Shared→Prop}{es:List (V × V)}{d I:Addr}{o:Obj}{arr:Array DictEntry}{ep:Nat}{xs:List Value}
theorem DC.raw (D:DC am π s.heap es d o arr ep xs):DO o d arr:=⟨D.ne,D.cls,by rw[D.data,D.age,D.size]⟩
theorem Iter.dict (hh:A.handled=none){i:Nat}:Iter am stack A I (some (i,.dict es)) (es.map (·.1)) (fun k π h=>I ∉ π∧(I ∉ Fs stack∧I ∉ am.res)∧∃ l,π[i]?=some l∧h.IsKeyIter I l k es.length es.length) where
 stable:=by
  rintro k π s π' s' ⟨h1,h2,l,h4,h3⟩ x
  obtain⟨o,ho,hr⟩:=id h3;obtain⟨δ,e,_⟩:=x.grow;refine⟨x.notin ho h1,h2,l,?_,⟨o,x.ext.keep _ _ ho h1 h2.1,hr⟩⟩;rw[e,List.getElem?_append_left (List.getElem?_eq_some_iff.mp h4).1];exact h4
 move:=by
  rintro k π s π' s' ⟨h1,h2,l,h4,h3⟩ x
  obtain⟨o,ho,hr⟩:=id h3;obtain⟨δ,e,_⟩:=x.grow;refine⟨x.notin ho h1,h2,l,?_,⟨o,x.keep _ _ ho h1 h2.1 h2.2,hr⟩⟩;rw[e,List.getElem?_append_left (List.getElem?_eq_some_iff.mp h4).1];exact h4
 free:=by
  rintro k π h h' ⟨h1,h2,l,h4,⟨o,ho,hr⟩⟩ kk
  exact⟨h1,h2,l,h4,⟨o,kk _ _ h2.2 ho,hr⟩⟩
 own:=by
  rintro k π h ⟨h1,h2,l,_,⟨o,ho,hc,hd⟩⟩
  exact⟨h1,h2.1,o,_,ho,hd⟩
 item:=by
  rintro k π Hc s v Q E ⟨h1,h2,l,h4,h3⟩ hr hw hv hQ
  have hc:Hc[i]?=some (.dict es):=by simpa [Watch.ok] using hw
  obtain⟨o,arr,ep,xs,D⟩:=(hr.cell i _ l hc h4).dict;rw[List.getElem?_map] at hv;obtain⟨⟨k',v'⟩,hx,rfl⟩:=Option.map_eq_some_iff.1 hv;obtain⟨oI,ho,_,hd⟩:=id h3;obtain⟨x,y,hxa,hvx,_⟩:=D.at hx;rw[←D.size] at h3;refine D.raw.next D.ho h3 hxa fun h' hit' hs'=>?_;have p:Poke I s.heap h':=fun b o hb e=>hs'.extBut b o hb e;exact hQ x h' s.toks p (hvx.upto (p.slots ho hd)) ⟨h1,h2,l,h4,by rw[←D.size];exact hit'⟩
 done:=by
  rintro π Hc s Q E ⟨h1,h2,l,h4,h3⟩ hr hw hQ
  have hc:Hc[i]?=some (.dict es):=by simpa [Watch.ok] using hw
  obtain⟨o,arr,ep,xs,D⟩:=(hr.cell i _ l hc h4).dict;rw[List.length_map,← D.size] at h3;exact D.raw.last hh D.ho h3 fun h' he'=>hQ h' s.toks fun b o hb e=>he' b o hb e
 self:=fun _ _ _ _ _ ⟨_,_,_,_,st⟩ hQ=>wpAny_pyIter_keyiter st hQ
end
section
variable {am:Amb}{stack:List Env}{A:Around}{π:List Addr}{s:Shared}{Hc:H}
theorem zc4 {v:V}{x:Value}{vs:List V}(hr:HR am stack π Hc s.heap) (e:VR am π s.heap v x) (hi:items Hc v=some vs) :
  ∃ l xs,x=.ref l∧(s.heap.IsList l (List.toArray xs)∨s.heap.IsTuple l (List.toArray xs))∧vs.length≤1000000∧VRs am π s.heap vs xs:=by
 cases v with
 |tup ws =>
  simp only[items,Option.some.injEq] at hi;subst hi;simp only[VR] at e;obtain⟨a,xs,h1,_,h3,h4,h5⟩:=e;exact⟨a,xs,h1,.inr h3,h4,h5⟩
 |lst ws =>
  obtain⟨l,xs,h1,h2,h3⟩:=zaq hr e (vs:=vs) hi;exact⟨l,xs,h1,.inl h2,h3⟩
 |ref i =>
  obtain⟨l,xs,h1,h2,h3⟩:=zaq hr e (vs:=vs) hi;exact⟨l,xs,h1,.inl h2,h3⟩
 |_=>simp[items] at hi
theorem zpv {a:V}{x:Value}(hr:HR am stack π Hc s.heap) (ha:VR am π s.heap a x) :
  JAt am stack A (call (.builtin "len") [x]) (R.opt (bf .len Hc a) Hc) (VR am) π s:=by
 have key:∀ vs,items Hc a=some vs→JAt am stack A (call (.builtin "len") [x]) (R.ok (V.int vs.length) Hc) (VR am) π s:=by
  intro vs h;obtain⟨l,xs,rfl,hl,hz,hv⟩:=zc4 hr ha h;have e:=hv.len
  rcases hl with hl|hl
  ·exact .inr (PySem.Calls.call_len_list hl (by rw[List.size_toArray,e];exact zdX hz) (by simp only[List.size_toArray,e];exact OkP.tok hr ⟨_,rfl⟩))
  ·exact .inr (len_tuple hl (by rw[List.size_toArray,e];exact zdX hz) (by simp only[List.size_toArray,e];exact OkP.tok hr ⟨_,rfl⟩))
 unfold bf
 cases a with
 |ref i =>
  simp only
  cases hc:Hc[i]? with
  |none=>exact .inl rfl
  |some c =>
   cases c with
   |list vs=>exact key vs (by simp[items,hc])
   |dict es =>
    simp only[VR] at ha;obtain⟨d,rfl,hi⟩:=ha;obtain⟨o,arr,ep,xs,D⟩:=(hr.cell i _ d hc hi).dict;have hl:=D.len;rw[zca] at hl;refine .inr (D.raw.count D.ho (by rw[D.size];omega) ?_)
    rw[D.size];exact OkP.tok hr ⟨_,rfl⟩
 |tup vs=>exact key vs rfl
 |lst vs=>exact key vs rfl
 |_=>exact .inl rfl
theorem zjn {a:V}{x:Value}{vs:List V}{Q:Value→Shared→Prop}{E:Value→Shared→Prop}(hr:HR am stack π Hc s.heap) (ha:VR am π s.heap a x) (hi:items Hc a=some vs) (h:∀ y s',NewL am π s vs y s'→Q y s') :
  wpAny am.M A (call (.type "list") [x]) Q E s:=by
 obtain⟨l,xs,rfl,hl,hz,hv⟩:=zc4 hr ha hi;have e:=hv.len;have fin:∀ (T:String) (o:Obj) (n:Nat),(T="list"∨T="tuple")→s.heap.get? l=some o→o.cls=.type T→o.data=.seq (List.toArray xs) n→wpAny am.M A (call (.type "list") [.ref l]) Q E s:=by
  intro T o n hT ho hc hd;refine call_list_seq l hT ho hc hd (fun h' c' k hn=>h _ _ ⟨_,xs,h',s.toks,rfl,rfl,k,zai _,⟨_,c',hn,rfl,rfl,rfl⟩,(hv.held (zai _)).keeps k⟩) ?_;rw[List.size_toArray,e];exact za7 hz
 rcases hl with⟨o,ho,hc,n,hd⟩|⟨o,ho,hc,n,hd⟩
 ·exact fin _ o n (.inl rfl) ho hc hd
 ·exact fin _ o n (.inr rfl) ho hc hd
theorem znT {a:V}{x:Value}(hr:HR am stack π Hc s.heap) (ha:VR am π s.heap a x) :
  JAt am stack A (call (.type "list") [x]) (R.opt (bf .list Hc a) Hc) (VR am) π s:=by
 unfold bf
 cases hi:items Hc a with
 |none=>exact .inl rfl
 |some vs =>
  obtain⟨_,_,_,_,hz,_⟩:=zc4 hr ha hi;exact .inr (zjn hr ha hi fun y s' n=>n.lst hr hz)
theorem zlH {a:V}{x:Value}(hr:HR am stack π Hc s.heap) (ha:VR am π s.heap a x) :
  JAt am stack A (call (.type "tuple") [x]) (R.opt (bf .tuple Hc a) Hc) (VR am) π s:=by
 unfold bf
 cases hi:items Hc a with
 |none=>exact .inl rfl
 |some vs =>
  obtain⟨l,xs,rfl,hl,hz,hv⟩:=zc4 hr ha hi;have e:=hv.len
  rcases hl with hl|hl
  ·refine .inr (call_tuple_list hl (fun h' k=>?_) (by rw[List.size_toArray,e];exact za7 hz))
   have k':∀ b o,s.heap.get? b=some o→(h'.push { cls:=.type "tuple",data:=.seq (List.toArray xs) }).get? b=some o:=fun b o q=>Heap.get?_push_of_some _ (k b o q);have hn:s.heap.get? h'.objs.size=none:=by
    cases q:s.heap.get? h'.objs.size with
    |none=>rfl
    |some o=>have:=k _ o q;rw[zai] at this;cases this
   refine OkP.keeps (tk:=s.toks) hr k' ?_;simp only[VR];exact⟨_,xs,rfl,⟨zar hr hn,zal hr hn⟩,⟨_,Heap.get?_push_size _ rfl,rfl,0,rfl⟩,hz,hv.keeps k'⟩
  ·refine .inr (call_tuple_same hl (OkP.here hr ?_))
   cases a with
   |tup ws=>simp only[items,Option.some.injEq] at hi;subst hi;exact ha
   |lst ws =>
    simp only[VR] at ha;obtain⟨_,_,q,_,⟨o,ho,hc,_⟩,_⟩:=ha
    cases q
    obtain⟨o',ho',hc',_⟩:=hl;rw[ho] at ho';cases ho';rw[hc] at hc';exact absurd hc' (by decide)
   |ref i =>
    obtain⟨l',xs',q,⟨o,ho,hc,_⟩,_⟩:=zaq hr ha (vs:=vs) hi
    cases q
    obtain⟨o',ho',hc',_⟩:=hl;rw[ho] at ho';cases ho';rw[hc] at hc';exact absurd hc' (by decide)
   |_=>simp[items] at hi
theorem zpz {a:V}{x:Value}(hr:HR am stack π Hc s.heap) (ha:VR am π s.heap a x) :
  JAt am stack A (call (.type "int") [x]) (R.opt (bf .int Hc a) Hc) (VR am) π s:=by
 unfold bf
 cases a with
 |bool b=>simp only[VR] at ha;subst ha;exact .inr (call_int_bool (OkP.tok hr ⟨_,rfl⟩))
 |_=>exact .inl rfl
theorem zet:∀ {vs:List V}{bs:List Bool},zbI vs=some bs→vs=bs.map V.bool
 |[],bs,h=>by simp only[zbI,Option.some.injEq] at h;subst h;rfl
 |v::vs,bs,h=>by
  cases v<;>simp only[zbI] at h<;>try cases h
  simp only[Option.map_eq_some_iff] at h;obtain⟨r,h1,rfl⟩:=h;rw[List.map_cons,← zet h1]
theorem zgV:∀ {bs:List Bool}{xs:List Value},VRs am π s.heap (bs.map V.bool) xs→xs=bs.map Value.bool
 |[],xs,h=>by simpa [VRs] using h
 |b::bs,xs,h=>by
  simp only[List.map_cons,VRs] at h;obtain⟨x,xs',rfl,h1,h2⟩:=h;simp only[VR] at h1;rw[h1,zgV h2];rfl
theorem zjR (bs:List Bool):(List.range bs.length).all (fun i=>bs.getD i false)=bs.all id:=by
 induction bs with
 |nil=>rfl
 |cons b bs ih=>simp only[List.length_cons,List.range_succ_eq_map,List.all_cons,List.all_map];rw[←ih];rfl
theorem ziG {l:Addr}{bs:List Bool}{P:Value→Shared→Prop}{E:Value→Shared→Prop}(hh:A.handled=none) (hl:s.heap.IsList l (List.toArray (bs.map Value.bool)))
  (hP:∀ I fp wr n Pr St tr,n=bs.length→tr=(fun i=>bs.getD i false)→Walks am.prog am.w A I fp wr n Pr St→(∀ s₂,s₂={ s with heap:=s.heap.push { cls:=.type "list_iterator",data:=.fields #[.ref l,.int 0 0] } }→St 0 s₂.heap)→TruthOf am.prog am.w A Pr tr→wr=[s.heap.objs.size]→I=s.heap.objs.size →
   P (.ref I) { s with heap:=s.heap.push { cls:=.type "list_iterator",data:=.fields #[.ref l,.int 0 0] } }) :
  wpAny am.M A (pyIter (.ref l)) P E s:=by
 refine wpAny_pyIter_list hl ?_;obtain⟨o,ho,_⟩:=id hl;have hne:l≠s.heap.objs.size:=Nat.ne_of_lt (Heap.lt_size ho);have W:=Walks.list (prog:=am.prog) (w:=am.w) hh s.heap.objs.size l hne (List.toArray (bs.map Value.bool));refine hP _ _ _ _ _ _ _ (by simp) rfl W ?_ ?_ rfl rfl
 ·rintro s₂ rfl
  exact⟨⟨_,Heap.get?_push_size _ rfl,rfl,rfl⟩,hl.push _⟩
 ·intro i v s' Q' E' hv hq
  simp only[List.getElem?_toArray,List.getElem?_map,Option.map_eq_some_iff] at hv;obtain⟨b,hb,rfl⟩:=hv;refine wpAny_truthy_bool ?_;have:bs.getD i false=b:=by rw[List.getD_eq_getElem?_getD,hb];rfl
  rw[←this];exact hq
theorem zpD {a:V}{x:Value}(hh:A.handled=none) (hr:HR am stack π Hc s.heap) (ha:VR am π s.heap a x) :
  JAt am stack A (call (.builtin "all") [x]) (R.opt (bf .all Hc a) Hc) (VR am) π s:=by
 unfold bf
 cases hi:litems Hc a with
 |none=>exact .inl rfl
 |some vs =>
  cases hb:zbI vs with
  |none=>exact .inl (by simp only[Option.bind_some,hb];rfl)
  |some bs =>
   simp only[Option.bind_some,hb,Option.map_some,R.opt_some];obtain⟨l,xs,rfl,hl,hz,hv⟩:=zaq hr ha hi;rw[zet hb] at hv;rw[zgV hv] at hl;refine .inr (call_all_walk (ziG (A:=A.in1) hh hl fun I fp wr n Pr St tr e1 e2 W hst htr hwr hI=>⟨I,fp,wr,n,Pr,St,tr,rfl,W,hst _ rfl,htr,fun h' tk k=>?_⟩));subst e1 e2 hwr;rw[zjR];exact OkP.keeps (h':=h') (tk:=tk) hr (fun b o e=>k b o (by simp only[List.mem_singleton];exact Nat.ne_of_lt (Heap.lt_size e)) (Heap.get?_push_of_some _ e)) rfl
end
set_option maxRecDepth 100000
theorem zj8:typeLookup (.type "list_reverseiterator") "__len__"=pure none:=by rw[typeLookup_type,builtinLookup_eq_fast];kernel_rfl
theorem zmc:typeLookup (.type "list_reverseiterator") "__length_hint__"=pure (some (.builtin "list_reverseiterator.__length_hint__")):=by rw[typeLookup_type,builtinLookup_eq_fast];kernel_rfl
section
variable {prog:Program}{w:World}{A:Around}{E:Value→Shared→Prop}{s:Shared}
theorem zja {R:Result→Shared→Prop}{I l:Addr}{items:Array Value}(hh:A.handled=none) (hit:s.heap.IsRevIter I l ((items.size:Int) - 1)) (hl:s.heap.IsList l items) (hne:l≠I) (hlen:items.size≤sizeLine) (S:Addr) (res:Value) (c₀:Nat)
  (hS:s.heap.get? S=some { cls:=.type "list",data:=.seq #[] c₀ }) (hSI:S≠I) (hSl:S≠l)
  (hR:∀ h' tk acc' c',(∀ b o,b≠S→b≠I→s.heap.get? b=some o→h'.get? b=some o)→h'.get? S=some { cls:=.type "list",dict:=none,data:=.seq acc' c',slots:=#[] } →
   ItemsOf (fun i v=>items[items.size - 1 - i]?=some v) acc' items.size→R (.ok (.ret res)) { s with heap:=h',toks:=tk }) :
  wpAny (model prog w) A.in1 (Builtin.List.listExtendWith (.ref S) (.ref I) res)
   (fun fin s'=>match fin with|.done f=>R (.ok f) s'|.again c'=>c'.quiet=true∧codeAny (model prog w) A c' R s') (fun e s'=>R (.error e) s') s:=by
 have W:=(Walks.listRev (prog:=prog) (w:=w) (A:=A.in1) hh I l hne items).toS;have hSf:S ∉ [I,l]:=by simp[hSI,hSl]
 have hT:=Heap.IsRevIter.typeIs hit;unfold Builtin.List.listExtendWith;refine wpAny_bind (wpAny_typeOf hT ?_);have h1:Builtin.List.listSameRef (.ref S) (.ref I)=false:=by simp[Builtin.List.listSameRef,hSI]
 have h2:(Value.type "list_reverseiterator" == Value.type "list")=false:=by decide
 have h3:(Value.type "list_reverseiterator" == Value.type "tuple")=false:=by decide
 simp only[h1,h2,h3,Bool.or_false,Bool.false_eq_true,if_false];refine wpAny_bind (wpAny_pyIter_revIter hit ?_);refine wpAny_bind (wpAny_holding ?_);unfold Builtin.List.listLengthHint;refine wpAny_bind (wpAny_specialOf hT zj8 ?_);show wpAny _ A.in1 (specialOf (Value.ref I) (Str.ofString "__length_hint__") >>= _) _ _ _;refine wpAny_bind (wpAny_specialOf hT zmc ?_);generalize hid:("list_reverseiterator.__length_hint__":String)=id0
 wp_delta
 rw[show splitId id0=some ("list_reverseiterator","__length_hint__") from by subst hid;decide +kernel]
 subst hid;refine wpAny_bind (wpAny_isInstance (b:=true) hT (by rw[isSubtype_type];kernel_rfl) ?_)
 refine wpAny_pure ?_;rw[if_neg (by decide)]
 refine wpAny_pure ⟨plainId_quiet F.plain_extend_loop _,codeAny_extend_loopS W hlen S hSf res items.size 0 _ #[] c₀ rfl (Nat.zero_le _) ⟨Nat.zero_le _,by simpa using hit,hl⟩ hS (ItemsOf.nil _) fun s' acc' c' hm hS' hacc=>?_⟩
 rw[Moved.eq_with hm];refine hR s'.heap s'.toks acc' c' (fun b o hb hb' e=>hm.heap b o (fun hmem=>?_) e) hS' hacc
 rcases List.mem_cons.mp hmem with e'|hmem
 ·exact hb e'
 ·exact hb' (List.mem_singleton.mp hmem)
theorem zfY {Q:Value→Shared→Prop}{I l:Addr}{items:Array Value}(hh:A.handled=none) (hit:s.heap.IsRevIter I l ((items.size:Int) - 1)) (hl:s.heap.IsList l items) (hne:l≠I) (hlen:items.size≤sizeLine)
  (hQ:∀ h' tk acc' c',(∀ b o,b≠I→s.heap.get? b=some o→h'.get? b=some o) →
   h'.get? s.heap.objs.size=some { cls:=.type "list",dict:=none,data:=.seq acc' c',slots:=#[] }→ItemsOf (fun i v=>items[items.size - 1 - i]?=some v) acc' items.size→Q (.ref s.heap.objs.size) { s with heap:=h',toks:=tk }) :
  wpAny (model prog w) A (call (.type "list") [.ref I]) Q E s:=by
 obtain⟨oI,hoI,_⟩:=id hit;obtain⟨ol,hol,_⟩:=id hl;have n1:s.heap.objs.size≠I:=Nat.ne_of_gt (Heap.lt_size hoI);have n2:s.heap.objs.size≠l:=Nat.ne_of_gt (Heap.lt_size hol);refine callType_codes (Q₁:=fun obj s₁=>obj=.ref s.heap.objs.size∧s₁={ s with heap:=s.heap.push { cls:=.type "list",data:=.seq #[] } }) F.called_list (F.typeCall_list_1 _) F.entry_list_init
  (code_list_new _ ⟨rfl,rfl⟩) fun obj s₁ h₁=>?_
 obtain⟨rfl,rfl⟩:=h₁;have hS:(s.heap.push { cls:=.type "list",data:=.seq #[] }).get? s.heap.objs.size=some { cls:=.type "list",data:=.seq #[] }:=Heap.get?_push_size _ rfl;refine⟨⟨_,hS,rfl⟩,F.args_list_init_2 _ _,?_⟩;show wpAny _ _ (do let old ← Builtin.List.listItems (.ref s.heap.objs.size);Builtin.List.listUpdate (.ref s.heap.objs.size) (fun z_=>#[]);letGo old.toList.reverse;Builtin.List.listExtendWith (.ref s.heap.objs.size) (.ref I) .none) _ _ _
 refine wpAny_bind ?_;unfold Builtin.List.listItems;refine wpAny_bind (wpAny_seqItems hS rfl (wpAny_pure ?_));show wpAny _ _ (updateSeq s.heap.objs.size (fun z_=>#[]) >>= fun z_=>letGo (#[]:Array Value).toList.reverse >>= fun z_=>Builtin.List.listExtendWith (.ref s.heap.objs.size) (.ref I) .none) _ _ _;refine wpAny_bind (wpAny_updateSeq hS rfl ?_);have hS₂:=Heap.get?_update_self (Obj.mapSeq (fun z_=>(#[]:Array Value))) hS rfl
 have oth:∀ b o,b≠s.heap.objs.size→s.heap.get? b=some o→((s.heap.push { cls:=.type "list",data:=.seq #[] }).update s.heap.objs.size (Obj.mapSeq (fun z_=>(#[]:Array Value)))).get? b=some o :=
  fun b o hb e=>(Heap.get?_update_other _ _ (Ne.symm hb)).trans (Heap.get?_push_of_some _ e)
 refine wpAny_bind (wpAny_letGo ?_);refine zja (A:=A.in1) (items:=items) hh (Heap.IsRevIter.at hit fun o e=>oth _ _ (Ne.symm n1) e) (hl.at fun o e=>oth _ _ (Ne.symm n2) e) hne hlen _ .none _ hS₂ n1 n2 fun h' tk acc' c' hk hS' hacc=>?_;exact⟨rfl,hQ h' tk acc' c' (fun b o hb e=>hk b o (Nat.ne_of_lt (Heap.lt_size e)) hb (oth b o (Nat.ne_of_lt (Heap.lt_size e)) e)) hS' hacc⟩
end
section
variable {am:Amb}{stack:List Env}{A:Around}{π:List Addr}{s:Shared}{Hc:H}
theorem zkn {xs:List Value}{acc:Array Value}(h:ItemsOf (fun i v=>(List.toArray xs)[(List.toArray xs).size - 1 - i]?=some v) acc (List.toArray xs).size):acc.toList=xs.reverse:=by
 obtain⟨h1,h2⟩:=h
 apply List.ext_getElem?
 intro i
 by_cases hi:i < xs.length
 ·have hia:i < acc.size:=by rw[h1];simpa using hi
  have:=h2 i acc[i] (Array.getElem?_eq_getElem hia);simp only[List.size_toArray,List.getElem?_toArray] at this;rw[List.getElem?_reverse hi,this];simp[hia]
 ·have hn:xs.length≤i:=by omega
  have h1':acc.size=xs.length:=by simpa using h1
  rw[List.getElem?_eq_none (by rw[Array.length_toList,h1'];exact hn),List.getElem?_eq_none (by rw[List.length_reverse];exact hn)]
theorem ziE {a:V}{x:Value}{vs:List V}{Q:Value→Shared→Prop}{E:Value→Shared→Prop}(hh:A.handled=none) (hr:HR am stack π Hc s.heap) (ha:VR am π s.heap a x) (hi:litems Hc a=some vs) (h:∀ y s',NewL am π s vs.reverse y s'→Q y s') :
  wpAny am.M A (call (.type "reversed") [x]) (fun y s'=>wpAny am.M A (call (.type "list") [y]) Q E s') E s:=by
 refine hold fun z_ k_=>?_;obtain⟨l,xs,rfl,hl,hz,hv⟩:=zaq hr ha hi;refine k_ ?_;have e:=hv.len;obtain⟨ol,hol,_⟩:=id hl;have hne:l≠s.heap.objs.size:=Nat.ne_of_lt (Heap.lt_size hol);refine call_reversed_list hl ?_;have hit:(s.heap.push (revObj l (((List.toArray xs).size:Int) - 1))).IsRevIter s.heap.objs.size l (((List.toArray xs).size:Int) - 1):=⟨_,Heap.get?_push_size _ rfl,rfl,rfl⟩;refine zfY (s:={ s with heap:=s.heap.push (revObj l (((List.toArray xs).size:Int) - 1)) }) hh hit (hl.push _) hne (by simp only[List.size_toArray];have:=zbB;omega) fun h' tk acc' c' k hn hacc=>?_
 have hacc':=zkn hacc;have e2:acc'=List.toArray xs.reverse:=by rw[←hacc']
 subst e2;have k':∀ b o,s.heap.get? b=some o→h'.get? b=some o:=fun b o q=>k b o (Nat.ne_of_lt (Heap.lt_size q)) (Heap.get?_push_of_some _ q);have hnew:s.heap.get? (s.heap.push (revObj l (((List.toArray xs).size:Int) - 1))).objs.size=none:=by
  cases q:s.heap.get? (s.heap.push (revObj l (((List.toArray xs).size:Int) - 1))).objs.size with
  |none=>rfl
  |some o =>
   have h5:=Heap.lt_size q;simp only[Heap.size_push] at h5;exact absurd h5 (Nat.not_lt.mpr (Nat.le_succ _))
 exact h _ _ ⟨_,xs.reverse,h',tk,rfl,rfl,k',hnew,⟨_,c',hn,rfl,rfl,rfl⟩,(hv.reverse.held hnew).keeps k'⟩
end
set_option maxRecDepth 100000
theorem zgx (K:Frag):kitOne K (.type "NoneType") (.type "int")=some false:=by kernel_rfl
theorem zfB (K:Frag):kitOne K (.type "NoneType") (.type "bool")=some false:=by kernel_rfl
theorem zfA (K:Frag):kitOne K (.type "NoneType") (.type "list")=some false:=by kernel_rfl
theorem zeK (K:Frag):kitOne K (.type "NoneType") (.type "tuple")=some false:=by kernel_rfl
theorem zgE (K:Frag):kitOne K (.type "bool") (.type "int")=some true:=by kernel_rfl
theorem zfI (K:Frag):kitOne K (.type "bool") (.type "bool")=some true:=by kernel_rfl
theorem zfH (K:Frag):kitOne K (.type "bool") (.type "list")=some false:=by kernel_rfl
theorem zeN (K:Frag):kitOne K (.type "bool") (.type "tuple")=some false:=by kernel_rfl
theorem zhq (K:Frag):kitOne K (.type "int") (.type "int")=some true:=by kernel_rfl
theorem zgB (K:Frag):kitOne K (.type "int") (.type "bool")=some false:=by kernel_rfl
theorem zgA (K:Frag):kitOne K (.type "int") (.type "list")=some false:=by kernel_rfl
theorem zfE (K:Frag):kitOne K (.type "int") (.type "tuple")=some false:=by kernel_rfl
theorem zhp (K:Frag):kitOne K (.type "str") (.type "int")=some false:=by kernel_rfl
theorem zgw (K:Frag):kitOne K (.type "str") (.type "bool")=some false:=by kernel_rfl
theorem zgv (K:Frag):kitOne K (.type "str") (.type "list")=some false:=by kernel_rfl
theorem zfz (K:Frag):kitOne K (.type "str") (.type "tuple")=some false:=by kernel_rfl
theorem zfy (K:Frag):kitOne K (.type "tuple") (.type "int")=some false:=by kernel_rfl
theorem zeJ (K:Frag):kitOne K (.type "tuple") (.type "bool")=some false:=by kernel_rfl
theorem zeI (K:Frag):kitOne K (.type "tuple") (.type "list")=some false:=by kernel_rfl
theorem zee (K:Frag):kitOne K (.type "tuple") (.type "tuple")=some true:=by kernel_rfl
theorem zgy (K:Frag):kitOne K (.type "list") (.type "int")=some false:=by kernel_rfl
theorem zfD (K:Frag):kitOne K (.type "list") (.type "bool")=some false:=by kernel_rfl
theorem zfC (K:Frag):kitOne K (.type "list") (.type "list")=some true:=by kernel_rfl
theorem zeL (K:Frag):kitOne K (.type "list") (.type "tuple")=some false:=by kernel_rfl
theorem zgC (K:Frag):kitOne K (.type "dict") (.type "int")=some false:=by kernel_rfl
theorem zfG (K:Frag):kitOne K (.type "dict") (.type "bool")=some false:=by kernel_rfl
theorem zfF (K:Frag):kitOne K (.type "dict") (.type "list")=some false:=by kernel_rfl
theorem zeM (K:Frag):kitOne K (.type "dict") (.type "tuple")=some false:=by kernel_rfl
noncomputable def tyVal:Ty→Value
 |.int=>.type "int"|.bool=>.type "bool"|.list=>.type "list"|.tuple=>.type "tuple"|.valueError=>.type "ValueError"
 |.own _=>.none
noncomputable def Ty.plain (t:Ty):Bool:=t.casesOn true true true true false fun z_=>false
noncomputable def kindC:Option Cell→Option String
 |some (.list _)=>some "list"
 |some (.dict _)=>some "dict"
 |none=>Option.none
noncomputable def kindOf (Hc:H):V→Option String
 |.none=>some "NoneType"
 |.bool _=>some "bool"
 |.int _=>some "int"
 |.str _=>some "str"
 |.tup _=>some "tuple"
 |.lst _=>some "list"
 |.dct=>some "dict"
 |.ref i=>kindC Hc[i]?
 |_=>Option.none
theorem zfQ {Hc:H}{i:Nat}{o:Option Cell}(hc:Hc[i]?=o) (t:Ty):isTy Hc (.ref i) t=refTy o t:=congrArg (fun o=>refTy o t) hc
theorem zb8 {Hc:H}{i:Nat}{o:Option Cell}(hc:Hc[i]?=o):kindOf Hc (.ref i)=kindC o:=congrArg kindC hc
theorem zgz (K:Frag){t:Ty}(ht:t.plain=true):∃ b,some (t == .list)=some b∧kitOne K (.type "list") (tyVal t)=some b:=by
 cases t<;>first|exact⟨_,rfl,zgy K⟩|exact⟨_,rfl,zfD K⟩|exact⟨_,rfl,zfC K⟩|exact⟨_,rfl,zeL K⟩|cases ht
theorem zgD (K:Frag){t:Ty}(ht:t.plain=true):∃ b,some false=some b∧kitOne K (.type "dict") (tyVal t)=some b:=by
 cases t<;>first|exact⟨_,rfl,zgC K⟩|exact⟨_,rfl,zfG K⟩|exact⟨_,rfl,zfF K⟩|exact⟨_,rfl,zeM K⟩|cases ht
theorem zkj (K:Frag){Hc:H}{a:V}{k:String}{t:Ty}(hk:kindOf Hc a=some k) (ht:t.plain=true):∃ b,isTy Hc a t=some b∧kitOne K (.type k) (tyVal t)=some b:=by
 cases a with
 |undef=>cases hk
 |exc c=>cases hk
 |none=>cases hk;cases t<;>first|exact⟨_,rfl,zgx K⟩|exact⟨_,rfl,zfB K⟩|exact⟨_,rfl,zfA K⟩|exact⟨_,rfl,zeK K⟩|cases ht
 |bool b=>cases hk;cases t<;>first|exact⟨_,rfl,zgE K⟩|exact⟨_,rfl,zfI K⟩|exact⟨_,rfl,zfH K⟩|exact⟨_,rfl,zeN K⟩|cases ht
 |int i=>cases hk;cases t<;>first|exact⟨_,rfl,zhq K⟩|exact⟨_,rfl,zgB K⟩|exact⟨_,rfl,zgA K⟩|exact⟨_,rfl,zfE K⟩|cases ht
 |str x=>cases hk;cases t<;>first|exact⟨_,rfl,zhp K⟩|exact⟨_,rfl,zgw K⟩|exact⟨_,rfl,zgv K⟩|exact⟨_,rfl,zfz K⟩|cases ht
 |tup vs=>cases hk;cases t<;>first|exact⟨_,rfl,zfy K⟩|exact⟨_,rfl,zeJ K⟩|exact⟨_,rfl,zeI K⟩|exact⟨_,rfl,zee K⟩|cases ht
 |lst vs=>cases hk;exact zgz K ht
 |dct=>cases hk;exact zgD K ht
 |ref i =>
  cases hc:Hc[i]? with
  |none=>rw[zb8 hc] at hk;cases hk
  |some c =>
   cases c with
   |list vs=>rw[zb8 hc] at hk;cases hk;rw[zfQ hc];exact zgz K ht
   |dict es=>rw[zb8 hc] at hk;cases hk;rw[zfQ hc];exact zgD K ht
section
variable {am:Amb}{stack:List Env}{A:Around}{π:List Addr}{s:Shared}{Hc:H}
set_option tactic.hygienic true in
theorem zki {a:V}{x:Value}(hr:HR am stack π Hc s.heap) (ha:VR am π s.heap a x) (hne:kindOf Hc a≠Option.none):∃ k P,kindOf Hc a=some k∧KitX am.K x (.type k) P∧P s.heap∧x≠.builtin "__main__.__loader__#opaque":=by
 cases a<;>simp only[VR] at ha<;>try (exact ha.elim)
 ·subst ha;exact⟨_,_,rfl,kitx_none,trivial,by simp⟩
 ·subst ha;exact⟨_,_,rfl,kitx_bool,trivial,by simp⟩
 ·obtain⟨t,rfl⟩:=ha;exact⟨_,_,rfl,kitx_int,trivial,by simp⟩
 ·obtain⟨t,rfl⟩:=ha;exact⟨_,_,rfl,kitx_str,trivial,by simp⟩
 ·obtain⟨l,xs,rfl,_,⟨o,ho,hc,_⟩,_⟩:=ha;exact⟨_,_,rfl,kitx_tuple,⟨o,ho,hc⟩,by simp⟩
 ·obtain⟨l,xs,rfl,_,⟨o,ho,hc,_⟩,_⟩:=ha;exact⟨_,_,rfl,kitx_list,⟨o,ho,hc⟩,by simp⟩
 ·rename_i i
  obtain⟨l,rfl,hl⟩:=ha
  cases hc:Hc[i]? with
  |none=>exact absurd (zb8 hc) hne
  |some c =>
   cases c with
   |list vs =>
    refine hold fun z_ k_=>?_;obtain⟨xs,⟨o,n,ho,hcl,_⟩,_⟩:=(hr.cell i _ l hc hl).list;refine k_ ?_;exact⟨"list",_,zb8 hc,kitx_list,⟨o,ho,hcl⟩,by simp⟩
   |dict es =>
    obtain⟨o,xs,ho,⟨_,arr,ep,hcl,_⟩,_⟩:=hr.cell i _ l hc hl;exact⟨"dict",_,zb8 hc,kitx_dict,⟨o,ho,hcl⟩,by simp⟩
 ·obtain⟨l,o,es,ep,rfl,_,ho,hc,_⟩:=ha;exact⟨_,_,rfl,kitx_dict,⟨o,ho,hc⟩,by simp⟩
theorem zgH {a:V}{t:Ty}{b:Bool}(h:isTy Hc a t=some b):kindOf Hc a≠Option.none:=by
 cases a with
 |undef=>cases h
 |exc c=>cases h
 |ref i =>
  cases hc:Hc[i]? with
  |none=>rw[zfQ hc] at h;cases h
  |some c=>rw[zb8 hc];cases c<;>exact fun q=>nomatch q
 |_=>exact fun q=>nomatch q
theorem zpx {a:V}{x:Value}{t:Ty}(hK:Frag.In am.K am.B) (hr:HR am stack π Hc s.heap) (ha:VR am π s.heap a x) (ht:t.plain=true) :
  JAt am stack A (call (.builtin "isinstance") [x,tyVal t]) (R.opt ((isTys Hc a [t]).map V.bool) Hc) (VR am) π s:=by
 cases hb:isTy Hc a t with
 |none=>exact .inl (by simp only[isTys,hb];rfl)
 |some b =>
  refine hold fun z_ k_=>?_;obtain⟨k,P,hk,Z,p,hx⟩:=zki hr ha (zgH hb);refine k_ ?_;obtain⟨b',h1,h2⟩:=zkj am.K hk ht;rw[hb] at h1;cases h1
  have e:isTys Hc a [t]=some b:=by simp only[isTys,hb];cases b<;>rfl
  rw[e];exact .inr (kia_one Z (hK.keeps hr.base) p h2 hx fun tk=>OkP.tok hr rfl)
theorem znV {a:V}{x:Value}{ts:List Ty}{tp:Addr}{n:Nat}{dd:Option Addr}{sl:Array (Option Value)}(hK:Frag.In am.K am.B) (hr:HR am stack π Hc s.heap) (ha:VR am π s.heap a x) (ht:ts.all Ty.plain=true) (hts:ts≠[]) (htp:s.heap.get? tp=some ⟨.type "tuple",dd,.seq (List.toArray (ts.map tyVal)) n,sl⟩) :
  JAt am stack A (call (.builtin "isinstance") [x,.ref tp]) (R.opt ((isTys Hc a ts).map V.bool) Hc) (VR am) π s:=by
 cases hb:isTys Hc a ts with
 |none=>exact .inl rfl
 |some b =>
  by_cases hne:kindOf Hc a=Option.none
  ·cases ts with
   |nil=>exact absurd rfl hts
   |cons t ts =>
    simp only[isTys] at hb
    cases hq:isTy Hc a t with
    |none=>simp[hq] at hb
    |some b'=>exact absurd hne (zgH hq)
  ·refine hold fun z_ k_=>?_
   obtain⟨k,P,hk,Z,p,hx⟩:=zki hr ha hne;refine k_ ?_;have key:∀ ts:List Ty,ts.all Ty.plain=true→∀ b,isTys Hc a ts=some b→kitAny am.K (.type k) (ts.map tyVal)=some b:=by
    intro ts
    induction ts with
    |nil=>intro _ b h;simpa [isTys,kitAny] using h
    |cons t ts ih =>
     intro ht b h;simp only[List.all_cons,Bool.and_eq_true] at ht;obtain⟨b',h1,h2⟩:=zkj am.K hk ht.1;simp only[isTys,h1] at h;simp only[List.map_cons,kitAny,h2]
     cases b' with
     |true=>exact h
     |false=>exact ih ht.2 b h
   exact .inr (kia_tup Z (hK.keeps hr.base) p htp (key ts ht b hb) hx fun tk=>OkP.tok hr rfl)
theorem zit (n:Nat) (i:Int):clipAt n i=cut n i:=by
 unfold clipAt cut
 by_cases hi:i < 0
 ·have le:i+n≤n:=by
   have:=Int.add_le_add_right (Int.le_of_lt hi) (n:Int)
   rwa [Int.zero_add] at this
  rw[if_pos hi,if_pos hi,Int.min_eq_left le]
  rcases Int.le_total 0 (i+n) with h|h
  ·rw[Int.max_eq_right h]
  ·rw[Int.max_eq_left h];exact(Int.toNat_of_nonpos h).symm
 ·rw[if_neg hi,if_neg hi]
  obtain⟨k,rfl⟩:=Int.eq_ofNat_of_zero_le (Int.not_lt.1 hi)
  rcases Nat.le_total k n with h|h
  ·rw[Int.min_eq_left (Int.ofNat_le.2 h),Int.max_eq_right (Int.natCast_nonneg k),Int.toNat_natCast,Nat.min_eq_left h]
  ·rw[Int.min_eq_right (Int.ofNat_le.2 h),Int.max_eq_right (Int.natCast_nonneg n),Int.toNat_natCast,Int.toNat_natCast,Nat.min_eq_right h]
theorem ziL (xs:List Value) (lo hi:Option Int):slicePick (List.toArray xs) lo hi none=List.toArray (slc xs lo hi):=by
 rw[slicePick_plain];unfold slc;simp only[List.size_toArray];have e1:(lo.elim 0 (clipAt xs.length))=(match lo with|some i=>cut xs.length i|none=>0):=by cases lo<;>simp[zit]
 have e2:(hi.elim xs.length (clipAt xs.length))=(match hi with|some i=>cut xs.length i|none=>xs.length):=by cases hi<;>simp[zit]
 rw[e1,e2]
 congr 1
 first|(rw[List.drop_take];done)|(rw[List.drop_take];rfl)
theorem VRs.slc {vs:List V}{xs:List Value}{h:Heap}(lo hi:Option Int) (e:VRs am π h vs xs):VRs am π h (Mine.slc vs lo hi) (Mine.slc xs lo hi):=by
 unfold Mine.slc;rw[e.len];exact(e.take _).drop _
theorem znv {α:Type}(xs:List α) (lo hi:Option Int):(slc xs lo hi).length≤xs.length:=by
 unfold slc;rw[List.length_drop,List.length_take];exact Nat.le_trans (Nat.sub_le ..) (Nat.min_le_right ..)
noncomputable def PartR:Option V→Option Int→Value→Prop
 |none,lo,x=>lo=none∧x=.none
 |some v,lo,x=>∃ i t,v=.int i∧lo=some i∧x=.int i t
theorem PartR.is {v:Option V}{lo:Option Int}{x:Value}(h:PartR v lo x):IsPart x lo:=by
 cases v with
 |none=>obtain⟨rfl,rfl⟩:=h;exact .none
 |some v=>obtain⟨i,t,_,rfl,rfl⟩:=h;exact .int i t
theorem zli {value slice:Expr}{a:V}{x:Value}{vs:List V}{lo hi:Option Int}{vl vu:Value}{Q:Value→Shared→Prop}{E:Value→Shared→Prop}(hr:HR am stack π Hc s.heap) (ha:VR am π s.heap a x) (hi':litems Hc a=some vs) (pl:IsPart vl lo) (pu:IsPart vu hi)
  (h:∀ y s1 s',Step (Fs stack) π s π s1→HR am stack π Hc s1.heap→(slc vs lo hi).length≤1000000→NewL am π s1 (slc vs lo hi) y s'→Q y s') :
  wpAny am.M A (newFields "slice" [vl,vu,.none]) (fun i s₁=>wpAny am.M A (subscriptTail value slice x i) Q E s₁) E s:=by
 refine hold fun z_ k_=>?_;obtain⟨l,xs,rfl,hl,hz,hv⟩:=zaq hr ha hi';refine k_ ?_;have e:=hv.len;unfold newFields;refine wpAny_newObj_type ?_;have k:∀ b o,s.heap.get? b=some o→(s.heap.push { cls:=.type "slice",data:=.fields #[vl,vu,.none] }).get? b=some o:=fun b o q=>Heap.get?_push_of_some _ q;refine zcY (s:={ s with heap:=s.heap.push { cls:=.type "slice",data:=.fields #[vl,vu,.none] } }) (hl.push _).typeIs list_getitem_lookup
  (wpAny_getItem_list_slice (hl.push _) (Heap.IsSliceOf.new ..) pl pu .none (by simp) ?_ (by rw[List.size_toArray,e];exact za7 hz))
 rw[ziL];have n:=NewL.push (am:=am) (π:=π) (s:={ s with heap:=s.heap.push { cls:=.type "slice",data:=.fields #[vl,vu,.none] } }) (o:={ cls:=.type "list",data:=.seq (List.toArray (slc xs lo hi)) }) (n:=0) (tk:=s.toks) ((hv.slc lo hi).keeps k) rfl rfl rfl
 exact h _ _ _ (Step.keeps (tk:=s.toks) k) (hr.keeps k) (Nat.le_trans (znv _ _ _) hz) n
end
end Mine
namespace Mine
open PySem PySem.W
noncomputable def Amb.at (am:Amb) (res:List Addr):Amb:={ am with res:=res }
noncomputable def btOk:Value→Bool
 |.builtin _=>true
 |.type _=>true
 |_=>false
theorem zqu:bTab.all (fun p=>btOk p.2)=true:=by kernel_rfl
theorem zmu {v:Value}(h:btOk v=true):(∃ id,v=.builtin id)∨∃ T,v=.type T:=by
 cases v<;>first|exact .inl ⟨_,rfl⟩|exact .inr ⟨_,rfl⟩|exact noB h
theorem zoD {x:Str}{v:Value}(h:(x,v)∈bTab):(∃ id,v=.builtin id)∨∃ T,v=.type T:=zmu (List.all_eq_true.mp zqu _ h)
theorem zc8 {x:Str}{v:Value}(h:bTab.contains (x,v)=true):(x,v)∈bTab:=List.contains_iff_mem.mp h
structure ExcCls (am:Amb) (c:String) (C:Addr):Prop where
 name:am.mg (Str.ofString c)=some (.ref C)
 get:findIn am.K (.ref C) "__getattribute__"=some (some (.builtin "BaseException.__getattribute__"))∧findIn am.K (.ref C) "__getattr__"=some none
 cls:(clsIn am.K C).isSome=true
 find:findIn am.K (.ref C) "__class__"=some (some (.builtin "object.__class__"))
 spec:specialIn am.K (.builtin "object.__class__") "__get__"=some (some (.builtin "getset_descriptor.__get__"))
 takes:takesIn am.K (.builtin "object.__class__")=some true
 mro:mroIn am.K C (.type "object")=some true
 val:kitOne am.K (.ref C) (.type "ValueError")=some true
structure AmbX (am:Amb):Prop extends AmbOK am where
 K:Frag.In am.K am.B
 bt:∀ p∈bTab,am.mg p.1=none∧am.mb p.1=some p.2
theorem AmbX.at {am:Amb}(x:AmbX am) (res:List Addr):AmbX (am.at res):=⟨⟨x.g,x.b,x.nolimit,x.noseer,x.tree⟩,x.K,x.bt⟩
noncomputable def FunAt (am:Amb) (f:String) (a:Addr):Prop:=am.mg (Str.ofString f)=some (.ref a)∧∃ o fd,am.B.get? a=some o∧o.data=.func fd
structure CkR (am:Amb) (c:Ck) (cx:Cx):Prop where
 ctx:cx.ctx=c.ctx
 names:cx.env.scope.names=c.names
 fns:∀ f∈c.fns,∃ a,FunAt am f a
 nums:∀ p∈c.nums,∃ t,am.mg (Str.ofString p.1)=some (.int p.2 t)
noncomputable def ArgR (am:Amb) (q:Bool) (π:List Addr) (h:Heap) (vs:List V) (xs:List Value):Prop :=
 VRs am π h vs xs
structure FnOK (am:Amb) (n:Nat) (F:Fn):Prop where
 call:∀ res q f a vs xs stack A π Hc s,FunAt am f a→AS n stack A→HR (am.at res) stack π Hc s.heap→Hd q A π (Fs stack) s.heap→ArgR (am.at res) q π s.heap vs xs →
  JAt (am.at res) stack A (PySem.call (.ref a) xs []) (F q f vs Hc) (VR (am.at res)) π s
structure Base (am:Amb) (n:Nat) (q:Bool) (F:Fn) (c:Ck) (cx:Cx) (ρ:List V) (A:Around):Prop where
 ok:AmbX am
 fn:FnOK am n F
 ck:CkR am c cx
 cxk:CxOK cx
 as:AS n cx.stack A
 ne:q=true→NoExc ρ
section
variable {am:Amb}{n:Nat}{q:Bool}{F:Fn}{c:Ck}{cx:Cx}{ρ:List V}{A:Around}{res π:List Addr}{Hc:H}{s:Shared}
theorem zh0 {B h:Heap}(k:B.StaysIn h){a:Addr}{m:Str→Option Value}(hn:B.Ns a m):h.Ns a m:=let ⟨o,es,ep,ho,r⟩:=hn;⟨o,es,ep,k a o ho,r⟩
theorem HR.gns {am:Amb}{stack:List Env}(ok:AmbX am) (hr:HR (am.at res) stack π Hc s.heap):s.heap.Ns mainGlobals am.mg:=zh0 hr.base ok.g
theorem HR.bns {am:Amb}{stack:List Env}(ok:AmbX am) (hr:HR (am.at res) stack π Hc s.heap):s.heap.Ns builtinsNs am.mb:=zh0 hr.base ok.b
theorem zfJ (b:CkR am c cx) (x:Str):cx.env.kindOf x=c.names.lookup x:=by unfold Env.kindOf;rw[b.names]
theorem zjo (b:Base am n q F c cx ρ A) (hr:HR (am.at res) cx.stack π Hc s.heap){x:Str}{p:Pos}{v:Value}{Q:Value→Shared→Prop}{E:Value→Shared→Prop}(hx:c.glob x=true) (hv:am.mg x=some v) (h:Q v s) :
  wpAny am.M A (eval (.Name x p) cx.env) Q E s:=by
 unfold Ck.glob at hx;simp only[Bool.and_eq_true,beq_iff_eq,Bool.not_eq_true'] at hx;refine Calls.Name_function_global b.cxk.kind (by rw[zfJ b.ck];exact hx.1) (Calls.loadGlobal_global (mg:=am.mg) ?_ hv h) hx.2
 rw[b.cxk.globals];exact HR.gns b.ok hr
theorem zoW (b:Base am n q F c cx ρ A) (hr:HR (am.at res) cx.stack π Hc s.heap){x:Str}{p:Pos}{v:Value}{Q:Value→Shared→Prop}{E:Value→Shared→Prop}(hx:c.glob x=true) (hv:(x,v)∈bTab) (h:Q v s) :
  wpAny am.M A (eval (.Name x p) cx.env) Q E s:=by
 unfold Ck.glob at hx;simp only[Bool.and_eq_true,beq_iff_eq,Bool.not_eq_true'] at hx;obtain⟨h1,h2⟩:=b.ok.bt _ hv;refine Calls.Name_function_global b.cxk.kind (by rw[zfJ b.ck];exact hx.1) (Calls.loadGlobal_builtin (mg:=am.mg) (mb:=am.mb) ?_ h1 ?_ h2 h) hx.2
 ·rw[b.cxk.globals];exact HR.gns b.ok hr
 ·rw[b.cxk.builtins];exact HR.bns b.ok hr
theorem zoU (b:Base am n q F c cx ρ A) (st:St (am.at res) q cx ρ π Hc A s){x:Str}{i:Nat}{p:Pos}{v:V}{Q:Value→Shared→Prop}{E:Value→Shared→Prop}(hx:c.var x i=true) (hv:ρ[i]?=some v) (hu:v≠.undef)
  (h:∀ v',SR (am.at res) π s.heap v v'→Q v' s):wpAny am.M A (eval (.Name x p) cx.env) Q E s:=by
 unfold Ck.var at hx;simp only[Bool.and_eq_true,beq_iff_eq,Bool.not_eq_true'] at hx;refine hold fun z_ k_=>?_;obtain⟨⟨⟨h1,h2⟩,h3⟩,h4⟩:=hx;refine k_ ?_;have hvis:Vis cx.env x:=by
  unfold Vis;rw[zfJ b.ck];unfold zg0 at h2;simp only[Bool.or_eq_true,beq_iff_eq] at h2
  rcases h2 with(h2|h2)|h2<;>simp[h2]
 obtain⟨v',h5,h6⟩:=st.er.var x i v (by rw[b.ck.ctx];exact h1) hv hu hvis
 refine wpAny_Name ?_ h3
 rcases h5 with⟨k,m,h7,h8⟩|⟨k,cc,h7,h8⟩
 ·exact wpAny_loadName_local b.cxk.kind k h7 h8 (h v' h6)
 ·rcases k with k|k
  ·exact wpAny_loadName_cell b.cxk.kind k h7 h8 (h v' h6)
  ·exact wpAny_loadName_free b.cxk.kind k h7 h8 (h v' h6) h4
theorem zqb (b:Base am n q F c cx ρ A) (st:St (am.at res) q cx ρ π Hc A s){x:Str}{i:Nat}{p:Pos}(hx:c.var x i=true) :
  JAt (am.at res) cx.stack A (eval (.Name x p) cx.env) (evE q F ρ (.var i) Hc) (VR (am.at res)) π s:=by
 simp only[zb0,zbZ,zbP,zbO,zbN,zbY,zbz,zbX,zbM,zaU,zaE,zaT,zaj,zaD,zaK,zaC,zaS,zak,zas,zaB,zaJ,zaR,zaQ,zaA,zaP,zaz,zan,zay,zaO,zaI,zax,zaN,zaH,qE_34,zaM,zaw,zaG,zav]
 cases hv:ρ[i]? with
 |none=>exact .inl rfl
 |some v =>
  have go:(∀ c,v≠.exc c)→v≠.undef→JAt (am.at res) cx.stack A (eval (.Name x p) cx.env) (.ok v Hc) (VR (am.at res)) π s :=
   fun h1 h2=>.inr (zoU b st hx hv h2 fun v' h=>OkP.here st.hr (h.vr h1))
  cases v with
  |undef=>exact .inl rfl
  |exc c=>exact .inl rfl
  |_=>exact go (by simp) (by simp)
noncomputable def tr (r:R V):R Bool:=r.bind fun x h=>match truthy x with
 |some b=>.ok b h
 |none=>.bad
noncomputable def BR (_:List Addr) (_:Heap) (b:Bool) (a:Bool):Prop:=b=a
theorem zdO {am:Amb}{stack:List Env}{x:Value}{v:V}(hr:HR am stack π Hc s.heap) (hv:VR am π s.heap v x) :
  JAt am stack A (PySem.truthy x) ((match truthy v with|some b=>R.ok b Hc|none=>R.bad)) BR π s:=by
 cases v with
 |bool b=>simp only[VR] at hv;subst hv;exact .inr (wpAny_truthy_bool (OkP.here hr rfl))
 |_=>exact .inl rfl
theorem zer {α:Type}(r:R α) (f:α→H→R V):tr (r.bind f)=r.bind fun a h=>tr (f a h):=by cases r<;>rfl
theorem zjz {α:Type}(r:R V) (f:Bool→H→R α):(tr r).bind f=r.bind fun x h=>match truthy x with
 |some b=>f b h
 |none=>.bad:=by
 cases r with
 |ok v h=>simp only[tr,R.bind];cases truthy v<;>rfl
 |_=>rfl
end
end Mine
namespace Mine
open PySem PySem.W PyProof.Rows
section
variable {am:Amb}{stack:List Env}{A:Around}{α β γ δ:Type}{Rel:List Addr→Heap→β→α→Prop}{Rel':List Addr→Heap→δ→γ→Prop}{π:List Addr}{s:Shared}
theorem JAt.seq {m:Sem α}{t:Sem γ}{f:α→Sem γ}{r:R β}{g:β→H→R δ}
  (K:∀ (Q:γ→Shared→Prop) (E:Value→Shared→Prop),wpAny am.M A m (fun a s₁=>wpAny am.M A (f a) Q E s₁) E s→wpAny am.M A t Q E s) (h1:JAt am stack A m r Rel π s)
  (h2:∀ a b H' π' s',r=.ok b H'→Step (Fs stack) π s π' s'→HR am stack π' H' s'.heap→Rel π' s'.heap b a→JAt am stack A (f a) (g b H') Rel' π' s') :
  JAt am stack A t (r.bind g) Rel' π s :=
 JAt.seqP (P:=fun z_ z_=>True) (fun Q E h=>K Q E (wpAny_mono h (fun z_ z_ x=>x.2) fun z_ z_ x=>x)) h1 fun a b H' π' s' e1 e2 e3 e4=>⟨trivial,h2 a b H' π' s' e1 e2 e3 e4⟩
end
section
variable (am:Amb) (n:Nat) (q:Bool) (F:Fn) (c:Ck)
noncomputable def EJ (e:PE) (ex:Expr):Prop:=∀ {cx:Cx}{ρ:List V}{A:Around}{res π:List Addr}{Hc:H}{s:Shared},Base am n q F c cx ρ A→St (am.at res) q cx ρ π Hc A s →
 JAt (am.at res) cx.stack A (eval ex cx.env) (evE q F ρ e Hc) (VR (am.at res)) π s
noncomputable def TJ (e:PE) (ex:Expr):Prop:=∀ {cx:Cx}{ρ:List V}{A:Around}{res π:List Addr}{Hc:H}{s:Shared},Base am n q F c cx ρ A→St (am.at res) q cx ρ π Hc A s →
 JAt (am.at res) cx.stack A (isTrue ex cx.env (eval ex cx.env)) (tr (evE q F ρ e Hc)) BR π s
noncomputable def AllJ:List PE→List Expr→Prop
 |[],[]=>True
 |e::es,x::xs=>(isStar x=false∧EJ am n q F c e x∧TJ am n q F c e x)∧AllJ es xs
 |_,_=>False
end
noncomputable def zc2 (e:Expr):Bool:=@Expr.casesOn (fun z_=>Bool) e (fun z_ z_ z_=>false) (fun z_ z_ z_=>true) (fun z_ z_ z_ z_=>true) (fun o z_ z_=>decide (o≠.Not)) (fun z_ z_ z_ z_=>true) (fun z_ z_ z_ z_=>false) (fun z_ z_ z_=>true) (fun z_ z_ z_=>true) (fun z_ z_ z_ z_=>true) (fun z_ z_ z_ z_=>true) (fun z_ z_ z_ z_ z_=>true) (fun z_ z_ z_ z_=>true) (fun z_ z_=>true) (fun z_ z_=>true) (fun z_ z_=>true) (fun z_ z_ z_ z_=>false) (fun z_ z_ z_ z_=>true) (fun z_ z_ z_ z_=>true) (fun z_ z_=>true) (fun z_ z_ z_=>true) (fun z_ z_ z_=>true) (fun z_ z_ z_=>true) (fun z_ z_=>true) (fun z_ z_=>true) (fun z_ z_=>true) (fun z_ z_ z_=>true) (fun z_ z_ z_ z_=>true)
set_option tactic.hygienic true in
theorem zgI {ex:Expr}(h:zc2 ex=true) (env:Env) (whole:Sem Value):isTrue ex env whole=(do let v ← whole;standAt ex.pos;holding [v] (PySem.truthy v)):=by
 cases ex<;>first|rfl|exact noB h|skip
 rename_i op x pos
 cases op<;>first|rfl|exact noB h
section
variable {am:Amb}{n:Nat}{q:Bool}{F:Fn}{c:Ck}
theorem EJ.test {e:PE}{ex:Expr}(h:EJ am n q F c e ex) (hp:zc2 ex=true):TJ am n q F c e ex:=by
 intro cx ρ A res π Hc s b st;refine JAt.congr (zgI hp _ _) rfl ?_;unfold tr;refine JAt.bind (h b st) fun x v H1 π1 s1 z_ hs1 hr1 hv1=>JAt.standAt (JAt.holding (zdO hr1 hv1))
theorem zqv {op:Bop}{o:Operator}(h:bopIs op o=true):o=bopM op:=(of_decide_eq_true h).symm
theorem ze4 {op:Cop}{o:CmpOp}(h:copIs op o=true):o=copM op:=(of_decide_eq_true h).symm
theorem zoq {k:Nat}{p:Pos}:EJ am n q F c .none (.Constant .none k p):=fun z_ st=>by
 simp only[zb0,zbZ,zbP,zbO,zbN,zbY,zbz,zbX,zbM,zaU,zaE,zaT,zaj,zaD,zaK,zaC,zaS,zak,zas,zaB,zaJ,zaR,zaQ,zaA,zaP,zaz,zan,zay,zaO,zaI,zax,zaN,zaH,qE_34,zaM,zaw,zaG,zav];exact .inr (wpAny_Constant_none (OkP.here st.hr rfl))
theorem zou {b:Bool}{k:Nat}{p:Pos}:EJ am n q F c (.bool b) (.Constant (.bool b) k p):=fun z_ st=>by
 simp only[zb0,zbZ,zbP,zbO,zbN,zbY,zbz,zbX,zbM,zaU,zaE,zaT,zaj,zaD,zaK,zaC,zaS,zak,zas,zaB,zaJ,zaR,zaQ,zaA,zaP,zaz,zan,zay,zaO,zaI,zax,zaN,zaH,qE_34,zaM,zaw,zaG,zav];exact .inr (wpAny_Constant_bool (OkP.here st.hr rfl))
theorem zm6 {i:Int}{k:Nat}{p:Pos}:EJ am n q F c (.int i) (.Constant (.int i) k p):=fun z_ st=>by
 simp only[zb0,zbZ,zbP,zbO,zbN,zbY,zbz,zbX,zbM,zaU,zaE,zaT,zaj,zaD,zaK,zaC,zaS,zak,zas,zaB,zaJ,zaR,zaQ,zaA,zaP,zaz,zan,zay,zaO,zaI,zax,zaN,zaH,qE_34,zaM,zaw,zaG,zav];exact .inr (wpAny_Constant_int (OkP.tok st.hr ⟨_,rfl⟩))
theorem zqe {t:String}{k:Nat}{p:Pos}:EJ am n q F c (.str t) (.Constant (.str (Str.ofString t)) k p):=fun z_ st=>by
 simp only[zb0,zbZ,zbP,zbO,zbN,zbY,zbz,zbX,zbM,zaU,zaE,zaT,zaj,zaD,zaK,zaC,zaS,zak,zas,zaB,zaJ,zaR,zaQ,zaA,zaP,zaz,zan,zay,zaO,zaI,zax,zaN,zaH,qE_34,zaM,zaw,zaG,zav];exact .inr (wpAny_Constant_str (OkP.tok st.hr ⟨_,rfl⟩))
theorem zqc {i:Nat}{x:Str}{p:Pos}(h:c.var x i=true):EJ am n q F c (.var i) (.Name x p):=fun b st=>zqb b st h
theorem zor {g:String}{i:Int}{p:Pos}(h:c.glob (Str.ofString g)=true) (hm:(g,i)∈c.nums):EJ am n q F c (.glob g i) (.Name (Str.ofString g) p):=fun b st=>by
 simp only[zb0,zbZ,zbP,zbO,zbN,zbY,zbz,zbX,zbM,zaU,zaE,zaT,zaj,zaD,zaK,zaC,zaS,zak,zas,zaB,zaJ,zaR,zaQ,zaA,zaP,zaz,zan,zay,zaO,zaI,zax,zaN,zaH,qE_34,zaM,zaw,zaG,zav];obtain⟨t,ht⟩:=b.ck.nums _ hm;exact .inr (zjo b st.hr h ht (OkP.here st.hr ⟨t,rfl⟩))
theorem zqi {i:Int}{k:Nat}{p p':Pos}:EJ am n q F c (.neg i) (.UnaryOp .USub (.Constant (.int i) k p) p'):=fun {cx ρ A res π Hc s} b st=>by
 simp only[zb0,zbZ,zbP,zbO,zbN,zbY,zbz,zbX,zbM,zaU,zaE,zaT,zaj,zaD,zaK,zaC,zaS,zak,zas,zaB,zaJ,zaR,zaQ,zaA,zaP,zaz,zan,zay,zaO,zaI,zax,zaN,zaH,qE_34,zaM,zaw,zaG,zav];refine .inr (wpAny_UnaryOp (wpAny_Constant_int ?_));exact neg_int (OkP.step (Step.tok _) (OkP.tok (st.hr.keeps fun z_ z_ e=>e) ⟨_,rfl⟩))
theorem zqm {op:Bop}{o:Operator}{a b:PE}{l r:Expr}{p:Pos}(ho:bopIs op o=true) (ha:EJ am n q F c a l) (hb:EJ am n q F c b r):EJ am n q F c (.bin op a b) (.BinOp l o r p):=fun {cx ρ A res π Hc s} B st=>by
 rw[zqv ho];simp only[zb0,zbZ,zbP,zbO,zbN,zbY,zbz,zbX,zbM,zaU,zaE,zaT,zaj,zaD,zaK,zaC,zaS,zak,zas,zaB,zaJ,zaR,zaQ,zaA,zaP,zaz,zan,zay,zaO,zaI,zax,zaN,zaH,qE_34,zaM,zaw,zaG,zav];refine JAt.congr (arm_eval_BinOp ..) rfl (JAt.bind (ha B st) fun x v H1 π1 s1 z_ hs1 hr1 hv1=>?_);refine JAt.bind (JAt.holding (hb B (st.step hs1 hr1))) fun y w H2 π2 s2 z_ hs2 hr2 hv2=>?_;exact JAt.standAt (JAt.operate (zpC (B.ok.at res).toAmbOK B.cxk.stackOK B.as hr2 (hv1.step hs2) hv2))
theorem zqh {a:PE}{x:Expr}{p:Pos}(ha:EJ am n q F c a x):EJ am n q F c (.not a) (.UnaryOp .Not x p):=fun {cx ρ A res π Hc s} B st=>by
 simp only[zb0,zbZ,zbP,zbO,zbN,zbY,zbz,zbX,zbM,zaU,zaE,zaT,zaj,zaD,zaK,zaC,zaS,zak,zas,zaB,zaJ,zaR,zaQ,zaA,zaP,zaz,zan,zay,zaO,zaI,zax,zaN,zaH,qE_34,zaM,zaw,zaG,zav];refine JAt.congr (arm_eval_UnaryOp ..) rfl (JAt.bind (ha B st) fun x v H1 π1 s1 z_ hs1 hr1 hv1=>?_);exact JAt.standAt (JAt.holding (zps hr1 hv1))
theorem zo1 {a:PE}{x:Expr}{p:Pos}(ha:TJ am n q F c a x):TJ am n q F c (.not a) (.UnaryOp .Not x p):=fun {cx ρ A res π Hc s} B st=>by
 have e:tr (evE q F ρ (.not a) Hc)=(tr (evE q F ρ a Hc)).bind fun b h=>.ok (!b) h:=by
  simp only[zb0,zbZ,zbP,zbO,zbN,zbY,zbz,zbX,zbM,zaU,zaE,zaT,zaj,zaD,zaK,zaC,zaS,zak,zas,zaB,zaJ,zaR,zaQ,zaA,zaP,zaz,zan,zay,zaO,zaI,zax,zaN,zaH,qE_34,zaM,zaw,zaG,zav,tr]
  cases evE q F ρ a Hc with
  |ok v h=>simp only[R.bind_ok];cases truthy v<;>rfl
  |_=>rfl
 rw[e];refine JAt.congr (arm_isTrue_UnaryOp ..) rfl (JAt.bind (ha B st) fun x v H1 π1 s1 z_ hs1 hr1 hv1=>?_);exact JAt.pure hr1 (congrArg _ hv1)
theorem zdI {op:CmpOp}{r:Expr}(h:isSet r=false) (t:Sem Value):markedBehindIn op r t=t:=by
 have:behindInMarks op r=false:=by cases r<;>first|rfl|exact noB h.symm
 unfold markedBehindIn;rw[this]
theorem zql {op:Cop}{o:CmpOp}{a b:PE}{l r:Expr}{p:Pos}(ho:copIs op o=true) (hs:isSet r=false) (ha:EJ am n q F c a l) (hb:EJ am n q F c b r):EJ am n q F c (.cmp op a b) (.Compare l [o] [r] p):=fun {cx ρ A res π Hc s} B st=>by
 rw[ze4 ho];simp only[zb0,zbZ,zbP,zbO,zbN,zbY,zbz,zbX,zbM,zaU,zaE,zaT,zaj,zaD,zaK,zaC,zaS,zak,zas,zaB,zaJ,zaR,zaQ,zaA,zaP,zaz,zan,zay,zaO,zaI,zax,zaN,zaH,qE_34,zaM,zaw,zaG,zav];refine JAt.congr (eval_Compare1 ..) rfl (JAt.bind (ha B st) fun x v H1 π1 s1 z_ hs1 hr1 hv1=>?_);rw[zdI hs];refine JAt.bind (JAt.holding (hb B (st.step hs1 hr1))) fun y w H2 π2 s2 z_ hs2 hr2 hv2=>?_;exact JAt.standAt (JAt.operate (zeX B.as hr2 (hv1.step hs2) hv2))
theorem zo2 {op:Cop}{o:CmpOp}{a b:PE}{l r:Expr}{p:Pos}(ho:copIs op o=true) (hs:isSet r=false) (ha:EJ am n q F c a l) (hb:EJ am n q F c b r):TJ am n q F c (.cmp op a b) (.Compare l [o] [r] p):=fun {cx ρ A res π Hc s} B st=>by
 rw[ze4 ho];simp only[zb0,zbZ,zbP,zbO,zbN,zbY,zbz,zbX,zbM,zaU,zaE,zaT,zaj,zaD,zaK,zaC,zaS,zak,zas,zaB,zaJ,zaR,zaQ,zaA,zaP,zaz,zan,zay,zaO,zaI,zax,zaN,zaH,qE_34,zaM,zaw,zaG,zav,zer];refine JAt.congr (isTrue_Compare1 ..) rfl (JAt.bind (ha B st) fun x v H1 π1 s1 z_ hs1 hr1 hv1=>?_);rw[zdI hs];refine JAt.bind (JAt.holding (hb B (st.step hs1 hr1))) fun y w H2 π2 s2 z_ hs2 hr2 hv2=>?_;refine JAt.standAt ?_
 unfold tr;exact JAt.bind (JAt.operate (zeX B.as hr2 (hv1.step hs2) hv2)) fun x v H3 π3 s3 z_ hs3 hr3 hv3=>JAt.holding (zdO hr3 hv3)
theorem JAt.release {am:Amb}{stack:List Env}{A:Around}{α β:Type}{Rel:List Addr→Heap→β→α→Prop}{π:List Addr}{s:Shared}{vs keep:List Value}{f:Unit→Sem α}{r:R β}(h:JAt am stack A (f ()) r Rel π s):JAt am stack A (PySem.release vs keep >>= f) r Rel π s :=
 h.rule fun z_ z_ x=>wpAny_bind (zeV x)
theorem zos {op1 op2:Cop}{o1 o2:CmpOp}{a b d:PE}{l r1 r2:Expr}{p:Pos}(ho1:copIs op1 o1=true) (ho2:copIs op2 o2=true) (hs:isSet r2=false) (ha:EJ am n q F c a l) (hb:EJ am n q F c b r1) (hd:EJ am n q F c d r2) :
  EJ am n q F c (.cmp2 op1 op2 a b d) (.Compare l [o1,o2] [r1,r2] p):=fun {cx ρ A res π Hc s} B st=>by
 rw[ze4 ho1,ze4 ho2];simp only[zb0,zbZ,zbP,zbO,zbN,zbY,zbz,zbX,zbM,zaU,zaE,zaT,zaj,zaD,zaK,zaC,zaS,zak,zas,zaB,zaJ,zaR,zaQ,zaA,zaP,zaz,zan,zay,zaO,zaI,zax,zaN,zaH,qE_34,zaM,zaw,zaG,zav];refine JAt.congr (arm_eval_Compare ..) rfl (JAt.bind (ha B st) fun x v H1 π1 s1 z_ hs1 hr1 hv1=>?_);have st1:=st.step hs1 hr1;show JAt _ _ _ (compareChain p x [copM op1,copM op2] [eval r1 cx.env,markedBehindIn (copM op2) r2 (eval r2 cx.env)]) _ _ _ _
 rw[zdI hs];refine JAt.bind (JAt.holding (hb B st1)) fun y w H2 π2 s2 z_ hs2 hr2 hv2=>JAt.standAt ?_;have st2:=st1.step hs2 hr2;have hv1':=hv1.step hs2;have e:∀ (k:H→R V),(match pyCmp op1 H2 v w with|some true=>k H2|some false=>.ok (.bool false) H2|none=>.bad)=(R.opt ((pyCmp op1 H2 v w).map V.bool) H2).bind fun x h=>match truthy x with|some true=>k h|some false=>.ok (.bool false) h|none=>.bad:=by
  intro k
  cases pyCmp op1 H2 v w with
  |none=>rfl
  |some b=>cases b<;>rfl
 refine JAt.congr rfl (e fun h=>(evE q F ρ d h).bind fun z h=>R.opt ((pyCmp op2 h w z).map V.bool) h) ?_;refine JAt.bind (JAt.holding (zeX B.as hr2 hv1' hv2)) fun z u H3 π3 s3 z_ hs3 hr3 hv3=>JAt.release ?_;have st3:=st2.step hs3 hr3
 cases u with
 |bool t =>
  simp only[VR] at hv3;subst hv3;refine JAt.rule (fun Q E h=>wpAny_bind (wpAny_holding (wpAny_truthy_bool h))) ?_
  cases t with
  |false=>exact JAt.pure hr3 rfl
  |true =>
   refine JAt.bind (JAt.holding (hd B st3)) fun y' w' H4 π4 s4 z_ hs4 hr4 hv4=>?_;exact JAt.standAt (JAt.operate (zeX B.as hr4 ((hv2.step hs3).step hs4) hv4))
 |_=>exact .inl rfl
theorem znp {op1 op2:Cop}{o1 o2:CmpOp}{a b d:PE}{l r1 r2:Expr}{p:Pos}(ho1:copIs op1 o1=true) (ho2:copIs op2 o2=true) (hs:isSet r2=false) (ha:EJ am n q F c a l) (hb:EJ am n q F c b r1) (hd:EJ am n q F c d r2) :
  TJ am n q F c (.cmp2 op1 op2 a b d) (.Compare l [o1,o2] [r1,r2] p):=fun {cx ρ A res π Hc s} B st=>by
 rw[ze4 ho1,ze4 ho2];simp only[zb0,zbZ,zbP,zbO,zbN,zbY,zbz,zbX,zbM,zaU,zaE,zaT,zaj,zaD,zaK,zaC,zaS,zak,zas,zaB,zaJ,zaR,zaQ,zaA,zaP,zaz,zan,zay,zaO,zaI,zax,zaN,zaH,qE_34,zaM,zaw,zaG,zav,zer];refine JAt.congr (arm_isTrue_Compare ..) rfl (JAt.bind (ha B st) fun x v H1 π1 s1 z_ hs1 hr1 hv1=>?_);have st1:=st.step hs1 hr1;show JAt _ _ _ (testChain p x [copM op1,copM op2] [eval r1 cx.env,markedBehindIn (copM op2) r2 (eval r2 cx.env)]) _ _ _ _
 rw[zdI hs];refine JAt.bind (JAt.holding (hb B st1)) fun y w H2 π2 s2 z_ hs2 hr2 hv2=>JAt.standAt ?_;have st2:=st1.step hs2 hr2;have hv1':=hv1.step hs2;have e:∀ (k:H→R V),tr (match pyCmp op1 H2 v w with|some true=>k H2|some false=>.ok (.bool false) H2|none=>.bad)=(R.opt ((pyCmp op1 H2 v w).map V.bool) H2).bind fun x h=>match truthy x with|some true=>tr (k h)|some false=>.ok false h|none=>.bad:=by
  intro k
  cases pyCmp op1 H2 v w with
  |none=>rfl
  |some b=>cases b<;>rfl
 refine JAt.congr rfl (e fun h=>(evE q F ρ d h).bind fun z h=>R.opt ((pyCmp op2 h w z).map V.bool) h) ?_;refine JAt.bind (JAt.holding (zeX B.as hr2 hv1' hv2)) fun z u H3 π3 s3 z_ hs3 hr3 hv3=>JAt.release ?_;have st3:=st2.step hs3 hr3
 cases u with
 |bool t =>
  simp only[VR] at hv3;subst hv3;refine JAt.rule (fun Q E h=>wpAny_bind (wpAny_holding (wpAny_truthy_bool h))) ?_
  cases t with
  |false=>exact JAt.pure hr3 rfl
  |true =>
   simp only[Mine.truthy,zer];refine JAt.bind (JAt.holding (hd B st3)) fun y' w' H4 π4 s4 z_ hs4 hr4 hv4=>?_;refine JAt.standAt ?_;unfold tr;exact JAt.bind (JAt.operate (zeX B.as hr4 ((hv2.step hs3).step hs4) hv4)) fun x v H5 π5 s5 z_ hs5 hr5 hv5=>JAt.holding (zdO hr5 hv5)
 |_=>exact .inl rfl
end
abbrev PT (γ:Type):=(γ→Shared→Prop)→(Value→Shared→Prop)→Shared→Prop
noncomputable def PT.Mono {γ:Type}(T:PT γ):Prop:=∀ Q Q' E E' s,(∀ a s,Q a s→Q' a s)→(∀ e s,E e s→E' e s)→T Q E s→T Q' E' s
noncomputable def JT (am:Amb) (stack:List Env){α β:Type}(T:PT α) (r:R β) (Rel:List Addr→Heap→β→α→Prop) (π:List Addr) (s:Shared):Prop :=
 r=.bad∨T (OkP am stack Rel π s r) (ErP am stack π s r) s
section
variable {am:Amb}{stack:List Env}{A:Around}{α β γ δ:Type}{Rel:List Addr→Heap→β→α→Prop}{Rel':List Addr→Heap→δ→γ→Prop}{π:List Addr}{s:Shared}
theorem PT.wp (M:Model) (m:Sem α):PT.Mono (fun Q E s=>wpAny M A m Q E s):=fun z_ z_ z_ z_ z_ h1 h2 h=>wpAny_mono h h1 h2
theorem PT.seq (M:Model) (m:Sem α){T:α→PT γ}(hT:∀ a,PT.Mono (T a)):PT.Mono (fun Q E s=>wpAny M A m (fun a s₁=>T a Q E s₁) E s) :=
 fun Q Q' E E' z_ h1 h2 h=>wpAny_mono h (fun a s₁ x=>hT a Q Q' E E' s₁ h1 h2 x) h2
theorem JT.bind {m:Sem α}{T:α→PT γ}(hT:∀ a,PT.Mono (T a)){r:R β}{g:β→H→R δ}(h1:JAt am stack A m r Rel π s)
  (h2:∀ a b H' π' s',r=.ok b H'→Step (Fs stack) π s π' s'→HR am stack π' H' s'.heap→Rel π' s'.heap b a→JT am stack (T a) (g b H') Rel' π' s') :
  JT am stack (fun Q E s=>wpAny am.M A m (fun a s₁=>T a Q E s₁) E s) (r.bind g) Rel' π s:=by
 by_cases hb:r.bind g=.bad
 ·exact .inl hb
 rcases h1 with rfl|h1
 ·exact absurd rfl hb
 refine .inr (wpAny_mono h1 (fun a s' h=>?_) fun z_ z_ h=>False.elim h);refine hold fun z_ k_=>?_;obtain⟨b,H',π',h,h3,h4,h5⟩:=h;refine k_ ?_;subst h;exact hT a _ _ _ _ _ (fun z_ z_ y=>OkP.step h3 y) (fun z_ z_ y=>y) ((h2 a b H' π' s' rfl h3 h4 h5).resolve_left hb)
theorem JT.rule {T T':PT α}{r:R β}(h:JT am stack T r Rel π s) (k:∀ Q E,T Q E s→T' Q E s):JT am stack T' r Rel π s:=by
 rcases h with h|h
 ·exact .inl h
 ·exact .inr (k _ _ h)
theorem JT.at {T:PT α}{m:Sem α}{r:R β}(h:JT am stack T r Rel π s) (k:∀ Q E,T Q E s→wpAny am.M A m Q E s):JAt am stack A m r Rel π s:=by
 rcases h with h|h
 ·exact .inl h
 ·exact .inr (k _ _ h)
theorem JAt.pt {m:Sem α}{r:R β}(h:JAt am stack A m r Rel π s):JT am stack (fun Q E s=>wpAny am.M A m Q E s) r Rel π s:=h
end
theorem zox (c:Ck) (e:PE) (x:Expr) (p:Pos):ckE c e (.Starred x p)=false:=by
 cases e with
 |own a =>
  cases a with
  |bf f b=>cases f<;>rfl
  |bin op a b=>cases op<;>rfl
  |_=>rfl
 |none=>rfl
 |bool b=>rfl
 |int b=>rfl
 |str b=>rfl
 |_=>rfl
theorem zaX {c:Ck}{e:PE}{x:Expr}(h:ckE c e x=true):isStar x=false:=by
 cases x<;>first|rfl|(rw[zox] at h;cases h)
noncomputable def zap (xs:List Expr) (env:Env):List (Bool × Sem Value):=xs.map fun e=>(false,eval e env)
theorem zad (env:Env):∀ {xs:List Expr},(∀ x∈xs,isStar x=false)→∀ pos:Pos,backTo pos (starEach xs env)=zap xs env
 |[],_,_=>rfl
 |x::xs,h,pos=>by
  have ih:=zad env (fun y hy=>h y (List.mem_cons_of_mem _ hy)) pos;have hx:=h x List.mem_cons_self;have e:starEach (x::xs) env=(false,eval x env)::starEach xs env:=by
   cases x<;>first|rfl|exact noB hx.symm
  rw[e];show(false,eval x env)::backTo pos (starEach xs env)=_;rw[ih];rfl
section
variable {am:Amb}{n:Nat}{q:Bool}{F:Fn}{c:Ck}
theorem AllJ.stars:∀ {es:List PE}{xs:List Expr},AllJ am n q F c es xs→∀ x∈xs,isStar x=false
 |[],[],_=>by simp
 |e::es,x::xs,h=>by
  intro y hy
  rcases List.mem_cons.mp hy with rfl|hy
  ·exact h.1.1
  ·exact AllJ.stars h.2 y hy
 |[],_::_,h=>h.elim
 |_::_,[],h=>h.elim
theorem AllJ.args {cx:Cx}{ρ:List V}{A:Around}{res:List Addr}:∀ {es:List PE}{xs:List Expr}{π:List Addr}{Hc:H}{s:Shared},AllJ am n q F c es xs→Base am n q F c cx ρ A→St (am.at res) q cx ρ π Hc A s →
  JAt (am.at res) cx.stack A (spliced (zap xs cx.env)) (evEs q F ρ es Hc) (VRs (am.at res)) π s
 |[],[],π,Hc,s,_,_,st=>by
  simp only[zjS,zde];exact .inr (wpAny_pure (OkP.here st.hr (by simp[VRs])))
 |e::es,x::xs,π,Hc,s,h,B,st=>by
  simp only[zjS,zde];refine JAt.congr (m':=eval x cx.env >>= fun v=>(pure [v]:Sem (List Value)) >>= fun here=>holding here (spliced (zap xs cx.env)) >>= fun tl=>pure (here++tl)) (by
   show spliced ((false,eval x cx.env)::zap xs cx.env)=_;rw[spliced];rfl) rfl ?_
  refine JAt.bind (h.1.2.1 B st) fun x v H1 π1 s1 z_ hs1 hr1 hv1=>?_;refine JAt.rule (fun Q E h=>wpAny_bind (wpAny_pure h)) ?_;refine JAt.bind (JAt.holding (AllJ.args h.2 B (st.step hs1 hr1))) fun ys ws H2 π2 s2 z_ hs2 hr2 hv2=>?_;exact JAt.pure hr2 (by simp only[VRs];exact⟨_,_,rfl,hv1.step hs2,hv2⟩)
 |[],_::_,_,_,_,h,_,_=>h.elim
 |_::_,[],_,_,_,h,_,_=>h.elim
theorem zm7:∀ {es:List PE}{xs:List Expr}{p:Pos},AllJ am n q F c es xs→EJ am n q F c (.and es) (.BoolOp .And xs p)
 |[],[],_,_,cx,ρ,A,res,π,Hc,s,_,_=>.inl rfl
 |[e],[x],_,h,cx,ρ,A,res,π,Hc,s,B,st=>by
  simp only[zb0,zbZ,zbP,zbO,zbN,zbY,zbz,zbX,zbM,zaU,zaE,zaT,zaj,zaD,zaK,zaC,zaS,zak,zas,zaB,zaJ,zaR,zaQ,zaA,zaP,zaz,zan,zay,zaO,zaI,zax,zaN,zaH,qE_34,zaM,zaw,zaG,zav,zqJ,zqI,zqH];exact h.1.2.1 B st
 |e::e2::es,x::x2::xs,p,h,cx,ρ,A,res,π,Hc,s,B,st=>by
  simp only[zb0,zbZ,zbP,zbO,zbN,zbY,zbz,zbX,zbM,zaU,zaE,zaT,zaj,zaD,zaK,zaC,zaS,zak,zas,zaB,zaJ,zaR,zaQ,zaA,zaP,zaz,zan,zay,zaO,zaI,zax,zaN,zaH,qE_34,zaM,zaw,zaG,zav,zqJ,zqI,zqH];refine JAt.congr (m':=eval x cx.env >>= fun v=>standAt p >>= fun z_=>holding [v] (PySem.truthy v) >>= fun t=>(match BoolOp.And,t with|.And,false|.Or,true=>pure v|_,_=>boolOp p .And (evalEach (x2::xs) cx.env))) rfl rfl ?_
  refine JAt.bind (h.1.2.1 B st) fun y v H1 π1 s1 z_ hs1 hr1 hv1=>JAt.standAt ?_
  cases v with
  |bool b =>
   simp only[VR] at hv1;subst hv1;refine JAt.rule (fun Q E h=>wpAny_bind (wpAny_holding (wpAny_truthy_bool h))) ?_
   cases b with
   |false=>exact JAt.pure hr1 rfl
   |true =>
    have:=zm7 (p:=p) h.2 B (st.step hs1 hr1);simp only[zb0,zbZ,zbP,zbO,zbN,zbY,zbz,zbX,zbM,zaU,zaE,zaT,zaj,zaD,zaK,zaC,zaS,zak,zas,zaB,zaJ,zaR,zaQ,zaA,zaP,zaz,zan,zay,zaO,zaI,zax,zaN,zaH,qE_34,zaM,zaw,zaG,zav] at this;exact this
  |_=>exact .inl rfl
 |[],_::_,_,h,_,_,_,_,_,_,_,_,_=>h.elim
 |_::_,[],_,h,_,_,_,_,_,_,_,_,_=>h.elim
 |[_],_::_::_,_,h,_,_,_,_,_,_,_,_,_=>h.2.elim
 |_::_::_,[_],_,h,_,_,_,_,_,_,_,_,_=>h.2.elim
theorem zqg:∀ {es:List PE}{xs:List Expr}{p:Pos},AllJ am n q F c es xs→EJ am n q F c (.or es) (.BoolOp .Or xs p)
 |[],[],_,_,cx,ρ,A,res,π,Hc,s,_,_=>.inl rfl
 |[e],[x],_,h,cx,ρ,A,res,π,Hc,s,B,st=>by
  simp only[zb0,zbZ,zbP,zbO,zbN,zbY,zbz,zbX,zbM,zaU,zaE,zaT,zaj,zaD,zaK,zaC,zaS,zak,zas,zaB,zaJ,zaR,zaQ,zaA,zaP,zaz,zan,zay,zaO,zaI,zax,zaN,zaH,qE_34,zaM,zaw,zaG,zav,zqE,zqD,znK];exact h.1.2.1 B st
 |e::e2::es,x::x2::xs,p,h,cx,ρ,A,res,π,Hc,s,B,st=>by
  simp only[zb0,zbZ,zbP,zbO,zbN,zbY,zbz,zbX,zbM,zaU,zaE,zaT,zaj,zaD,zaK,zaC,zaS,zak,zas,zaB,zaJ,zaR,zaQ,zaA,zaP,zaz,zan,zay,zaO,zaI,zax,zaN,zaH,qE_34,zaM,zaw,zaG,zav,zqE,zqD,znK];refine JAt.congr (m':=eval x cx.env >>= fun v=>standAt p >>= fun z_=>holding [v] (PySem.truthy v) >>= fun t=>(match BoolOp.Or,t with|.And,false|.Or,true=>pure v|_,_=>boolOp p .Or (evalEach (x2::xs) cx.env))) rfl rfl ?_
  refine JAt.bind (h.1.2.1 B st) fun y v H1 π1 s1 z_ hs1 hr1 hv1=>JAt.standAt ?_
  cases v with
  |bool b =>
   simp only[VR] at hv1;subst hv1;refine JAt.rule (fun Q E h=>wpAny_bind (wpAny_holding (wpAny_truthy_bool h))) ?_
   cases b with
   |true=>exact JAt.pure hr1 rfl
   |false =>
    have:=zqg (p:=p) h.2 B (st.step hs1 hr1);simp only[zb0,zbZ,zbP,zbO,zbN,zbY,zbz,zbX,zbM,zaU,zaE,zaT,zaj,zaD,zaK,zaC,zaS,zak,zas,zaB,zaJ,zaR,zaQ,zaA,zaP,zaz,zan,zay,zaO,zaI,zax,zaN,zaH,qE_34,zaM,zaw,zaG,zav] at this;exact this
  |_=>exact .inl rfl
 |[],_::_,_,h,_,_,_,_,_,_,_,_,_=>h.elim
 |_::_,[],_,h,_,_,_,_,_,_,_,_,_=>h.elim
 |[_],_::_::_,_,h,_,_,_,_,_,_,_,_,_=>h.2.elim
 |_::_::_,[_],_,h,_,_,_,_,_,_,_,_,_=>h.2.elim
theorem zno (ρ:List V) (e e2:PE) (es:List PE) (Hc:H):tr (evAnd q F ρ (e::e2::es) Hc)=(tr (evE q F ρ e Hc)).bind fun b h=>if b then tr (evAnd q F ρ (e2::es) h) else .ok false h:=by
 simp only[zqJ,zqI,zqH,zer];rw[zjz];congr 1;funext x h
 cases hx:truthy x with
 |none=>rfl
 |some b =>
  cases b with
  |true=>rfl
  |false=>simp[tr,hx]
theorem zoZ (ρ:List V) (e e2:PE) (es:List PE) (Hc:H):tr (evOr q F ρ (e::e2::es) Hc)=(tr (evE q F ρ e Hc)).bind fun b h=>if b then .ok true h else tr (evOr q F ρ (e2::es) h):=by
 simp only[zqE,zqD,znK,zer];rw[zjz];congr 1;funext x h
 cases hx:truthy x with
 |none=>rfl
 |some b =>
  cases b with
  |false=>rfl
  |true=>simp[tr,hx]
theorem zmH:∀ {es:List PE}{xs:List Expr}{p:Pos},AllJ am n q F c es xs→TJ am n q F c (.and es) (.BoolOp .And xs p)
 |[],[],_,_,cx,ρ,A,res,π,Hc,s,_,_=>.inl rfl
 |[e],[x],p,h,cx,ρ,A,res,π,Hc,s,B,st=>by
  simp only[zb0,zbZ,zbP,zbO,zbN,zbY,zbz,zbX,zbM,zaU,zaE,zaT,zaj,zaD,zaK,zaC,zaS,zak,zas,zaB,zaJ,zaR,zaQ,zaA,zaP,zaz,zan,zay,zaO,zaI,zax,zaN,zaH,qE_34,zaM,zaw,zaG,zav,zqJ,zqI,zqH];have:=h.1.2.2 B st;refine JAt.rule (m':=isTrue x cx.env (eval x cx.env)) (fun Q E h=>wpAny_isTrue_BoolOp (wpAny_allTrue_And_cons (wpAny_mono h (fun b s1 h1=>?_) fun z_ z_ x=>x))) this
  cases b with
  |true=>exact wpAny_allTrue_And_nil h1
  |false=>exact h1
 |e::e2::es,x::x2::xs,p,h,cx,ρ,A,res,π,Hc,s,B,st=>by
  simp only[zb0,zbZ,zbP,zbO,zbN,zbY,zbz,zbX,zbM,zaU,zaE,zaT,zaj,zaD,zaK,zaC,zaS,zak,zas,zaB,zaJ,zaR,zaQ,zaA,zaP,zaz,zan,zay,zaO,zaI,zax,zaN,zaH,qE_34,zaM,zaw,zaG,zav];rw[zno];refine JAt.congr (m':=isTrue x cx.env (eval x cx.env) >>= fun b=>(match BoolOp.And,b with|.And,false=>pure false|.Or,true=>pure true|_,_=>allTrue .And (x2::xs) cx.env)) rfl rfl ?_
  refine JAt.bind (h.1.2.2 B st) fun y v H1 π1 s1 z_ hs1 hr1 hv1=>?_;unfold BR at hv1;subst hv1
  cases v with
  |false=>exact JAt.pure hr1 rfl
  |true =>
   have:=zmH (p:=p) h.2 B (st.step hs1 hr1);simp only[zb0,zbZ,zbP,zbO,zbN,zbY,zbz,zbX,zbM,zaU,zaE,zaT,zaj,zaD,zaK,zaC,zaS,zak,zas,zaB,zaJ,zaR,zaQ,zaA,zaP,zaz,zan,zay,zaO,zaI,zax,zaN,zaH,qE_34,zaM,zaw,zaG,zav] at this;exact this
 |[],_::_,_,h,_,_,_,_,_,_,_,_,_=>h.elim
 |_::_,[],_,h,_,_,_,_,_,_,_,_,_=>h.elim
 |[_],_::_::_,_,h,_,_,_,_,_,_,_,_,_=>h.2.elim
 |_::_::_,[_],_,h,_,_,_,_,_,_,_,_,_=>h.2.elim
theorem zo0:∀ {es:List PE}{xs:List Expr}{p:Pos},AllJ am n q F c es xs→TJ am n q F c (.or es) (.BoolOp .Or xs p)
 |[],[],_,_,cx,ρ,A,res,π,Hc,s,_,_=>.inl rfl
 |[e],[x],p,h,cx,ρ,A,res,π,Hc,s,B,st=>by
  simp only[zb0,zbZ,zbP,zbO,zbN,zbY,zbz,zbX,zbM,zaU,zaE,zaT,zaj,zaD,zaK,zaC,zaS,zak,zas,zaB,zaJ,zaR,zaQ,zaA,zaP,zaz,zan,zay,zaO,zaI,zax,zaN,zaH,qE_34,zaM,zaw,zaG,zav,zqE,zqD,znK];have:=h.1.2.2 B st;refine JAt.rule (m':=isTrue x cx.env (eval x cx.env)) (fun Q E h=>wpAny_isTrue_BoolOp (wpAny_allTrue_Or_cons (wpAny_mono h (fun b s1 h1=>?_) fun z_ z_ x=>x))) this
  cases b with
  |true=>exact h1
  |false=>exact wpAny_allTrue_Or_nil h1
 |e::e2::es,x::x2::xs,p,h,cx,ρ,A,res,π,Hc,s,B,st=>by
  simp only[zb0,zbZ,zbP,zbO,zbN,zbY,zbz,zbX,zbM,zaU,zaE,zaT,zaj,zaD,zaK,zaC,zaS,zak,zas,zaB,zaJ,zaR,zaQ,zaA,zaP,zaz,zan,zay,zaO,zaI,zax,zaN,zaH,qE_34,zaM,zaw,zaG,zav];rw[zoZ];refine JAt.congr (m':=isTrue x cx.env (eval x cx.env) >>= fun b=>(match BoolOp.Or,b with|.And,false=>pure false|.Or,true=>pure true|_,_=>allTrue .Or (x2::xs) cx.env)) rfl rfl ?_
  refine JAt.bind (h.1.2.2 B st) fun y v H1 π1 s1 z_ hs1 hr1 hv1=>?_;unfold BR at hv1;subst hv1
  cases v with
  |true=>exact JAt.pure hr1 rfl
  |false =>
   have:=zo0 (p:=p) h.2 B (st.step hs1 hr1);simp only[zb0,zbZ,zbP,zbO,zbN,zbY,zbz,zbX,zbM,zaU,zaE,zaT,zaj,zaD,zaK,zaC,zaS,zak,zas,zaB,zaJ,zaR,zaQ,zaA,zaP,zaz,zan,zay,zaO,zaI,zax,zaN,zaH,qE_34,zaM,zaw,zaG,zav] at this;exact this
 |[],_::_,_,h,_,_,_,_,_,_,_,_,_=>h.elim
 |_::_,[],_,h,_,_,_,_,_,_,_,_,_=>h.elim
 |[_],_::_::_,_,h,_,_,_,_,_,_,_,_,_=>h.2.elim
 |_::_::_,[_],_,h,_,_,_,_,_,_,_,_,_=>h.2.elim
theorem zqj {a i:PE}{v t:Expr}{p:Pos}(ha:EJ am n q F c a v) (hi:EJ am n q F c i t):EJ am n q F c (.idx a i) (.Subscript v t p):=fun {cx ρ A res π Hc s} B st=>by
 simp only[zb0,zbZ,zbP,zbO,zbN,zbY,zbz,zbX,zbM,zaU,zaE,zaT,zaj,zaD,zaK,zaC,zaS,zak,zas,zaB,zaJ,zaR,zaQ,zaA,zaP,zaz,zan,zay,zaO,zaI,zax,zaN,zaH,qE_34,zaM,zaw,zaG,zav];refine JAt.congr (m':=eval v cx.env >>= fun o=>holding [o] (eval t cx.env) >>= fun i=>standAt p >>= fun z_=>subscriptTail v t o i) rfl rfl ?_;refine JAt.bind (ha B st) fun x v' H1 π1 s1 z_ hs1 hr1 hv1=>?_;refine JAt.bind (JAt.holding (hi B (st.step hs1 hr1))) fun y w H2 π2 s2 z_ hs2 hr2 hv2=>?_
 exact JAt.standAt (zpA B.as hr2 (hv1.step hs2) hv2)
noncomputable def OptJ (am:Amb) (n:Nat) (q:Bool) (F:Fn) (c:Ck):Option PE→Option Expr→Prop
 |none,none=>True
 |some e,some x=>EJ am n q F c e x
 |_,_=>False
noncomputable def OVR (am:Amb) (π:List Addr) (h:Heap):Option V→Value→Prop
 |none,x=>x=.none
 |some v,x=>VR am π h v x
theorem OVR.step {am:Amb}{Fs π π':List Addr}{s s':Shared}(x:Step Fs π s π' s'){v:Option V}{y:Value}(e:OVR am π s.heap v y):OVR am π' s'.heap v y:=by
 cases v with
 |none=>exact e
 |some v=>exact VR.step x e
theorem OptJ.ev {e:Option PE}{x:Option Expr}(h:OptJ am n q F c e x){cx:Cx}{ρ:List V}{A:Around}{res π:List Addr}{Hc:H}{s:Shared}(B:Base am n q F c cx ρ A) (st:St (am.at res) q cx ρ π Hc A s) :
  JAt (am.at res) cx.stack A (valueOrNone (evalOpt x cx.env)) (evO q F ρ e Hc) (OVR (am.at res)) π s:=by
 cases e with
 |none=>cases x with
  |none=>simp only[zpl,zpk];exact .inr (wpAny_pure (OkP.here st.hr rfl))
  |some x=>exact h.elim
 |some e=>cases x with
  |none=>exact h.elim
  |some x =>
   simp only[zpl,zpk];have h1:JAt (am.at res) cx.stack A (eval x cx.env) (evE q F ρ e Hc) (VR (am.at res)) π s:=h B st
   rcases h1 with h1|h1
   ·exact .inl (by rw[h1];rfl)
   ·refine .inr (wpAny_mono h1 (fun a s' h2=>?_) fun a s' h2=>?_)
    ·refine hold fun z_ k_=>?_
     obtain⟨b,H',π',h3,h4,h5,h6⟩:=h2;refine k_ ?_;exact⟨some b,H',π',by rw[h3];rfl,h4,h5,h6⟩
    ·exact h2
end
section
variable {am:Amb}{n:Nat}{q:Bool}{F:Fn}{c:Ck}
theorem HR.unhold {am:Amb}{stack:List Env}{π:List Addr}{Hc:H}{h:Heap}{l:Addr}(x:HR (am.hold l) stack π Hc h):HR am stack π Hc h :=
 ⟨x.base,x.frames,x.len,x.nodup,fun a ha=>x.res a (List.mem_cons_of_mem _ ha),x.off,fun i c a h1 h2=>by
  obtain⟨o,xs,e0,e1,e2,e3⟩:=x.cell i c a h1 h2;exact⟨o,xs,e0,e1,e2,e3.reserve.2⟩⟩
noncomputable def FrP (am:Amb) (stack:List Env) (π:List Addr) (s:Shared) (r:R V) (x:Value) (s':Shared):Prop :=
 ∃ vs H1 π1 l xs,r=.ok (.lst vs) H1∧x=.ref l∧vs.length≤1000000∧s.heap.get? l=none∧(l ∉ π1∧l ∉ Fs stack∧l ∉ am.res∧am.B.get? l=none)∧Step (Fs stack) π s π1 s'∧HR (am.hold l) stack π1 H1 s'.heap∧PL s'.heap l xs∧VRs (am.hold l) π1 s'.heap vs xs
theorem HR.held {am:Amb}{stack:List Env}{π:List Addr}{Hc:H}{h h':Heap}{l:Addr}(hr:HR am stack π Hc h) (hl:h.get? l=none) (k:∀ b o,h.get? b=some o→h'.get? b=some o) (ho:∃ o,h'.get? l=some o∧∀ us,o.data≠.fields us) :
  HR (am.hold l) stack π Hc h':=by
 have hr':=hr.keeps k;refine⟨hr'.base,hr'.frames,hr'.len,hr'.nodup,fun a ha=>?_,hr'.off,fun i c a h1 h2=>?_⟩
 ·rcases List.mem_cons.mp ha with rfl|ha
  ·exact ho
  ·exact hr'.res a ha
 ·obtain⟨o,xs,e0,e1,e2,e3⟩:=hr.cell i c a h1 h2
  exact⟨o,xs,k _ _ e0,e1,e2,(e3.held hl).keeps k⟩
theorem FrP.new {am:Amb}{stack:List Env}{π:List Addr}{s:Shared}{r:R V}{x:Value}{s1 s':Shared}{vs:List V}{H1:H}{π1:List Addr}(h1:r=.ok (.lst vs) H1) (h2:Step (Fs stack) π s π1 s1) (h3:HR am stack π1 H1 s1.heap) (h4:vs.length≤1000000) (h5:NewL am π1 s1 vs x s') :
  FrP am stack π s r x s':=by
 refine hold fun z_ k_=>?_;obtain⟨l,xs,h',tk,rfl,rfl,k,e1,e2,e3⟩:=h5;refine k_ ?_;refine⟨vs,H1,π1,l,xs,h1,rfl,h4,?_,⟨zar h3 e1,za6 h3 e1,zal h3 e1,zbj h3.base e1⟩,h2.trans (Step.keeps k),?_,e2,e3⟩
 ·cases hq:s.heap.get? l with
  |none=>rfl
  |some o=>obtain⟨o',h6⟩:=h2.ext.alive l o hq;rw[e1] at h6;cases h6
 ·refine h3.held e1 k ?_
  refine hold fun z_ k_=>?_;obtain⟨o,n,ho,_,_,hd⟩:=e2;refine k_ ?_;exact⟨o,ho,fun us q=>by rw[hd] at q;cases q⟩
theorem FrP.lst {am:Amb}{stack:List Env}{π:List Addr}{s:Shared}{r:R V}{x:Value}{s':Shared}(h:FrP am stack π s r x s'):OkP am stack (VR am) π s r x s':=by
 refine hold fun z_ k_=>?_;obtain⟨vs,H1,π1,l,xs,rfl,rfl,h3,h4,h5,h6,h7,h8,h9⟩:=h;refine k_ ?_;refine⟨_,H1,π1,rfl,h6,h7.unhold,?_⟩;simp only[VR];exact⟨l,xs,rfl,⟨h5.1,h5.2.2.1⟩,h8.is,h3,h9.reserve.2⟩
theorem FrP.cell {am:Amb}{stack:List Env}{π:List Addr}{s:Shared}{r:R V}{x:Value}{s':Shared}(h:FrP am stack π s r x s') :
  OkP am stack (VR am) π s (r.bind fun x h=>match x with|.lst vs=>.ok (.ref h.length) (h++[.list vs])|_=>.bad) x s':=by
 refine hold fun z_ k_=>?_;obtain⟨vs,H1,π1,l,xs,rfl,rfl,h3,h4,h5,h6,h7,h8,h9⟩:=h;refine k_ ?_;refine⟨_,_,π1++[l],rfl,⟨h6.same,h6.ext,?_⟩,⟨h7.base,h7.frames,by simp[h7.len],?_,h7.unhold.res,?_,?_⟩,?_⟩
 ·obtain⟨δ,rfl,hδ⟩:=h6.grow
  refine⟨δ++[l],by simp,fun a ha=>?_⟩
  rcases List.mem_append.mp ha with ha|ha
  ·exact hδ a ha
  ·rw[List.mem_singleton.mp ha];exact h4
 ·rw[List.nodup_append]
  exact⟨h7.nodup,by simp,fun a ha b hb=>by rw[List.mem_singleton.mp hb];exact fun q=>h5.1 (q ▸ ha)⟩
 ·intro a ha
  rcases List.mem_append.mp ha with ha|ha
  ·exact h7.off a ha
  ·rw[List.mem_singleton.mp ha];exact⟨h5.2.2.2,h5.2.1⟩
 ·intro i c a hi ha
  by_cases hlt:i < H1.length
  ·rw[List.getElem?_append_left hlt] at hi
   rw[List.getElem?_append_left (by rw[h7.len];exact hlt)] at ha
   obtain⟨o,ys,q0,q1,q2,q3⟩:=h7.cell i c a hi ha;exact⟨o,ys,q0,q1,q2,q3.reserve.1⟩
  ·have hi':i=H1.length:=zkP (by have:=(List.getElem?_eq_some_iff.mp hi).1;rw[List.length_append] at this;exact this) hlt
   subst hi';simp only[List.getElem?_concat_length,Option.some.injEq] at hi;rw[←h7.len] at ha;simp only[List.getElem?_concat_length,Option.some.injEq] at ha;subst hi ha;exact .ofList h8 h3 h9.reserve.1
 ·simp only[VR]
  exact⟨l,rfl,by rw[←h7.len];simp⟩
noncomputable def JF (am:Amb) (stack:List Env) (T:PT Value) (r:R V) (π:List Addr) (s:Shared):Prop:=r=.bad∨T (FrP am stack π s r) (ErP am stack π s r) s
theorem FrP.step {am:Amb}{stack:List Env}{π π₁:List Addr}{s s₁:Shared}{r:R V}{a:Value}{s':Shared}
  (x:Step (Fs stack) π s π₁ s₁) (y:FrP am stack π₁ s₁ r a s'):FrP am stack π s r a s':=by
 refine hold fun z_ k_=>?_;obtain⟨vs,H1,π1,l,xs,h1,h2,h3,h4,h5,h6,h7⟩:=y;refine k_ ?_;refine⟨vs,H1,π1,l,xs,h1,h2,h3,?_,h5,x.trans h6,h7⟩
 cases hq:s.heap.get? l with
 |none=>rfl
 |some o=>obtain⟨o',h6⟩:=x.ext.alive l o hq;rw[h4] at h6;cases h6
section
variable {am:Amb}{stack:List Env}{A:Around}{α β γ δ:Type}{Rel:List Addr→Heap→β→α→Prop}{π:List Addr}{s:Shared}
theorem JF.bind {m:Sem α}{T:α→PT Value}(hT:∀ a,PT.Mono (T a)){r:R β}{g:β→H→R V}(h1:JAt am stack A m r Rel π s)
  (h2:∀ a b H' π' s',r=.ok b H'→Step (Fs stack) π s π' s'→HR am stack π' H' s'.heap→Rel π' s'.heap b a→JF am stack (T a) (g b H') π' s') :
  JF am stack (fun Q E s=>wpAny am.M A m (fun a s₁=>T a Q E s₁) E s) (r.bind g) π s:=by
 by_cases hb:r.bind g=.bad
 ·exact .inl hb
 rcases h1 with rfl|h1
 ·exact absurd rfl hb
 refine .inr (wpAny_mono h1 (fun a s' h=>?_) fun z_ z_ h=>False.elim h);refine hold fun z_ k_=>?_;obtain⟨b,H',π',h,h3,h4,h5⟩:=h;refine k_ ?_;subst h;exact hT a _ _ _ _ _ (fun z_ z_ y=>FrP.step h3 y) (fun z_ z_ y=>y) ((h2 a b H' π' s' rfl h3 h4 h5).resolve_left hb)
theorem JF.rule {T T':PT Value}{r:R V}(h:JF am stack T r π s) (k:∀ Q E,T Q E s→T' Q E s):JF am stack T' r π s:=by
 rcases h with h|h
 ·exact .inl h
 ·exact .inr (k _ _ h)
theorem JF.lst {T:PT Value}{m:Sem Value}{r:R V}(h:JF am stack T r π s) (k:∀ Q E,T Q E s→wpAny am.M A m Q E s):JAt am stack A m r (VR am) π s:=by
 rcases h with h|h
 ·exact .inl h
 ·refine .inr (wpAny_mono (k _ _ h) (fun a s' h=>?_) fun z_ z_ h=>h)
  exact h.lst
theorem JF.cell {T:PT Value}{m:Sem Value}{r:R V}(h:JF am stack T r π s) (k:∀ Q E,T Q E s→wpAny am.M A m Q E s) :
  JAt am stack A m (r.bind fun x h=>match x with|.lst vs=>.ok (.ref h.length) (h++[.list vs])|_=>.bad) (VR am) π s:=by
 rcases h with rfl|h
 ·exact .inl rfl
 ·refine .inr (wpAny_mono (k _ _ h) (fun a s' h=>?_) fun z_ z_ h=>?_)
  ·exact h.cell
  ·exact h
end
noncomputable def FJ (am:Amb) (n:Nat) (q:Bool) (F:Fn) (c:Ck) (e:PE) (ex:Expr):Prop:=∀ {cx:Cx}{ρ:List V}{A:Around}{res π:List Addr}{Hc:H}{s:Shared},Base am n q F c cx ρ A→St (am.at res) q cx ρ π Hc A s →
 JF (am.at res) cx.stack (fun Q E s=>wpAny am.M A (eval ex cx.env) Q E s) (evE q F ρ e Hc) π s
theorem FJ.ej {e:PE}{ex:Expr}(h:FJ am n q F c e ex):EJ am n q F c e ex:=fun {cx ρ A res π Hc s} B st=>(h B st).lst fun z_ z_ x=>x
theorem FJ.own {e:PE}{ex:Expr}(h:FJ am n q F c e ex):EJ am n q F c (.own e) ex:=fun {cx ρ A res π Hc s} B st=>by
 simp only[zb0,zbZ,zbP,zbO,zbN,zbY,zbz,zbX,zbM,zaU,zaE,zaT,zaj,zaD,zaK,zaC,zaS,zak,zas,zaB,zaJ,zaR,zaQ,zaA,zaP,zaz,zan,zay,zaO,zaI,zax,zaN,zaH,qE_34,zaM,zaw,zaG,zav];exact(h B st).cell fun z_ z_ x=>x
set_option tactic.hygienic true in
theorem zkL {es:List PE}{xs:List Expr}{p:Pos}(h:AllJ am n q F c es xs):FJ am n q F c (.list es) (.List xs p):=fun {cx ρ A res π Hc s} B st=>by
 simp only[zb0,zbZ,zbP,zbO,zbN,zbY,zbz,zbX,zbM,zaU,zaE,zaT,zaj,zaD,zaK,zaC,zaS,zak,zas,zaB,zaJ,zaR,zaQ,zaA,zaP,zaz,zan,zay,zaO,zaI,zax,zaN,zaH,qE_34,zaM,zaw,zaG,zav];refine JF.rule (T:=fun Q E s=>wpAny am.M A (spliced (zap xs cx.env)) (fun ys s₁=>wpAny am.M A (newList ys) Q E s₁) E s)
  (JF.bind (fun z_=>PT.wp _ _) (h.args B st) fun ys vs H1 π1 s1 z_ hs1 hr1 hv1=>?_) fun Q E h'=>?_
 ·unfold mkL
  split
  ·rename_i hle
   exact .inr (wpAny_newList (FrP.new rfl (.refl ..) hr1 hle (NewL.push (n:=0) (tk:=s1.toks) hv1 rfl rfl rfl)) (by rw[hv1.len];exact za7 hle))
  ·exact .inl rfl
 ·rw[arm_eval_List,zad _ h.stars]
  exact wpAny_bind (wpAny_standAt (wpAny_bind h'))
theorem OVR.part {am:Amb}{π:List Addr}{h:Heap}{w:Option V}{lo:Option Int}{y:Value}(h1:OVR am π h w y) (h2:w.mapM asInt?=some lo):IsPart y lo:=by
 cases w with
 |none=>cases h1;cases h2;exact .none
 |some v =>
  cases v with
  |int i=>obtain⟨t,rfl⟩:=h1;cases h2;exact .int i t
  |_=>cases h2
theorem zig {a:PE}{lo hi:Option PE}{v:Expr}{l u:Option Expr}{p p':Pos}(ha:EJ am n q F c a v) (hl:OptJ am n q F c lo l) (hu:OptJ am n q F c hi u):FJ am n q F c (.slice a lo hi) (.Subscript v (.Slice l u none p') p):=fun {cx ρ A res π Hc s} B st=>by
 simp only[zb0,zbZ,zbP,zbO,zbN,zbY,zbz,zbX,zbM,zaU,zaE,zaT,zaj,zaD,zaK,zaC,zaS,zak,zas,zaB,zaJ,zaR,zaQ,zaA,zaP,zaz,zan,zay,zaO,zaI,zax,zaN,zaH,qE_34,zaM,zaw,zaG,zav];refine JF.rule (T:=fun Q E s=>wpAny am.M A (eval v cx.env) (fun x s₀=>wpAny am.M A (valueOrNone (evalOpt l cx.env)) (fun a s₁=>wpAny am.M A (valueOrNone (evalOpt u cx.env)) (fun b s₂=>wpAny am.M A (newFields "slice" [a,b,.none]) (fun i s₃=>wpAny am.M A (subscriptTail v (.Slice l u none p') x i) Q E s₃) E s₂) E s₁) E s₀) E s)
  (JF.bind (fun x=>PT.seq _ _ fun a=>PT.seq _ _ fun b=>PT.seq _ _ fun i=>PT.wp _ _) (ha B st) fun x v' H1 π1 s1 z_ hs1 hr1 hv1=>?_) fun Q E h=>?_
 ·have st1:=st.step hs1 hr1
  refine JF.bind (fun a=>PT.seq _ _ fun b=>PT.seq _ _ fun i=>PT.wp _ _) (hl.ev B st1) fun y w H2 π2 s2 z_ hs2 hr2 hv2=>?_;have st2:=st1.step hs2 hr2;refine JF.bind (fun a=>PT.seq _ _ fun i=>PT.wp _ _) (hu.ev B st2) fun z w2 H3 π3 s3 z_ hs3 hr3 hv3=>?_;unfold zbF
  cases hlo:w.mapM asInt? with
  |none=>exact .inl rfl
  |some lo=>cases hhi:w2.mapM asInt? with
   |none=>exact .inl rfl
   |some hi =>
    dsimp only
    cases hi':litems H3 v' with
    |none=>exact .inl rfl
    |some vs=>exact .inr (zli (am:=am.at res) hr3 ((hv1.step hs2).step hs3) hi' ((hv2.step hs3).part hlo) (hv3.part hhi) fun y s1 s' h1 h2 h3 h4=>FrP.new rfl h1 h2 h3 h4)
 ·have e:eval (.Subscript v (.Slice l u none p') p) cx.env=(eval v cx.env >>= fun o=>holding [o] (valueOrNone (evalOpt l cx.env) >>= fun a=>holding [a] (valueOrNone (evalOpt u cx.env)) >>= fun b=>holding [a,b] (pure .none) >>= fun d=>newFields "slice" [a,b,d]) >>= fun i=>standAt p >>= fun z_=>subscriptTail v (.Slice l u none p') o i):=rfl
  rw[e];exact wpAny_bind (wpAny_mono h (fun o s0 h0=>wpAny_bind (wpAny_holding (wpAny_bind (wpAny_mono h0 (fun a s1 h1=>wpAny_bind (wpAny_holding (wpAny_mono h1 (fun b s2 h2=>wpAny_bind (wpAny_holding (wpAny_pure (wpAny_mono h2 (fun i s3 h3=>wpAny_bind (wpAny_standAt h3)) fun z_ z_ x=>x)))) fun z_ z_ x=>x))) fun z_ z_ x=>x)))) fun z_ z_ x=>x)
set_option tactic.hygienic true in
theorem zqd {es:List PE}{xs:List Expr}{k:Nat}{p:Pos}(h:AllJ am n q F c es xs):EJ am n q F c (.tup es) (.Tuple xs k p):=fun {cx ρ A res π Hc s} B st=>by
 simp only[zb0,zbZ,zbP,zbO,zbN,zbY,zbz,zbX,zbM,zaU,zaE,zaT,zaj,zaD,zaK,zaC,zaS,zak,zas,zaB,zaJ,zaR,zaQ,zaA,zaP,zaz,zan,zay,zaO,zaI,zax,zaN,zaH,qE_34,zaM,zaw,zaG,zav];refine JAt.congr (arm_eval_Tuple ..) rfl (JAt.standAt ?_);rw[zad _ h.stars];refine JAt.bind (h.args B st) fun ys vs H1 π1 s1 z_ hs1 hr1 hv1=>?_;unfold mkT
 split
 ·rename_i hle
  exact .inr (wpAny_newTuple (OkP.tup (n:=0) hr1 hv1 hle rfl rfl) (by rw[hv1.len];exact za7 hle))
 ·exact .inl rfl
theorem zmo {p:Pos}:EJ am n q F c .dict0 (.Dict [] [] p):=fun {cx ρ A res π Hc s} B st=>by
 simp only[zb0,zbZ,zbP,zbO,zbN,zbY,zbz,zbX,zbM,zaU,zaE,zaT,zaj,zaD,zaK,zaC,zaS,zak,zas,zaB,zaJ,zaR,zaQ,zaA,zaP,zaz,zan,zay,zaO,zaI,zax,zaN,zaH,qE_34,zaM,zaw,zaG,zav];refine .inr (wpAny_Dict_empty ?_);have k:∀ b o',s.heap.get? b=some o'→(s.heap.push { cls:=.type "dict",data:=.dict #[] }).get? b=some o':=fun z_ z_ e=>Heap.get?_push_of_some _ e;refine OkP.keeps (tk:=s.toks) st.hr k ?_;simp only[VR];exact⟨_,_,_,_,rfl,⟨zar st.hr (zai _),zal st.hr (zai _)⟩,Heap.get?_push_size _ rfl,rfl,rfl⟩
theorem zaF {cx:Cx}{ρ:List V}{A:Around}{res π:List Addr}{Hc:H}{s:Shared}(B:Base am n q F c cx ρ A) (hr:HR (am.at res) cx.stack π Hc s.heap){x:Str}{v:Value}{y:Expr}{ys:List Expr}{p p':Pos}{Q:Value→Shared→Prop}{E:Value→Shared→Prop}(hx:c.glob x=true)
  (hv:(x,v)∈bTab) (hs:∀ z∈y::ys,isStar z=false)
  (h:wpAny am.M A (spliced (zap (y::ys) cx.env)) (fun vs s₁=>wpAny am.M A (PySem.call v vs []) Q E s₁) E s):wpAny am.M A (eval (.Call (.Name x p) (y::ys) [] p') cx.env) Q E s:=by
 have hp:(zap (y::ys) cx.env).any (·.1)=false:=by
  simp[zap,List.any_eq_false]
 refine wpAny_Call_Name_kw (zoW B hr hx hv ?_);rw[zad _ hs];have h':wpAny am.M A (evalArgs v true (zap (y::ys) cx.env) []) (fun a s₁=>wpAny am.M A (PySem.call v ([]++a.pos) a.kw) Q E s₁) E s:=Calls.evalArgs_plain h
 rcases zoD hv with⟨id,rfl⟩|⟨T,rfl⟩
 ·exact Calls.callWith_builtin hp h'
 ·exact PySem.callWith_type hp h'
end
structure Sc where
 M:Model
 A:Around
 E:Value→Shared→Prop
 s:Shared
 κ:SortKind
 it:Array Keyed
 N:Nat
 r:Nat→Nat
 cmp:∀ i j (C:Bool→Shared→Prop),i < N→j < N→C (decide (r i < r j)) s→wpAny M A (keyLt' κ (kas_item it i).1 (kas_item it j).1) C (fun z_ z_=>False) s
abbrev SM (α:Type):=StateT SortSt Sem α
abbrev SQ (α:Type):=α→SortSt→Prop
noncomputable def Sc.W (X:Sc){α:Type}(m:SM α) (Q:SQ α) (st:SortSt):Prop:=wpS X.M X.A X.E X.s m Q st
noncomputable def Sc.arr (X:Sc) (l:List Nat):Array Keyed:=(l.map (kas_item X.it)).toArray
noncomputable def Sc.st (X:Sc) (p:List Nat) (pd:List (Nat × Nat × Nat)) (g:Nat):SortSt:=SortSt.mk' X.κ (X.arr p) pd.toArray g none
section
variable {X:Sc}{α β:Type}{st:SortSt}
theorem W.pure {a:α}{Q:SQ α}(h:Q a st):X.W (Pure.pure a) Q st:=wpS_pure h
theorem W.bind {m:SM α}{f:α→SM β}{Q:SQ β}(h:X.W m (fun a st'=>X.W (f a) Q st') st):X.W (m >>= f) Q st:=wpS_bind h
theorem W.mono {m:SM α}{Q Q':SQ α}(h:X.W m Q st) (hq:∀ a st',Q a st'→Q' a st'):X.W m Q' st:=wpS_mono h hq
theorem W.get {Q:SQ SortSt}(h:Q st st):X.W MonadState.get Q st:=wpS_get h
theorem W.modify {f:SortSt→SortSt}{Q:SQ PUnit}(h:Q ⟨⟩ (f st)):X.W (_root_.modify f) Q st:=wpS_modify h
theorem W.rule {n:String}{Q:SQ Unit}(h:Q ⟨⟩ st):X.W (liftM (PySem.rule n)) Q st:=wpS_lift (wpAny_rule ⟨rfl,h⟩)
theorem W.elem {l:List Nat}{i x:Nat}{Q:SQ Keyed}(e:l[i]?=some x) (h:Q (kas_item X.it x) st):X.W (elem' (X.arr l) i) Q st:=by
 have:(X.arr l)[i]?=some (kas_item X.it x):=by unfold Sc.arr;rw[List.getElem?_toArray,List.getElem?_map,e];rfl
 rw[elem'_eq,this];exact W.pure h
theorem W.lt {p:List Nat}{pd:List (Nat × Nat × Nat)}{g i j:Nat}{Q:SQ (Option Bool)}(hi:i < X.N) (hj:j < X.N) (h:Q (some (decide (X.r i < X.r j))) (X.st p pd g)):X.W (lt' (kas_item X.it i) (kas_item X.it j)) Q (X.st p pd g):=by
 rw[lt'_eq];exact W.bind (W.get (W.bind (wpS_lift (wpAny_attempt (wpAny_mono (X.cmp i j (fun c s'=>s'=X.s∧c=decide (X.r i < X.r j)) hi hj ⟨rfl,rfl⟩) (fun c s' hc=>⟨hc.1,by rw[hc.2];exact W.pure h⟩) fun z_ z_ hF=>hF.elim)))))
noncomputable def Nx (Q I:SQ β):SQ (ForInStep β)
 |.done c,st=>Q c st
 |.yield c,st=>I c st
theorem W.loop {n:Nat}{f:Nat→β→SM (ForInStep β)}(I:Nat→β→SortSt→Prop){Q:SQ β}
  (hstep:∀ i c st,i < n→I i c st→X.W (f i c) (Nx Q (I (i+1))) st)
  (hend:∀ c st,I n c st→Q c st){c:β}(h:I 0 c st):X.W (forIn [0:n] c f) Q st :=
 wpS_forRange I (fun i c st z_ hi h=>W.mono (hstep i c st hi h) fun r st' h=>by cases r<;>exact h) (fun c st h=>hend c st (by rwa [Nat.max_eq_right (Nat.zero_le n)] at h)) h
end
noncomputable def zcp:Bool→Keyed→Array Keyed→Nat→Nat→Nat→SM (Option Nat):=sortPriv% PySem.Builtin.gallop
abbrev GSt:=Option (Option Nat) × Nat × Nat
noncomputable def gBin (beyond:Nat→SM (Option Bool)) (_:Nat) (s:GSt):SM (ForInStep GSt) :=
 if s.2.1 ≥ s.2.2 then pure (.done (none,s.2.1,s.2.2)) else do
  let x ← beyond (s.2.1+(s.2.2 - s.2.1) / 2)
  match x with
  |some more=>if more=true then pure (.yield (none,s.2.1+(s.2.2 - s.2.1) / 2+1,s.2.2)) else pure (.yield (none,s.2.1,s.2.1+(s.2.2 - s.2.1) / 2))
  |_=>pure (.done (some none,s.2.1,s.2.2))
noncomputable def gEnd (beyond:Nat→SM (Option Bool)) (n lo hi:Nat):SM (Option Nat):=do
 let s ← forIn [0:n] ((none,lo,hi):GSt) (gBin beyond)
 match s.1 with
 |some r=>pure r
 |none=>pure (some s.2.2)
noncomputable def gUp (beyond:Nat→SM (Option Bool)) (hint m:Nat) (_:Nat) (s:GSt):SM (ForInStep GSt) :=
 if s.2.2 ≥ m then pure (.done (none,s.2.1,s.2.2)) else do
  let x ← beyond (hint+s.2.2)
  match x with
  |some more=>if(!more)=true then pure (.done (none,s.2.1,s.2.2)) else pure (.yield (none,s.2.2,2 * s.2.2+1))
  |_=>pure (.done (some none,s.2.1,s.2.2))
noncomputable def gDn (beyond:Nat→SM (Option Bool)) (hint m:Nat) (_:Nat) (s:GSt):SM (ForInStep GSt) :=
 if s.2.2 ≥ m then pure (.done (none,s.2.1,s.2.2)) else do
  let x ← beyond (hint - s.2.2)
  match x with
  |some found=>if found=true then pure (.done (none,s.2.1,s.2.2)) else pure (.yield (none,s.2.2,2 * s.2.2+1))
  |_=>pure (.done (some none,s.2.1,s.2.2))
noncomputable def gUps (beyond:Nat→SM (Option Bool)) (n hint:Nat):SM (Option Nat):=do
 let s ← forIn [0:n] ((none,0,1):GSt) (gUp beyond hint (n - hint))
 match s.1 with
 |some r=>pure r
 |none=>gEnd beyond n (hint+s.2.1+1) (hint+min s.2.2 (n - hint))
noncomputable def gDns (beyond:Nat→SM (Option Bool)) (n hint:Nat):SM (Option Nat):=do
 let s ← forIn [0:n] ((none,0,1):GSt) (gDn beyond hint (hint+1))
 match s.1 with
 |some r=>pure r
 |none=>gEnd beyond n (hint+1 - min s.2.2 (hint+1)) (hint - s.2.1)
noncomputable def gAll (beyond:Nat→SM (Option Bool)) (n hint:Nat):SM (Option Nat):=do
 let x ← beyond hint
 match x with
 |some right=>if right=true then gUps beyond n hint else gDns beyond n hint
 |_=>pure none
noncomputable def gBey (left:Bool) (key:Keyed) (arr:Array Keyed) (base i:Nat):SM (Option Bool):=do
 let x ← elem' arr (base+i)
 if left=true then lt' x key else do
  let y ← lt' key x
  pure (y.map (!·))
theorem zi8 (left:Bool) (key:Keyed) (arr:Array Keyed) (base n hint:Nat):zcp left key arr base n hint=gAll (gBey left key arr base) n hint:=by kernel_rfl
section
variable {X:Sc}{st:SortSt}{bey:Nat→SM (Option Bool)}{B:Nat→Bool}{n hint:Nat}
structure GOk (B:Nat→Bool) (n h:Nat):Prop where
 le:h≤n
 lo:∀ i,i < h→B i=true
 hi:∀ i,h≤i→i < n→B i=false
structure GIn (B:Nat→Bool) (n lo hi:Nat):Prop where
 lh:lo≤hi
 hn:hi≤n
 lo:∀ i,i < lo→B i=true
 hi:∀ i,hi≤i→i < n→B i=false
structure GB (X:Sc) (bey:Nat→SM (Option Bool)) (B:Nat→Bool) (n:Nat) (st:SortSt):Prop where
 ask:∀ i Q,i < n→Q (some (B i)) st→X.W (bey i) Q st
 mono:∀ i j,i≤j→j < n→B j=true→B i=true
theorem GB.no (b:GB X bey B n st){i j:Nat}(hij:i≤j) (hj:j < n) (h:B i=false):B j=false:=by
 cases e:B j with
 |false=>rfl
 |true=>rw[b.mono i j hij hj e] at h;exact h
theorem zlO {a b n x:Nat}(h:a≤n - x) (hb:b < a):b≤n - (x+1):=Nat.le_pred_of_lt (Nat.lt_of_lt_of_le hb h)
theorem zq3 {lo hi:Nat}(h:¬ lo ≥ hi):lo+(hi - lo) / 2 < hi:=Nat.add_lt_of_lt_sub' (Nat.div_lt_self (Nat.sub_pos_of_lt (Nat.lt_of_not_le h)) (by decide))
theorem zpL {lo hi n:Nat}(h:hi - lo≤n - n):hi≤lo:=Nat.le_of_sub_eq_zero (Nat.le_zero.1 (by rwa [Nat.sub_self] at h))
theorem zlP (o:Nat):o < 2 * o+1:=Nat.lt_succ_of_le (Nat.le_mul_of_pos_left o (by decide))
theorem zkF (b:GB X bey B n st){lo hi:Nat}(g:GIn B n lo hi):X.W (gEnd bey n lo hi) (fun k st'=>st'=st∧∃ h,k=some h∧GOk B n h) st:=by
 unfold gEnd;refine W.bind (W.loop (I:=fun x c st'=>st'=st∧∃ lo hi,c=(none,lo,hi)∧GIn B n lo hi∧hi - lo≤n - x) (Q:=fun c st'=>X.W (match c.1 with
  |some r=>pure r
  |none=>pure (some c.2.2)) (fun k st'=>st'=st∧∃ h,k=some h∧GOk B n h) st') ?_ ?_ ⟨rfl,lo,hi,rfl,g,Nat.le_trans (Nat.sub_le _ _) g.hn⟩)
 ·rintro x c st' hx ⟨rfl,lo,hi,rfl,g,hm⟩
  unfold gBin;dsimp only
  by_cases hge:lo ≥ hi
  ·rw[if_pos hge]
   have:lo=hi:=Nat.le_antisymm g.lh hge;subst this;exact W.pure (W.pure ⟨rfl,lo,rfl,g.hn,g.lo,g.hi⟩)
  ·rw[if_neg hge]
   obtain⟨m,em⟩:∃ m,lo+(hi - lo) / 2=m:=⟨_,rfl⟩;rw[em];have h1:lo≤m:=by rw[←em];exact Nat.le_add_right ..
   have h2:m < hi:=by rw[←em];exact zq3 hge
   have mn:=Nat.lt_of_lt_of_le h2 g.hn;refine W.bind (b.ask m _ mn ?_);dsimp only
   cases e:B m with
   |true =>
    rw[if_pos rfl];exact W.pure ⟨rfl,m+1,hi,rfl,⟨h2,g.hn,fun i hi=>b.mono i m (Nat.le_of_lt_succ hi) mn e,g.hi⟩,zlO hm (Nat.sub_lt_sub_left (Nat.lt_of_not_le hge) (Nat.lt_succ_of_le h1))⟩
   |false =>
    rw[if_neg Bool.false_ne_true];exact W.pure ⟨rfl,lo,m,rfl,⟨h1,Nat.le_of_lt mn,g.lo,fun i hi hn=>b.no hi hn e⟩,zlO hm (Nat.sub_lt_sub_right h1 h2)⟩
 ·rintro c st' ⟨rfl,lo,hi,rfl,g,hm⟩
  have:lo=hi:=Nat.le_antisymm g.lh (zpL hm);subst this;exact W.pure ⟨rfl,lo,rfl,g.hn,g.lo,g.hi⟩
theorem zof (b:GB X bey B n st) (hh:hint < n) (h0:B hint=true):X.W (gUps bey n hint) (fun k st'=>st'=st∧∃ h,k=some h∧GOk B n h) st:=by
 unfold gUps;have fin:∀ l o,B (hint+l)=true→l < o→hint+l < n→(o < n - hint→B (hint+o)=false)→X.W (gEnd bey n (hint+l+1) (hint+min o (n - hint))) (fun k st'=>st'=st∧∃ h,k=some h∧GOk B n h) st:=fun l o h1 h2 h3 h4 =>
  zkF b ⟨Nat.add_le_add_left (Nat.le_min.2 ⟨h2,Nat.lt_sub_of_add_lt (by rw[Nat.add_comm];exact h3)⟩) hint,Nat.le_trans (Nat.add_le_add_left (Nat.min_le_right ..) hint) (Nat.le_of_eq (Nat.add_sub_cancel' (Nat.le_of_lt hh))),fun i hi=>b.mono i _ (Nat.le_of_lt_succ hi) h3 h1,fun i hi hn=>by
   by_cases ho:o < n - hint
   ·rw[Nat.min_eq_left (Nat.le_of_lt ho)] at hi
    exact b.no hi hn (h4 ho)
   ·rw[Nat.min_eq_right (Nat.le_of_not_lt ho),Nat.add_sub_cancel' (Nat.le_of_lt hh)] at hi
    exact absurd hn (Nat.not_lt_of_le hi)⟩
 refine W.bind (W.loop (I:=fun x c st'=>st'=st∧∃ l o,c=(none,l,o)∧B (hint+l)=true∧l < o∧hint+l < n∧x < o) (Q:=fun c st'=>X.W (match c.1 with
  |some r=>pure r
  |none=>gEnd bey n (hint+c.2.1+1) (hint+min c.2.2 (n - hint))) (fun k st'=>st'=st∧∃ h,k=some h∧GOk B n h) st') ?_ ?_ ⟨rfl,0,1,rfl,h0,Nat.one_pos,hh,Nat.one_pos⟩)
 ·rintro x c st' hx ⟨rfl,l,o,rfl,h1,h2,h3,h4⟩
  unfold gUp;dsimp only
  by_cases hge:o ≥ n - hint
  ·rw[if_pos hge]
   exact W.pure (fin l o h1 h2 h3 fun h=>absurd hge (Nat.not_le_of_lt h))
  ·rw[if_neg hge]
   have lt:hint+o < n:=Nat.add_lt_of_lt_sub' (Nat.lt_of_not_le hge);refine W.bind (b.ask _ _ lt ?_);dsimp only
   cases e:B (hint+o) with
   |false=>rw[if_pos (show(!false)=true from rfl)];exact W.pure (fin l o h1 h2 h3 fun z_=>e)
   |true=>rw[if_neg (by decide)];exact W.pure ⟨rfl,o,2 * o+1,rfl,e,zlP o,lt,Nat.lt_of_le_of_lt (Nat.succ_le_of_lt h4) (zlP o)⟩
 ·rintro c st' ⟨rfl,l,o,rfl,h1,h2,h3,h4⟩
  exact fin l o h1 h2 h3 fun h=>absurd (Nat.lt_trans h4 h) (Nat.not_lt_of_le (Nat.sub_le ..))
theorem zry {hint l o:Nat}(h2:l < o) (h3:l≤hint):hint+1 - min o (hint+1)≤hint - l:=by
 rcases Nat.le_total o (hint+1) with q|q
 ·rw[Nat.min_eq_left q,← Nat.add_sub_add_right hint 1 l];exact Nat.sub_le_sub_left h2 (hint+1)
 ·rw[Nat.min_eq_right q,Nat.sub_self];exact Nat.zero_le _
theorem zog (b:GB X bey B n st) (hh:hint < n) (h0:B hint=false):X.W (gDns bey n hint) (fun k st'=>st'=st∧∃ h,k=some h∧GOk B n h) st:=by
 unfold gDns;have fin:∀ l o,B (hint - l)=false→l < o→l≤hint→(o < hint+1→B (hint - o)=true)→X.W (gEnd bey n (hint+1 - min o (hint+1)) (hint - l)) (fun k st'=>st'=st∧∃ h,k=some h∧GOk B n h) st:=fun l o h1 h2 h3 h4 =>
  zkF b ⟨zry h2 h3,Nat.le_trans (Nat.sub_le ..) (Nat.le_of_lt hh),fun i hi=>by
   by_cases ho:o < hint+1
   ·rw[Nat.min_eq_left (Nat.le_of_lt ho),Nat.succ_sub (Nat.le_of_lt_succ ho)] at hi
    exact b.mono i _ (Nat.le_of_lt_succ hi) (Nat.lt_of_le_of_lt (Nat.sub_le ..) hh) (h4 ho)
   ·rw[Nat.min_eq_right (Nat.le_of_not_lt ho),Nat.sub_self] at hi
    exact absurd hi (Nat.not_lt_zero _),fun i hi hn=>b.no hi hn h1⟩
 refine W.bind (W.loop (I:=fun x c st'=>st'=st∧∃ l o,c=(none,l,o)∧B (hint - l)=false∧l < o∧l≤hint∧x < o) (Q:=fun c st'=>X.W (match c.1 with
  |some r=>pure r
  |none=>gEnd bey n (hint+1 - min c.2.2 (hint+1)) (hint - c.2.1)) (fun k st'=>st'=st∧∃ h,k=some h∧GOk B n h) st') ?_ ?_ ⟨rfl,0,1,rfl,h0,Nat.one_pos,Nat.zero_le _,Nat.one_pos⟩)
 ·rintro x c st' hx ⟨rfl,l,o,rfl,h1,h2,h3,h4⟩
  unfold gDn;dsimp only
  by_cases hge:o ≥ hint+1
  ·rw[if_pos hge]
   exact W.pure (fin l o h1 h2 h3 fun h=>absurd hge (Nat.not_le_of_lt h))
  ·rw[if_neg hge]
   refine W.bind (b.ask _ _ (Nat.lt_of_le_of_lt (Nat.sub_le _ _) hh) ?_);dsimp only
   cases e:B (hint - o) with
   |true=>rw[if_pos rfl];exact W.pure (fin l o h1 h2 h3 fun z_=>e)
   |false=>rw[if_neg Bool.false_ne_true];exact W.pure ⟨rfl,o,2 * o+1,rfl,e,zlP o,Nat.le_of_lt_succ (Nat.lt_of_not_le hge),Nat.lt_of_le_of_lt (Nat.succ_le_of_lt h4) (zlP o)⟩
 ·rintro c st' ⟨rfl,l,o,rfl,h1,h2,h3,h4⟩
  exact fin l o h1 h2 h3 fun h=>absurd (Nat.lt_of_lt_of_le (Nat.lt_trans h4 h) hh) (Nat.lt_irrefl _)
theorem zoh (b:GB X bey B n st) (hh:hint < n):X.W (gAll bey n hint) (fun k st'=>st'=st∧∃ h,k=some h∧GOk B n h) st:=by
 unfold gAll;refine W.bind (b.ask hint _ hh ?_);dsimp only
 cases e:B hint with
 |true=>rw[if_pos rfl];exact zof b hh e
 |false=>rw[if_neg Bool.false_ne_true];exact zog b hh e
abbrev Sc.Up (X:Sc) (l:List Nat):Prop:=l.Pairwise fun x y=>X.r x≤X.r y
abbrev Sc.In (X:Sc) (l:List Nat):Prop:=∀ x∈l,x < X.N
end
theorem zbH {α:Type}{l:List α}{i:Nat}(h:i < l.length):∃ y,l[i]?=some y∧l.drop i=y::l.drop (i+1):=⟨l[i],List.getElem?_eq_getElem h,List.drop_eq_getElem_cons h⟩
section
variable {X:Sc}
theorem za1 (l:List Nat):(X.arr l).size=l.length:=by unfold Sc.arr;rw[List.size_toArray,List.length_map]
theorem zda (o:List Nat) (y:Nat):(X.arr o).push (kas_item X.it y)=X.arr (o++[y]):=by unfold Sc.arr;rw[List.push_toArray,List.map_append];rfl
theorem zbd (o l:List Nat):X.arr o++X.arr l=X.arr (o++l):=by unfold Sc.arr;rw[List.append_toArray,List.map_append]
theorem zeu (l:List Nat) (i j:Nat):(X.arr l).extract i j=X.arr ((l.drop i).take (j - i)):=by unfold Sc.arr;rw[List.extract_toArray,List.extract_eq_take_drop,List.map_take,List.map_drop]
theorem zdo (l:List Nat) (i:Nat):(X.arr l).extract i (X.arr l).size=X.arr (l.drop i):=by rw[zeu,za1,List.take_of_length_le (by rw[List.length_drop];exact Nat.le_refl _)]
theorem zdc {x:Nat}{l:List Nat}(h:X.Up (x::l)){y:Nat}(hy:X.r y≤X.r x):∀ z∈x::l,X.r y≤X.r z:=fun z hz=>by
 rcases List.mem_cons.1 hz with rfl|hz
 ·exact hy
 ·exact Nat.le_trans hy ((List.pairwise_cons.1 h).1 z hz)
structure ML (X:Sc) (a b o:List Nat) (ia ib:Nat):Prop where
 pm:(o++a.drop ia++b.drop ib).Perm (a++b)
 ua:X.Up (o++a.drop ia)
 ub:X.Up (o++b.drop ib)
variable {a b o:List Nat}{ia ib:Nat}
theorem ML.swap (h:ML X a b o ia ib):ML X b a o ib ia:=by
 have e:=h.pm.trans List.perm_append_comm;rw[List.append_assoc] at e;exact⟨by rw[List.append_assoc];exact(List.perm_append_comm.append_left o).trans e,h.ub,h.ua⟩
theorem ML.move (h:ML X a b o ia ib){L1 L2:List Nat}(e:a.drop ia=L1++L2) (hl:∀ x∈L1,∀ y∈b.drop ib,X.r x≤X.r y):ML X a b (o++L1) (ia+L1.length) ib:=by
 have e2:a.drop (ia+L1.length)=L2:=by rw[←List.drop_drop,e,List.drop_left]
 obtain⟨p,u,v⟩:=h;rw[e] at p u;refine⟨by rw[e2,List.append_assoc o L1 L2];exact p,by rw[e2,List.append_assoc];exact u,?_⟩
 rw[List.append_assoc];obtain⟨u1,u2,u3⟩:=List.pairwise_append.1 u;obtain⟨v1,v2,v3⟩:=List.pairwise_append.1 v;refine List.pairwise_append.2 ⟨u1,List.pairwise_append.2 ⟨(List.pairwise_append.1 u2).1,v2,hl⟩,fun x hx y hy=>?_⟩
 rcases List.mem_append.1 hy with hy|hy
 ·exact u3 x hx y (List.mem_append_left _ hy)
 ·exact v3 x hx y hy
structure MP (X:Sc) (a b:List Nat):Prop where
 ina:X.In a
 inb:X.In b
 last:∀ y∈b,∀ i x,i+1=a.length→a[i]?=some x→X.r y≤X.r x
noncomputable def MR (X:Sc) (a b:List Nat) (c:Array Keyed):Prop:=∃ o,c=X.arr o∧X.Up o∧o.Perm (a++b)
theorem ML.doneB (h:ML X a b o ia ib) (e:ib=b.length):MR X a b (X.arr o++(X.arr a).extract ia (X.arr a).size++(X.arr b).extract ib (X.arr b).size):=by
 rw[zdo,zdo,zbd,zbd];obtain⟨p,u,v⟩:=h;have:b.drop ib=[]:=List.drop_of_length_le (Nat.le_of_eq e.symm);rw[this] at p ⊢
 rw[List.append_nil] at p ⊢
 exact⟨_,rfl,u,p⟩
theorem ML.doneA (h:ML X a b o ia ib) (e:ia=a.length):MR X a b (X.arr o++(X.arr a).extract ia (X.arr a).size++(X.arr b).extract ib (X.arr b).size):=by
 rw[zdo,zdo,zbd,zbd];obtain⟨p,u,v⟩:=h;have:a.drop ia=[]:=List.drop_of_length_le (Nat.le_of_eq e.symm);rw[this] at p ⊢
 rw[List.append_nil] at p ⊢
 exact⟨_,rfl,v,p⟩
theorem ML.last (h:ML X a b o ia ib) (m:MP X a b) (e:ia+1=a.length):MR X a b (X.arr o++(X.arr b).extract ib (X.arr b).size++(X.arr a).extract ia (X.arr a).size):=by
 rw[zdo,zdo,zbd,zbd];obtain⟨x,ex,ed⟩:=zbH (l:=a) (i:=ia) (by rw[←e];exact Nat.lt_succ_self _)
 have en:a.drop (ia+1)=[]:=List.drop_of_length_le (Nat.le_of_eq e.symm);rw[en] at ed;refine⟨_,rfl,?_,h.swap.pm.trans List.perm_append_comm⟩;refine List.pairwise_append.2 ⟨h.ub,by rw[ed];exact List.pairwise_singleton ..,fun y hy z hz=>?_⟩
 rcases List.mem_append.1 hy with hy|hy
 ·exact(List.pairwise_append.1 h.ua).2.2 y hy z hz
 ·rw[ed] at hz
  cases List.mem_singleton.1 hz
  exact m.last y (List.mem_of_mem_drop hy) ia x e ex
structure LI (X:Sc) (a b:List Nat) (m:Nat) (o:List Nat) (ia ib:Nat):Prop where
 ml:ML X a b o ia ib
 ha:ia+1 < a.length
 hb:ib < b.length
 hm:m≤o.length
theorem znZ {o a b i j m:Nat}(e:o+(a - i)+(b - j)=a+b) (h:i+1 < a) (hm:m≤o):m < a+b :=
 Nat.lt_of_le_of_lt hm (by rw[←e];exact Nat.lt_of_lt_of_le (Nat.lt_add_of_pos_right (Nat.sub_pos_of_lt (Nat.lt_of_succ_lt h))) (Nat.le_add_right ..))
theorem LI.bound {m:Nat}(h:LI X a b m o ia ib):m < a.length+b.length:=by
 have:=h.ml.pm.length_eq;simp only[List.length_append,List.length_drop] at this;exact znZ this h.ha h.hm
end
theorem zco {l:List Nat}{i:Nat}(h:i < l.length):l.getD i 0=l[i]:=by rw[List.getD_eq_getElem?_getD,List.getElem?_eq_getElem h];rfl
section
variable {X:Sc}{p:List Nat}{pd:List (Nat × Nat × Nat)}{g:Nat}{l seg:List Nat}{k base n hint:Nat}
structure Cut (T:Nat→Bool) (seg:List Nat) (h:Nat) (L1 L2:List Nat):Prop where
 eq:seg=L1++L2
 len:L1.length=h
 yes:∀ x∈L1,T x=true
 no:∀ x∈L2,T x=false
theorem GOk.cut {T:Nat→Bool}{h:Nat}(g:GOk (fun i=>T (seg.getD i 0)) seg.length h):Cut T seg h (seg.take h) (seg.drop h):=by
 refine⟨(List.take_append_drop h seg).symm,by rw[List.length_take];exact Nat.min_eq_left g.le,fun x hx=>?_,fun x hx=>?_⟩
 ·obtain⟨i,hi,e⟩:=List.mem_take_iff_getElem.1 hx
  have:=g.lo i (Nat.lt_of_lt_of_le hi (Nat.min_le_left ..));rw[zco (Nat.lt_of_lt_of_le hi (Nat.min_le_right ..)),e] at this;exact this
 ·obtain⟨i,hi,e⟩:=List.mem_drop_iff_getElem.1 hx
  have:=g.hi (i+h) (Nat.le_add_left ..) hi;rw[zco hi,show seg[i+h]=x by rw[←e];congr 1;exact Nat.add_comm i h] at this
  exact this
noncomputable def gT (X:Sc) (left:Bool) (k x:Nat):Bool:=if left=true then decide (X.r x < X.r k) else !decide (X.r k < X.r x)
theorem ze1 {left:Bool}(hk:k < X.N) (hl:∀ i,i < seg.length→l[base+i]?=seg[i]?) (up:X.Up seg) (hin:X.In seg) (hh:hint < seg.length) :
  X.W (zcp left (kas_item X.it k) (X.arr l) base seg.length hint) (fun c st'=>st'=X.st p pd g∧∃ h L1 L2,c=some h∧Cut (gT X left k) seg h L1 L2) (X.st p pd g):=by
 rw[zi8];refine W.mono (zoh (B:=fun i=>gT X left k (seg.getD i 0)) ⟨fun i Q hi hq=>?_,fun i j hij hj h=>?_⟩ hh) fun c st' ⟨h1,h,h2,h3⟩=>⟨h1,h,_,_,h2,h3.cut⟩
 ·have e:seg[i]?=some (seg.getD i 0):=by rw[zco hi,List.getElem?_eq_getElem hi]
  have hx:seg.getD i 0 < X.N:=hin _ (List.mem_of_getElem? e);unfold gBey;refine W.bind (W.elem ((hl i hi).trans e) ?_)
  cases left with
  |true=>rw[if_pos rfl];exact W.lt hx hk hq
  |false=>rw[if_neg Bool.false_ne_true];exact W.bind (W.lt hk hx (W.pure hq))
 ·have le:X.r (seg.getD i 0)≤X.r (seg.getD j 0):=by
   rw[zco (Nat.lt_of_le_of_lt hij hj),zco hj]
   rcases Nat.lt_or_eq_of_le hij with hi|rfl
   ·exact List.pairwise_iff_getElem.1 up i j _ hj hi
   ·exact Nat.le_refl _
  unfold gT at h ⊢
  cases left with
  |true=>exact decide_eq_true (Nat.lt_of_le_of_lt le (of_decide_eq_true h))
  |false =>
   have h:=of_decide_eq_false (Eq.mp (Bool.not_eq_true' _) h);show(!decide _)=true;rw[decide_eq_false fun h'=>h (Nat.lt_of_lt_of_le h' le)];rfl
theorem zbE {k x:Nat}:(gT X false k x=true→X.r x≤X.r k)∧(gT X false k x=false→X.r k < X.r x):=by
 unfold gT;simp
theorem zdh {k x:Nat}:(gT X true k x=true→X.r x < X.r k)∧(gT X true k x=false→X.r k≤X.r x):=by
 unfold gT;simp
end
noncomputable def zfv:Array Keyed→Array Keyed→SM (Array Keyed):=sortPriv% PySem.Builtin.mergeLo
noncomputable def setG':Nat→SM Unit:=sortPriv% PySem.Builtin.setMinGallop
abbrev AK:=Array Keyed
noncomputable def loDone (a b out:AK) (ia ib:Nat):AK:=out++a.extract ia a.size++b.extract ib b.size
noncomputable def loLast (a b out:AK) (ia ib:Nat):AK:=out++b.extract ib b.size++a.extract ia a.size
abbrev L1:=Option AK × AK × Nat × Nat × Nat × Nat
abbrev L2:=Option AK × AK × Nat × Nat × Nat × Nat × Nat
abbrev L0:=Option AK × AK × Nat × Nat × Nat
noncomputable def lo1 (a b:AK) (mg:Nat) (out:AK) (ia ib ac bc:Nat):SM (ForInStep L1):=do
 let y ← elem' b ib
 let x ← elem' a ia
 let c ← lt' y x
 match c with
 |some w =>
  if w=true then do
   let y ← elem' b ib
   if(ib+1 == b.size)=true then pure (.done (some (loDone a b (out.push y) ia (ib+1)),out.push y,ia,ib+1,0,bc+1))
   else if bc+1 ≥ mg then pure (.done (none,out.push y,ia,ib+1,0,bc+1))
   else pure (.yield (none,out.push y,ia,ib+1,0,bc+1))
  else do
   let x ← elem' a ia
   if(ia+1+1 == a.size)=true then pure (.done (some (loLast a b (out.push x) (ia+1) ib),out.push x,ia+1,ib,ac+1,0))
   else if ac+1 ≥ mg then pure (.done (none,out.push x,ia+1,ib,ac+1,0))
   else pure (.yield (none,out.push x,ia+1,ib,ac+1,0))
 |_=>pure (.done (some (loDone a b out ia ib),out,ia,ib,ac,bc))
noncomputable def lo2d (a b:AK) (mg:Nat) (out:AK) (ia ib ac bc:Nat):SM (ForInStep L2):=do
 let x ← elem' a ia
 if(ia+1+1 == a.size)=true then pure (.done (some (loLast a b (out.push x) (ia+1) ib),out.push x,ia+1,ib,mg,ac,bc))
 else if(decide (ac < 7)&&decide (bc < 7))=true then pure (.done (none,out.push x,ia+1,ib,mg,ac,bc))
 else pure (.yield (none,out.push x,ia+1,ib,mg,ac,bc))
noncomputable def lo2c (a b:AK) (mg:Nat) (out:AK) (ia ib ac bc:Nat):SM (ForInStep L2):=do
 let y ← elem' b ib
 if(ib+1 == b.size)=true then pure (.done (some (loDone a b (out.push y) ia (ib+1)),out.push y,ia,ib+1,mg,ac,bc))
 else do
  let x ← elem' a ia
  let c ← zcp true x b (ib+1) (b.size - (ib+1)) 0
  match c with
  |some k =>
   if k > 0 then
    if(ib+1+k == b.size)=true then pure (.done (some (loDone a b (out.push y++b.extract (ib+1) (ib+1+k)) ia (ib+1+k)),out.push y++b.extract (ib+1) (ib+1+k),ia,ib+1+k,mg,ac,k))
    else lo2d a b mg (out.push y++b.extract (ib+1) (ib+1+k)) ia (ib+1+k) ac k
   else lo2d a b mg (out.push y) ia (ib+1) ac k
  |_=>pure (.done (some (loDone a b (out.push y) ia (ib+1)),out.push y,ia,ib+1,mg,ac,bc))
noncomputable def lo2b (a b:AK) (out:AK) (ia ib ac bc mg:Nat):SM (ForInStep L2):=do
 setG' mg
 let y ← elem' b ib
 let c ← zcp false y a ia (a.size - ia) 0
 match c with
 |some k =>
  if k > 0 then
   if(ia+k+1 == a.size)=true then pure (.done (some (loLast a b (out++a.extract ia (ia+k)) (ia+k) ib),out++a.extract ia (ia+k),ia+k,ib,mg,k,bc))
   else if(ia+k == a.size)=true then pure (.done (some (loDone a b (out++a.extract ia (ia+k)) (ia+k) ib),out++a.extract ia (ia+k),ia+k,ib,mg,k,bc))
   else lo2c a b mg (out++a.extract ia (ia+k)) (ia+k) ib k bc
  else lo2c a b mg out ia ib k bc
 |_=>pure (.done (some (loDone a b out ia ib),out,ia,ib,mg,ac,bc))
noncomputable def lo2 (a b:AK) (out:AK) (ia ib mg ac bc:Nat):SM (ForInStep L2):=if mg > 1 then lo2b a b out ia ib ac bc (mg - 1) else lo2b a b out ia ib ac bc mg
noncomputable def lo0b (a b:AK) (out:AK) (ia ib mg ac bc:Nat):SM (ForInStep L0):=do
 liftM (rule "list.sort.gallop")
 let s ← forIn [0:a.size+b.size] ((none,out,ia,ib,mg+1,ac,bc):L2) fun z_ s=>lo2 a b s.2.1 s.2.2.1 s.2.2.2.1 s.2.2.2.2.1 s.2.2.2.2.2.1 s.2.2.2.2.2.2
 match s.1 with
 |some r=>pure (.done (some r,s.2.1,s.2.2.1,s.2.2.2.1,s.2.2.2.2.1))
 |none=>do
  setG' (s.2.2.2.2.1+1)
  pure (.yield (none,s.2.1,s.2.2.1,s.2.2.2.1,s.2.2.2.2.1+1))
noncomputable def lo0 (a b:AK) (out:AK) (ia ib mg:Nat):SM (ForInStep L0):=do
 let s ← forIn [0:a.size+b.size] ((none,out,ia,ib,0,0):L1) fun z_ s=>lo1 a b mg s.2.1 s.2.2.1 s.2.2.2.1 s.2.2.2.2.1 s.2.2.2.2.2
 match s.1 with
 |some r=>pure (.done (some r,s.2.1,s.2.2.1,s.2.2.2.1,mg))
 |none=>lo0b a b s.2.1 s.2.2.1 s.2.2.2.1 mg s.2.2.2.2.1 s.2.2.2.2.2
noncomputable def loAll (a b:AK):SM AK:=do
 liftM (rule "list.sort.merge-lo")
 let y ← elem' b 0
 if(1 == b.size)=true then pure (loDone a b #[y] 0 1)
 else if(0+1 == a.size)=true then pure (loLast a b #[y] 0 1)
 else do
  let t ← get
  let s ← forIn [0:a.size+b.size] ((none,#[y],0,1,gallopOf t):L0) fun z_ s=>lo0 a b s.2.1 s.2.2.1 s.2.2.2.1 s.2.2.2.2
  match s.1 with
  |some r=>pure r
  |none=>liftM (unsupported (α:=AK) "internal:list.sort.merge-bound")
theorem zhj (a b:AK):zfv a b=loAll a b:=by kernel_rfl
section
variable {X:Sc}{p:List Nat}{pd:List (Nat × Nat × Nat)}{g:Nat}{a b o:List Nat}{ia ib m:Nat}{st:SortSt}
theorem W.ite {α:Type}{c:Prop} [Decidable c] {x y:SM α}{Q:SQ α}(h1:c→X.W x Q st) (h2:¬c→X.W y Q st):X.W (if c then x else y) Q st:=by
 by_cases h:c
 ·rw[if_pos h];exact h1 h
 ·rw[if_neg h];exact h2 h
theorem zb3 {l:List Nat}{i:Nat}(h:(i == (X.arr l).size)=true):i=l.length:=by rw[za1] at h;exact eq_of_beq h
theorem zbt {l:List Nat}{i:Nat}(h:¬(i == (X.arr l).size)=true) (hi:i≤l.length):i < l.length:=by
 rw[za1] at h;exact Nat.lt_of_le_of_ne hi fun e=>h (by rw[e];exact beq_self_eq_true _)
theorem zfo {n:Nat}{Q:SQ Unit}(h:Q () (X.st p pd n)):X.W (setG' n) Q (X.st p pd g):=W.modify h
theorem zpQ (mp:MP X a b) (li:LI X a b m o ia ib){mg ac bc:Nat}{Q:SQ (ForInStep L1)}
  (hd:∀ o ia ib ac bc,LI X a b (m+1) o ia ib→Q (.done (none,X.arr o,ia,ib,ac,bc)) (X.st p pd g)) (hy:∀ o ia ib ac bc,LI X a b (m+1) o ia ib→Q (.yield (none,X.arr o,ia,ib,ac,bc)) (X.st p pd g))
  (hr:∀ r o,MR X a b r→Q (.done (some r,o)) (X.st p pd g)):X.W (lo1 (X.arr a) (X.arr b) mg (X.arr o) ia ib ac bc) Q (X.st p pd g):=by
 obtain⟨ml,h1,h2,h3⟩:=li;obtain⟨y,ey,dy⟩:=zbH h2;obtain⟨x,ex,dx⟩:=zbH (Nat.lt_of_succ_lt h1);have ua:=(List.pairwise_append.1 ml.ua).2.1;have ub:=(List.pairwise_append.1 ml.ub).2.1;rw[dx] at ua;rw[dy] at ub;have len:∀ z,m+1≤(o++[z]).length:=fun z=>by rw[List.length_append];exact Nat.succ_le_succ h3
 unfold lo1;refine W.bind (W.elem ey (W.bind (W.elem ex (W.bind (W.lt (mp.inb y (List.mem_of_getElem? ey)) (mp.ina x (List.mem_of_getElem? ex)) ?_)))));dsimp only;refine W.ite (fun c=>?_) (fun c=>?_)
 ·have lt:=of_decide_eq_true c
  have ml':ML X a b (o++[y]) ia (ib+1):=(ml.swap.move (L1:=[y]) dy (fun z hz=>by cases List.mem_singleton.1 hz;rw[dx];exact zdc ua (Nat.le_of_lt lt))).swap
  refine W.bind (W.elem ey ?_);rw[zda];refine W.ite (fun c=>W.pure (hr _ _ (ml'.doneB (zb3 c)))) (fun c=>?_);have li:LI X a b (m+1) (o++[y]) ia (ib+1):=⟨ml',h1,zbt c h2,len y⟩;exact W.ite (fun z_=>W.pure (hd _ _ _ _ _ li)) (fun z_=>W.pure (hy _ _ _ _ _ li))
 ·have le:=Nat.le_of_not_lt fun h=>c (decide_eq_true h)
  have ml':ML X a b (o++[x]) (ia+1) ib:=ml.move (L1:=[x]) dx (fun z hz=>by cases List.mem_singleton.1 hz;rw[dy];exact zdc ub le)
  refine W.bind (W.elem ex ?_);rw[zda];refine W.ite (fun c=>W.pure (hr _ _ (ml'.last mp (zb3 c)))) (fun c=>?_);have li:LI X a b (m+1) (o++[x]) (ia+1) ib:=⟨ml',zbt c h1,h2,len x⟩;exact W.ite (fun z_=>W.pure (hd _ _ _ _ _ li)) (fun z_=>W.pure (hy _ _ _ _ _ li))
theorem LI.less {m':Nat}(h:LI X a b m o ia ib) (hm:m'≤m):LI X a b m' o ia ib:=⟨h.ml,h.ha,h.hb,Nat.le_trans hm h.hm⟩
theorem zlX (mp:MP X a b) (li:LI X a b m o ia ib){mg:Nat}{Q:SQ L1}
  (hd:∀ o ia ib ac bc,LI X a b (m+1) o ia ib→Q (none,X.arr o,ia,ib,ac,bc) (X.st p pd g)) (hr:∀ r o,MR X a b r→Q (some r,o) (X.st p pd g)) :
  X.W (forIn [0:(X.arr a).size+(X.arr b).size] ((none,X.arr o,ia,ib,0,0):L1) fun z_ s=>lo1 (X.arr a) (X.arr b) mg s.2.1 s.2.2.1 s.2.2.2.1 s.2.2.2.2.1 s.2.2.2.2.2) Q (X.st p pd g):=by
 refine W.loop (fun x c st'=>st'=X.st p pd g∧∃ o ia ib ac bc,c=(none,X.arr o,ia,ib,ac,bc)∧LI X a b (m+x) o ia ib) ?_ ?_ ⟨rfl,o,ia,ib,0,0,rfl,li⟩
 ·rintro x c st' hx ⟨rfl,o,ia,ib,ac,bc,rfl,li⟩
  exact zpQ mp li (fun o ia ib ac bc h=>hd o ia ib ac bc (h.less (Nat.succ_le_succ (Nat.le_add_right ..)))) (fun o ia ib ac bc h=>⟨rfl,o,ia,ib,ac,bc,rfl,h⟩) hr
 ·rintro c st' ⟨rfl,o,ia,ib,ac,bc,rfl,li⟩
  have:=li.bound;rw[za1,za1] at this;exact absurd this (Nat.not_lt_of_le (Nat.le_add_left ..))
end
section
variable {X:Sc}{p:List Nat}{pd:List (Nat × Nat × Nat)}{g:Nat}{a b o:List Nat}{ia ib m:Nat}{st:SortSt}
structure K2 (X:Sc) (a b p:List Nat) (pd:List (Nat × Nat × Nat)) (m:Nat) (Q:SQ (ForInStep L2)):Prop where
 dn:∀ o ia ib mg ac bc g,LI X a b m o ia ib→Q (.done (none,X.arr o,ia,ib,mg,ac,bc)) (X.st p pd g)
 yi:∀ o ia ib mg ac bc g,LI X a b m o ia ib→Q (.yield (none,X.arr o,ia,ib,mg,ac,bc)) (X.st p pd g)
 rt:∀ r o g,MR X a b r→Q (.done (some r,o)) (X.st p pd g)
theorem zka (mp:MP X a b) (li:LI X a b m o ia ib) (le:∀ x,a[ia]?=some x→∀ y∈b.drop ib,X.r x≤X.r y){mg ac bc:Nat}{Q:SQ (ForInStep L2)}(k:K2 X a b p pd m Q):X.W (lo2d (X.arr a) (X.arr b) mg (X.arr o) ia ib ac bc) Q (X.st p pd g):=by
 obtain⟨ml,h1,h2,h3⟩:=li;obtain⟨x,ex,dx⟩:=zbH (Nat.lt_of_succ_lt h1);have ml':ML X a b (o++[x]) (ia+1) ib:=ml.move (L1:=[x]) dx (fun z hz=>by cases List.mem_singleton.1 hz;exact le x ex)
 unfold lo2d;refine W.bind (W.elem ex ?_);rw[zda];refine W.ite (fun c=>W.pure (k.rt _ _ _ (ml'.last mp (zb3 c)))) (fun c=>?_);have li:LI X a b m (o++[x]) (ia+1) ib:=⟨ml',zbt c h1,h2,by rw[List.length_append];exact Nat.le_trans h3 (Nat.le_add_right ..)⟩
 exact W.ite (fun z_=>W.pure (k.dn _ _ _ _ _ _ _ li)) (fun z_=>W.pure (k.yi _ _ _ _ _ _ _ li))
theorem zld {l L1 L2:List Nat}{i:Nat}(e:l.drop i=L1++L2):(X.arr l).extract i (i+L1.length)=X.arr L1:=by
 rw[zeu,e,Nat.add_sub_cancel_left,List.take_left]
theorem zkW {l:List Nat}(i:Nat):∀ j,j < (l.drop i).length→l[i+j]?=(l.drop i)[j]?:=fun j z_=>List.getElem?_drop.symm
theorem zm8 {l L1 L2:List Nat}{i:Nat}(e:l.drop i=L1++L2) (h:i≤l.length):i+L1.length≤l.length:=by
 have:=congrArg List.length e;rw[List.length_drop,List.length_append] at this;exact Nat.le_trans (Nat.add_le_add_left (Nat.le_add_right L1.length L2.length) i) (by rw[←this,Nat.add_sub_cancel' h];exact Nat.le_refl _)
theorem zkb (mp:MP X a b) (li:LI X a b m o ia ib) (le:∀ y,b[ib]?=some y→∀ x∈a.drop ia,X.r y≤X.r x){mg ac bc:Nat}{Q:SQ (ForInStep L2)}(k:K2 X a b p pd m Q):X.W (lo2c (X.arr a) (X.arr b) mg (X.arr o) ia ib ac bc) Q (X.st p pd g):=by
 obtain⟨ml,h1,h2,h3⟩:=li;obtain⟨y,ey,dy⟩:=zbH h2;obtain⟨x,ex,dx⟩:=zbH (Nat.lt_of_succ_lt h1);have ml':ML X a b (o++[y]) ia (ib+1):=(ml.swap.move (L1:=[y]) dy (fun z hz=>by cases List.mem_singleton.1 hz;exact le y ey)).swap
 have ua:=(List.pairwise_append.1 ml.ua).2.1;rw[dx] at ua;unfold lo2c;refine W.bind (W.elem ey ?_);rw[zda];refine W.ite (fun c=>W.pure (k.rt _ _ _ (ml'.doneB (zb3 c)))) (fun c=>?_);have h2':=zbt c h2;have h3':m≤(o++[y]).length:=by rw[List.length_append];exact Nat.le_trans h3 (Nat.le_add_right ..)
 refine W.bind (W.elem ex ?_);have eb:(X.arr b).size - (ib+1)=(b.drop (ib+1)).length:=by rw[za1,List.length_drop]
 rw[eb];refine W.bind (W.mono (ze1 (mp.ina x (List.mem_of_getElem? ex)) (zkW (ib+1)) (List.pairwise_append.1 ml'.ub).2.1 (fun z hz=>mp.inb z (List.mem_of_mem_drop hz)) (by rw[List.length_drop];exact Nat.sub_pos_of_lt h2')) ?_)
 rintro c st' ⟨rfl,h,L1,L2,rfl,⟨e,rfl,c1,c2⟩⟩
 dsimp only;have x1:∀ x',a[ia]?=some x'→∀ y∈L2,X.r x'≤X.r y:=fun x' e' y hy=>by rw[ex] at e';cases e';exact zdh.2 (c2 y hy)
 refine W.ite (fun z_=>?_) (fun c=>?_)
 ·rw[zld e,zbd]
  have ml2:ML X a b (o++[y]++L1) ia (ib+1+L1.length):=(ml'.swap.move e (fun z hz w hw=>by rw[dx] at hw;exact zdc ua (Nat.le_of_lt (zdh.1 (c1 z hz))) w hw)).swap
  refine W.ite (fun c=>W.pure (k.rt _ _ _ (ml2.doneB (zb3 c)))) (fun c=>?_);refine zka mp ⟨ml2,h1,zbt c (zm8 e h2),by rw[List.length_append];exact Nat.le_trans h3' (Nat.le_add_right ..)⟩ (fun x' e' y hy=>x1 x' e' y ?_) k
  rw[←List.drop_drop,e,List.drop_left] at hy;exact hy
 ·have:L1=[]:=List.length_eq_zero_iff.1 (Nat.eq_zero_of_not_pos c)
  subst this;exact zka mp ⟨ml',h1,h2',h3'⟩ (fun x' e' y hy=>x1 x' e' y (by rw[e] at hy;exact hy)) k
theorem zkc (mp:MP X a b) (li:LI X a b m o ia ib){mg ac bc:Nat}{Q:SQ (ForInStep L2)}(k:K2 X a b p pd m Q):X.W (lo2b (X.arr a) (X.arr b) (X.arr o) ia ib ac bc mg) Q (X.st p pd g):=by
 have li':=li;obtain⟨ml,h1,h2,h3⟩:=li';obtain⟨y,ey,dy⟩:=zbH h2;have ub:=(List.pairwise_append.1 ml.ub).2.1;rw[dy] at ub;unfold lo2b;refine W.bind (zfo (W.bind (W.elem ey ?_)));have ea:(X.arr a).size - ia=(a.drop ia).length:=by rw[za1,List.length_drop]
 rw[ea];have hia:=Nat.lt_of_succ_lt h1;refine W.bind (W.mono (ze1 (mp.inb y (List.mem_of_getElem? ey)) (zkW ia) (List.pairwise_append.1 ml.ua).2.1 (fun z hz=>mp.ina z (List.mem_of_mem_drop hz)) (by rw[List.length_drop];exact Nat.sub_pos_of_lt hia)) ?_)
 rintro c st' ⟨rfl,h,L1,L2,rfl,⟨e,rfl,c1,c2⟩⟩
 dsimp only;have x1:∀ y',b[ib]?=some y'→∀ x∈L2,X.r y'≤X.r x:=fun y' e' x hx=>by rw[ey] at e';cases e';exact Nat.le_of_lt (zbE.2 (c2 x hx))
 refine W.ite (fun z_=>?_) (fun c=>?_)
 ·rw[zld e,zbd]
  have ml2:ML X a b (o++L1) (ia+L1.length) ib:=ml.move e (fun z hz w hw=>by rw[dy] at hw;exact zdc ub (zbE.1 (c1 z hz)) w hw)
  refine W.ite (fun c=>W.pure (k.rt _ _ _ (ml2.last mp (zb3 c)))) (fun c1=>?_);refine W.ite (fun c=>W.pure (k.rt _ _ _ (ml2.doneA (zb3 c)))) (fun c2=>?_);refine zkb mp ⟨ml2,zbt c1 (zbt c2 (zm8 e (Nat.le_of_lt hia))),h2,by rw[List.length_append];exact Nat.le_trans h3 (Nat.le_add_right ..)⟩ (fun x' e' y hy=>x1 x' e' y ?_) k
  rw[←List.drop_drop,e,List.drop_left] at hy;exact hy
 ·have:L1=[]:=List.length_eq_zero_iff.1 (Nat.eq_zero_of_not_pos c)
  subst this;exact zkb mp li (fun x' e' y hy=>x1 x' e' y (by rw[e] at hy;exact hy)) k
theorem zlW (mp:MP X a b) (li:LI X a b m o ia ib){mg ac bc:Nat}{Q:SQ L2}
  (hd:∀ o ia ib mg ac bc g,LI X a b m o ia ib→Q (none,X.arr o,ia,ib,mg,ac,bc) (X.st p pd g)) (hr:∀ r o g,MR X a b r→Q (some r,o) (X.st p pd g)) :
  X.W (forIn [0:(X.arr a).size+(X.arr b).size] ((none,X.arr o,ia,ib,mg,ac,bc):L2) fun z_ s=>lo2 (X.arr a) (X.arr b) s.2.1 s.2.2.1 s.2.2.2.1 s.2.2.2.2.1 s.2.2.2.2.2.1 s.2.2.2.2.2.2) Q (X.st p pd g):=by
 refine W.loop (fun x c st'=>∃ o ia ib mg ac bc g,st'=X.st p pd g∧c=(none,X.arr o,ia,ib,mg,ac,bc)∧LI X a b m o ia ib) ?_ ?_ ⟨o,ia,ib,mg,ac,bc,g,rfl,rfl,li⟩
 ·rintro x c st' hx ⟨o,ia,ib,mg,ac,bc,g,rfl,rfl,li⟩
  have k:K2 X a b p pd m (Nx Q fun c st'=>∃ o ia ib mg ac bc g,st'=X.st p pd g∧c=(none,X.arr o,ia,ib,mg,ac,bc)∧LI X a b m o ia ib) :=
   ⟨hd,fun o ia ib mg ac bc g h=>⟨o,ia,ib,mg,ac,bc,g,rfl,rfl,h⟩,hr⟩
  exact W.ite (fun z_=>zkc mp li k) (fun z_=>zkc mp li k)
 ·rintro c st' ⟨o,ia,ib,mg,ac,bc,g,rfl,rfl,li⟩
  exact hd o ia ib mg ac bc g li
theorem zlV (mp:MP X a b) (ua:X.Up a) (ub:X.Up b) (h1:0 < a.length) (h2:0 < b.length) (hle:∀ y,b[0]?=some y→∀ x∈a,X.r y≤X.r x) :
  X.W (zfv (X.arr a) (X.arr b)) (fun r st'=>MR X a b r∧∃ g,st'=X.st p pd g) (X.st p pd g):=by
 rw[zhj];unfold loAll;obtain⟨y,ey,dy⟩:=zbH h2;have ml:ML X a b [y] 0 1:=(ML.move (X:=X) (a:=b) (b:=a) (o:=[]) (ia:=0) (ib:=0) ⟨by rw[List.drop_zero,List.drop_zero];exact List.Perm.refl _,ub,ua⟩ (L1:=[y]) dy (fun z hz=>by cases List.mem_singleton.1 hz;exact hle y ey)).swap
 refine W.bind (W.rule (W.bind (W.elem ey ?_)));have e1:#[kas_item X.it y]=X.arr [y]:=rfl;rw[e1];refine W.ite (fun c=>W.pure ⟨ml.doneB (zb3 c),g,rfl⟩) (fun c1=>?_);refine W.ite (fun c=>W.pure ⟨ml.last mp (zb3 c),g,rfl⟩) (fun c2=>?_);refine W.bind (W.get (W.bind (W.loop (fun x c st'=>∃ o ia ib mg g,st'=X.st p pd g∧c=(none,X.arr o,ia,ib,mg)∧LI X a b (1+x) o ia ib) ?_ ?_ ⟨_,_,_,_,_,rfl,rfl,ml,zbt c2 h1,zbt c1 h2,Nat.le_refl _⟩)))
 ·rintro x c st' hx ⟨o,ia,ib,mg,g,rfl,rfl,li⟩
  refine W.bind (zlX mp li (fun o ia ib ac bc li=>?_) (fun r o hr=>W.pure (W.pure ⟨hr,g,rfl⟩)));refine W.bind (W.rule (W.bind (zlW mp li (fun o ia ib mg ac bc g li=>?_) (fun r o g hr=>W.pure (W.pure ⟨hr,g,rfl⟩)))));exact W.bind (zfo (W.pure ⟨o,ia,ib,_,_,rfl,rfl,li⟩))
 ·rintro c st' ⟨o,ia,ib,mg,g,rfl,rfl,li⟩
  have:=li.bound;rw[za1,za1] at this;exact absurd this (Nat.not_lt_of_le (Nat.le_add_left ..))
end
noncomputable def zfw:AK→AK→SM AK:=sortPriv% PySem.Builtin.mergeHi
noncomputable def hiDone (a b out:AK) (na nb:Nat):AK:=a.extract 0 na++b.extract 0 nb++out.reverse
noncomputable def hiFst (a b out:AK) (na nb:Nat):AK:=b.extract 0 nb++a.extract 0 na++out.reverse
abbrev H1:=Option AK × Nat × Nat × AK × Nat × Nat
abbrev H2:=Option AK × Nat × Nat × AK × Nat × Nat × Nat
abbrev H0:=Option AK × Nat × Nat × AK × Nat
noncomputable def hi1 (a b:AK) (mg:Nat) (na nb:Nat) (out:AK) (ac bc:Nat):SM (ForInStep H1):=do
 let y ← elem' b (nb - 1)
 let x ← elem' a (na - 1)
 let c ← lt' y x
 match c with
 |some w =>
  if w=true then do
   let x ← elem' a (na - 1)
   if(na - 1 == 0)=true then pure (.done (some (hiDone a b (out.push x) (na - 1) nb),na - 1,nb,out.push x,ac+1,0))
   else if ac+1 ≥ mg then pure (.done (none,na - 1,nb,out.push x,ac+1,0))
   else pure (.yield (none,na - 1,nb,out.push x,ac+1,0))
  else do
   let y ← elem' b (nb - 1)
   if(nb - 1 == 1)=true then pure (.done (some (hiFst a b (out.push y) na (nb - 1)),na,nb - 1,out.push y,0,bc+1))
   else if bc+1 ≥ mg then pure (.done (none,na,nb - 1,out.push y,0,bc+1))
   else pure (.yield (none,na,nb - 1,out.push y,0,bc+1))
 |_=>pure (.done (some (hiDone a b out na nb),na,nb,out,ac,bc))
noncomputable def hi2d (a b:AK) (mg:Nat) (na nb:Nat) (out:AK) (ac bc:Nat):SM (ForInStep H2):=do
 let x ← elem' a (na - 1)
 if(na - 1 == 0)=true then pure (.done (some (hiDone a b (out.push x) (na - 1) nb),na - 1,nb,out.push x,mg,ac,bc))
 else if(decide (ac < 7)&&decide (bc < 7))=true then pure (.done (none,na - 1,nb,out.push x,mg,ac,bc))
 else pure (.yield (none,na - 1,nb,out.push x,mg,ac,bc))
noncomputable def hi2c (a b:AK) (mg:Nat) (na nb:Nat) (out:AK) (ac bc:Nat):SM (ForInStep H2):=do
 let y ← elem' b (nb - 1)
 if(nb - 1 == 1)=true then pure (.done (some (hiFst a b (out.push y) na (nb - 1)),na,nb - 1,out.push y,mg,ac,bc))
 else do
  let x ← elem' a (na - 1)
  let c ← zcp true x b 0 (nb - 1) (nb - 1 - 1)
  match c with
  |some t =>
   if nb - 1 - t > 0 then
    if(t == 1)=true then pure (.done (some (hiFst a b (out.push y++(b.extract t (nb - 1)).reverse) na t),na,t,out.push y++(b.extract t (nb - 1)).reverse,mg,ac,nb - 1 - t))
    else if(t == 0)=true then pure (.done (some (hiDone a b (out.push y++(b.extract t (nb - 1)).reverse) na t),na,t,out.push y++(b.extract t (nb - 1)).reverse,mg,ac,nb - 1 - t))
    else hi2d a b mg na t (out.push y++(b.extract t (nb - 1)).reverse) ac (nb - 1 - t)
   else hi2d a b mg na (nb - 1) (out.push y) ac (nb - 1 - t)
  |_=>pure (.done (some (hiDone a b (out.push y) na (nb - 1)),na,nb - 1,out.push y,mg,ac,bc))
noncomputable def hi2b (a b:AK) (na nb:Nat) (out:AK) (ac bc mg:Nat):SM (ForInStep H2):=do
 setG' mg
 let y ← elem' b (nb - 1)
 let c ← zcp false y a 0 na (na - 1)
 match c with
 |some t =>
  if na - t > 0 then
   if(t == 0)=true then pure (.done (some (hiDone a b (out++(a.extract t na).reverse) t nb),t,nb,out++(a.extract t na).reverse,mg,na - t,bc))
   else hi2c a b mg t nb (out++(a.extract t na).reverse) (na - t) bc
  else hi2c a b mg na nb out (na - t) bc
 |_=>pure (.done (some (hiDone a b out na nb),na,nb,out,mg,ac,bc))
noncomputable def hi2 (a b:AK) (na nb:Nat) (out:AK) (mg ac bc:Nat):SM (ForInStep H2):=if mg > 1 then hi2b a b na nb out ac bc (mg - 1) else hi2b a b na nb out ac bc mg
noncomputable def hi0b (a b:AK) (na nb:Nat) (out:AK) (mg ac bc:Nat):SM (ForInStep H0):=do
 liftM (rule "list.sort.gallop")
 let s ← forIn [0:a.size+b.size] ((none,na,nb,out,mg+1,ac,bc):H2) fun z_ s=>hi2 a b s.2.1 s.2.2.1 s.2.2.2.1 s.2.2.2.2.1 s.2.2.2.2.2.1 s.2.2.2.2.2.2
 match s.1 with
 |some r=>pure (.done (some r,s.2.1,s.2.2.1,s.2.2.2.1,s.2.2.2.2.1))
 |none=>do
  setG' (s.2.2.2.2.1+1)
  pure (.yield (none,s.2.1,s.2.2.1,s.2.2.2.1,s.2.2.2.2.1+1))
noncomputable def hi0 (a b:AK) (na nb:Nat) (out:AK) (mg:Nat):SM (ForInStep H0):=do
 let s ← forIn [0:a.size+b.size] ((none,na,nb,out,0,0):H1) fun z_ s=>hi1 a b mg s.2.1 s.2.2.1 s.2.2.2.1 s.2.2.2.2.1 s.2.2.2.2.2
 match s.1 with
 |some r=>pure (.done (some r,s.2.1,s.2.2.1,s.2.2.2.1,mg))
 |none=>hi0b a b s.2.1 s.2.2.1 s.2.2.2.1 mg s.2.2.2.2.1 s.2.2.2.2.2
noncomputable def hiAll (a b:AK):SM AK:=do
 liftM (rule "list.sort.merge-hi")
 let x ← elem' a (a.size - 1)
 if(a.size - 1 == 0)=true then pure (hiDone a b #[x] (a.size - 1) b.size)
 else if(b.size == 1)=true then pure (hiFst a b #[x] (a.size - 1) b.size)
 else do
  let t ← get
  let s ← forIn [0:a.size+b.size] ((none,a.size - 1,b.size,#[x],gallopOf t):H0) fun z_ s=>hi0 a b s.2.1 s.2.2.1 s.2.2.2.1 s.2.2.2.2
  match s.1 with
  |some r=>pure r
  |none=>liftM (unsupported (α:=AK) "internal:list.sort.merge-bound")
theorem zhk (a b:AK):zfw a b=hiAll a b:=by kernel_rfl
section
variable {X:Sc}{p:List Nat}{pd:List (Nat × Nat × Nat)}{g:Nat}{a b w:List Nat}{na nb m:Nat}{st:SortSt}
theorem zcr {α:Type}{l:List α}{i:Nat}(h:0 < i) (hi:i≤l.length):∃ y,l[i - 1]?=some y∧l.take i=l.take (i - 1)++[y]:=by
 obtain⟨j,rfl⟩:∃ j,i=j+1:=⟨i - 1,(Nat.sub_add_cancel h).symm⟩;exact⟨l[j],List.getElem?_eq_getElem hi,(List.take_append_getElem hi).symm⟩
theorem zf0 (l:List Nat):(X.arr l).reverse=X.arr l.reverse:=by unfold Sc.arr;rw[List.reverse_toArray,List.map_reverse]
theorem zdp (l:List Nat) (i:Nat):(X.arr l).extract 0 i=X.arr (l.take i):=by rw[zeu,List.drop_zero,Nat.sub_zero]
theorem zdb {x:Nat}{l:List Nat}(h:X.Up (l++[x])){y:Nat}(hy:X.r x≤X.r y):∀ z∈l++[x],X.r z≤X.r y:=fun z hz=>by
 rcases List.mem_append.1 hz with hz|hz
 ·exact Nat.le_trans ((List.pairwise_append.1 h).2.2 z hz x (List.mem_singleton.2 rfl)) hy
 ·cases List.mem_singleton.1 hz;exact hy
structure MH (X:Sc) (a b w:List Nat) (na nb:Nat):Prop where
 pm:(a.take na++b.take nb++w).Perm (a++b)
 ua:X.Up (a.take na++w)
 ub:X.Up (b.take nb++w)
theorem MH.swap (h:MH X a b w na nb):MH X b a w nb na :=
 ⟨(List.perm_append_comm.append_right w).trans (h.pm.trans List.perm_append_comm),h.ub,h.ua⟩
theorem MH.move (h:MH X a b w na nb){L1 L2:List Nat}(e:a.take na=L1++L2) (hl:∀ x∈L2,∀ y∈b.take nb,X.r y≤X.r x):MH X a b (L2++w) L1.length nb:=by
 have e2:a.take L1.length=L1:=by
  have:(a.take na).take L1.length=L1:=by rw[e,List.take_left]
  rw[List.take_take] at this;have hle:L1.length≤na:=by
   have:=congrArg List.length e;rw[List.length_take,List.length_append] at this;exact Nat.le_trans (Nat.le_trans (Nat.le_add_right ..) (Nat.le_of_eq this.symm)) (Nat.min_le_left ..)
  rwa [Nat.min_eq_left hle] at this
 obtain⟨p,u,v⟩:=h;rw[e] at p u;have p':(L1++b.take nb++(L2++w)).Perm (a++b):=by
  refine List.Perm.trans ?_ p;rw[←List.append_assoc];refine List.Perm.append_right w ?_;rw[List.append_assoc,List.append_assoc];exact List.perm_append_comm.append_left L1
 refine⟨by rw[e2];exact p',by rw[e2,← List.append_assoc];exact u,?_⟩
 obtain⟨u1,u2,u3⟩:=List.pairwise_append.1 u;obtain⟨v1,v2,v3⟩:=List.pairwise_append.1 v;refine List.pairwise_append.2 ⟨v1,List.pairwise_append.2 ⟨(List.pairwise_append.1 u1).2.1,v2,fun x hx=>u3 x (List.mem_append_right _ hx)⟩,fun y hy x hx=>?_⟩
 rcases List.mem_append.1 hx with hx|hx
 ·exact hl x hx y hy
 ·exact v3 y hy x hx
theorem MH.one (h:MH X a b w na nb) (h0:0 < na) (hn:na≤a.length){x:Nat}(e:a.take na=a.take (na - 1)++[x]) (hl:∀ y∈b.take nb,X.r y≤X.r x):MH X a b (x::w) (na - 1) nb:=by
 have:=h.move e fun z hz=>by cases List.mem_singleton.1 hz;exact hl
 rwa [List.length_take,Nat.min_eq_left (Nat.le_trans (Nat.sub_le _ _) hn)] at this
structure HP (X:Sc) (a b:List Nat):Prop where
 ina:X.In a
 inb:X.In b
 first:∀ y,b[0]?=some y→∀ x∈a,X.r y≤X.r x
theorem MH.doneA (h:MH X a b w na nb) (e:na=0):MR X a b (hiDone (X.arr a) (X.arr b) (X.arr w.reverse) na nb):=by
 unfold hiDone;rw[zdp,zdp,zf0,List.reverse_reverse,zbd,zbd];subst e;exact⟨_,rfl,h.ub,h.pm⟩
theorem MH.doneB (h:MH X a b w na nb) (e:nb=0):MR X a b (hiDone (X.arr a) (X.arr b) (X.arr w.reverse) na nb):=by
 unfold hiDone;rw[zdp,zdp,zf0,List.reverse_reverse,zbd,zbd];subst e;exact⟨_,rfl,by rw[List.take_zero,List.append_nil];exact h.ua,h.pm⟩
theorem MH.fst (h:MH X a b w na nb) (mp:HP X a b) (e:nb=1):MR X a b (hiFst (X.arr a) (X.arr b) (X.arr w.reverse) na nb):=by
 unfold hiFst;rw[zdp,zdp,zf0,List.reverse_reverse,zbd,zbd];subst e;refine⟨_,rfl,?_,(List.perm_append_comm.append_right w).trans h.pm⟩;rw[List.append_assoc];obtain⟨v1,v2,v3⟩:=List.pairwise_append.1 h.ub;refine List.pairwise_append.2 ⟨v1,h.ua,fun y hy x hx=>?_⟩
 rcases List.mem_append.1 hx with hx|hx
 ·obtain⟨i,hi,ey⟩:=List.mem_take_iff_getElem.1 hy
  have:i=0:=Nat.lt_one_iff.1 (Nat.lt_of_lt_of_le hi (Nat.min_le_left ..));subst this;exact mp.first y (by rw[←ey];exact List.getElem?_eq_getElem _) x (List.mem_of_mem_take hx)
 ·exact v3 y hy x hx
structure HI (X:Sc) (a b:List Nat) (m:Nat) (w:List Nat) (na nb:Nat):Prop where
 mh:MH X a b w na nb
 ha:0 < na
 la:na≤a.length
 hb:1 < nb
 lb:nb≤b.length
 hm:m≤w.length
theorem zlQ {w a b i j m:Nat}(e:min i a+min j b+w=a+b) (h:0 < i) (hl:i≤a) (hm:m≤w):m < a+b:=by
 rw[←e,Nat.min_eq_left hl];exact Nat.lt_of_le_of_lt hm (Nat.lt_add_of_pos_left (Nat.add_pos_left h _))
theorem HI.bound (h:HI X a b m w na nb):m < a.length+b.length:=by
 have:=h.mh.pm.length_eq;simp only[List.length_append,List.length_take] at this;exact zlQ this h.ha h.la h.hm
theorem HI.less {m':Nat}(h:HI X a b m w na nb) (hm:m'≤m):HI X a b m' w na nb:=⟨h.mh,h.ha,h.la,h.hb,h.lb,Nat.le_trans hm h.hm⟩
theorem zdF (w:List Nat) (x:Nat):(X.arr w.reverse).push (kas_item X.it x)=X.arr (x::w).reverse:=by rw[zda,List.reverse_cons]
theorem ne0 {i:Nat}(h:¬(i == 0)=true):0 < i:=Nat.pos_of_ne_zero fun e=>h (by rw[e];rfl)
theorem ne1 {i:Nat}(h:¬(i == 1)=true) (h0:0 < i):1 < i:=Nat.lt_of_le_of_ne h0 fun e=>h (by rw[←e];rfl)
theorem zp3 (mp:HP X a b) (li:HI X a b m w na nb){mg ac bc:Nat}{Q:SQ (ForInStep H1)}
  (hd:∀ w na nb ac bc,HI X a b (m+1) w na nb→Q (.done (none,na,nb,X.arr w.reverse,ac,bc)) (X.st p pd g)) (hy:∀ w na nb ac bc,HI X a b (m+1) w na nb→Q (.yield (none,na,nb,X.arr w.reverse,ac,bc)) (X.st p pd g))
  (hr:∀ r o,MR X a b r→Q (.done (some r,o)) (X.st p pd g)):X.W (hi1 (X.arr a) (X.arr b) mg na nb (X.arr w.reverse) ac bc) Q (X.st p pd g):=by
 obtain⟨mh,h1,h2,h3,h4,h5⟩:=li;have h3':=Nat.lt_of_succ_lt h3;obtain⟨y,ey,dy⟩:=zcr h3' h4;obtain⟨x,ex,dx⟩:=zcr h1 h2;have ua:=(List.pairwise_append.1 mh.ua).1;have ub:=(List.pairwise_append.1 mh.ub).1;rw[dx] at ua;rw[dy] at ub;unfold hi1;refine W.bind (W.elem ey (W.bind (W.elem ex (W.bind (W.lt (mp.inb y (List.mem_of_getElem? ey)) (mp.ina x (List.mem_of_getElem? ex)) ?_)))));dsimp only;refine W.ite (fun c=>?_) (fun c=>?_)
 ·have lt:=of_decide_eq_true c
  have mh':=mh.one h1 h2 dx (by rw[dy];exact zdb ub (Nat.le_of_lt lt))
  refine W.bind (W.elem ex ?_);rw[zdF];refine W.ite (fun c=>W.pure (hr _ _ (mh'.doneA (eq_of_beq c)))) (fun c=>?_);have li:HI X a b (m+1) (x::w) (na - 1) nb:=⟨mh',ne0 c,Nat.le_trans (Nat.sub_le _ _) h2,h3,h4,Nat.succ_le_succ h5⟩;exact W.ite (fun z_=>W.pure (hd _ _ _ _ _ li)) (fun z_=>W.pure (hy _ _ _ _ _ li))
 ·have le:=Nat.le_of_not_lt fun h=>c (decide_eq_true h)
  have mh':=(mh.swap.one h3' h4 dy (by rw[dx];exact zdb ua le)).swap
  refine W.bind (W.elem ey ?_);rw[zdF];refine W.ite (fun c=>W.pure (hr _ _ (mh'.fst mp (eq_of_beq c)))) (fun c=>?_);have li:HI X a b (m+1) (y::w) na (nb - 1):=⟨mh',h1,h2,ne1 c (Nat.sub_pos_of_lt h3),Nat.le_trans (Nat.sub_le _ _) h4,Nat.succ_le_succ h5⟩;exact W.ite (fun z_=>W.pure (hd _ _ _ _ _ li)) (fun z_=>W.pure (hy _ _ _ _ _ li))
theorem zmf (mp:HP X a b) (li:HI X a b m w na nb){mg:Nat}{Q:SQ H1}
  (hd:∀ w na nb ac bc,HI X a b (m+1) w na nb→Q (none,na,nb,X.arr w.reverse,ac,bc) (X.st p pd g)) (hr:∀ r o,MR X a b r→Q (some r,o) (X.st p pd g)) :
  X.W (forIn [0:(X.arr a).size+(X.arr b).size] ((none,na,nb,X.arr w.reverse,0,0):H1) fun z_ s=>hi1 (X.arr a) (X.arr b) mg s.2.1 s.2.2.1 s.2.2.2.1 s.2.2.2.2.1 s.2.2.2.2.2) Q (X.st p pd g):=by
 refine W.loop (fun x c st'=>st'=X.st p pd g∧∃ w na nb ac bc,c=(none,na,nb,X.arr w.reverse,ac,bc)∧HI X a b (m+x) w na nb) ?_ ?_ ⟨rfl,w,na,nb,0,0,rfl,li⟩
 ·rintro x c st' hx ⟨rfl,w,na,nb,ac,bc,rfl,li⟩
  exact zp3 mp li (fun w na nb ac bc h=>hd w na nb ac bc (h.less (Nat.succ_le_succ (Nat.le_add_right ..)))) (fun w na nb ac bc h=>⟨rfl,w,na,nb,ac,bc,rfl,h⟩) hr
 ·rintro c st' ⟨rfl,w,na,nb,ac,bc,rfl,li⟩
  have:=li.bound;rw[za1,za1] at this;exact absurd this (Nat.not_lt_of_le (Nat.le_add_left ..))
end
section
variable {X:Sc}{p:List Nat}{pd:List (Nat × Nat × Nat)}{g:Nat}{a b w:List Nat}{na nb m:Nat}{st:SortSt}
structure J2 (X:Sc) (a b p:List Nat) (pd:List (Nat × Nat × Nat)) (m:Nat) (Q:SQ (ForInStep H2)):Prop where
 dn:∀ w na nb mg ac bc g,HI X a b m w na nb→Q (.done (none,na,nb,X.arr w.reverse,mg,ac,bc)) (X.st p pd g)
 yi:∀ w na nb mg ac bc g,HI X a b m w na nb→Q (.yield (none,na,nb,X.arr w.reverse,mg,ac,bc)) (X.st p pd g)
 rt:∀ r o g,MR X a b r→Q (.done (some r,o)) (X.st p pd g)
theorem zkz (li:HI X a b m w na nb) (le:∀ x,a[na - 1]?=some x→∀ y∈b.take nb,X.r y≤X.r x){mg ac bc:Nat}{Q:SQ (ForInStep H2)}(k:J2 X a b p pd m Q):X.W (hi2d (X.arr a) (X.arr b) mg na nb (X.arr w.reverse) ac bc) Q (X.st p pd g):=by
 obtain⟨mh,h1,h2,h3,h4,h5⟩:=li;obtain⟨x,ex,dx⟩:=zcr h1 h2;have mh':=mh.one h1 h2 dx (le x ex);unfold hi2d;refine W.bind (W.elem ex ?_);rw[zdF];refine W.ite (fun c=>W.pure (k.rt _ _ _ (mh'.doneA (eq_of_beq c)))) (fun c=>?_);have li:HI X a b m (x::w) (na - 1) nb:=⟨mh',ne0 c,Nat.le_trans (Nat.sub_le _ _) h2,h3,h4,Nat.le_succ_of_le h5⟩;exact W.ite (fun z_=>W.pure (k.dn _ _ _ _ _ _ _ li)) (fun z_=>W.pure (k.yi _ _ _ _ _ _ _ li))
theorem zjC {l:List Nat}(i:Nat):∀ j,j < (l.take i).length→l[0+j]?=(l.take i)[j]?:=fun j hj=>by
 rw[Nat.zero_add,List.getElem?_take_of_lt (Nat.lt_of_lt_of_le hj (by rw[List.length_take];exact Nat.min_le_left ..))]
theorem zjX {l L1 L2:List Nat}{i:Nat}(e:l.take i=L1++L2):X.arr w.reverse++((X.arr l).extract L1.length i).reverse=X.arr (L2++w).reverse:=by
 have:(l.drop L1.length).take (i - L1.length)=L2:=by
  rw[←List.drop_take,e,List.drop_left]
 rw[zeu,this,zf0,zbd,← List.reverse_append]
theorem zcB {l:List Nat}{i:Nat}(h:i≤l.length):(l.take i).length=i:=by rw[List.length_take,Nat.min_eq_left h]
theorem zk1 {l L1 L2:List Nat}{i:Nat}(e:l.take i=L1++L2) (h:i≤l.length):L1.length≤i:=by
 rw[←zcB h,e,List.length_append];exact Nat.le_add_right ..
theorem zk0 {l L1 L2:List Nat}{i:Nat}(e:l.take i=L1++L2) (h:i≤l.length) (c:¬i - L1.length > 0):l.take i=L1:=by
 have hl:=zcB h;rw[e,List.length_append] at hl;have:L2=[]:=List.length_eq_zero_iff.1 (Nat.eq_zero_of_not_pos (by rw[←hl,Nat.add_sub_cancel_left] at c;exact c))
 rw[e,this,List.append_nil]
theorem zkA (mp:HP X a b) (li:HI X a b m w na nb) (le:∀ y,b[nb - 1]?=some y→∀ x∈a.take na,X.r x≤X.r y){mg ac bc:Nat}{Q:SQ (ForInStep H2)}(k:J2 X a b p pd m Q):X.W (hi2c (X.arr a) (X.arr b) mg na nb (X.arr w.reverse) ac bc) Q (X.st p pd g):=by
 obtain⟨mh,h1,h2,h3,h4,h5⟩:=li;have h3':=Nat.lt_of_succ_lt h3;obtain⟨y,ey,dy⟩:=zcr h3' h4;obtain⟨x,ex,dx⟩:=zcr h1 h2;have mh':=(mh.swap.one h3' h4 dy (le y ey)).swap;have ua:=(List.pairwise_append.1 mh.ua).1;rw[dx] at ua;unfold hi2c;refine W.bind (W.elem ey ?_);rw[zdF];refine W.ite (fun c=>W.pure (k.rt _ _ _ (mh'.fst mp (eq_of_beq c)))) (fun c=>?_);have b1:=ne1 c (Nat.sub_pos_of_lt h3);have b2:nb - 1≤b.length:=Nat.le_trans (Nat.sub_le _ _) h4
 have h5':m≤(y::w).length:=Nat.le_succ_of_le h5;refine W.bind (W.elem ex ?_);have gk:=ze1 (p:=p) (pd:=pd) (g:=g) (left:=true) (hint:=nb - 1 - 1) (mp.ina x (List.mem_of_getElem? ex)) (zjC (nb - 1)) (List.pairwise_append.1 mh'.ub).1 (fun z hz=>mp.inb z (List.mem_of_mem_take hz)) (by rw[zcB b2];exact Nat.sub_lt (Nat.lt_of_succ_lt b1) Nat.one_pos)
 rw[zcB b2] at gk;refine W.bind (W.mono gk ?_)
 rintro c st' ⟨rfl,h,L1,L2,rfl,⟨e,rfl,c1,c2⟩⟩
 dsimp only;have x1:∀ x',a[na - 1]?=some x'→∀ y∈L1,X.r y≤X.r x':=fun x' e' y hy=>by rw[ex] at e';cases e';exact Nat.le_of_lt (zdh.1 (c1 y hy))
 refine W.ite (fun z_=>?_) (fun c=>?_)
 ·rw[zjX e]
  have mh2:=(mh'.swap.move e (fun z hz t ht=>by rw[dx] at ht;exact zdb ua (zdh.2 (c2 z hz)) t ht)).swap
  refine W.ite (fun c=>W.pure (k.rt _ _ _ (mh2.fst mp (eq_of_beq c)))) (fun c1=>?_);refine W.ite (fun c=>W.pure (k.rt _ _ _ (mh2.doneB (eq_of_beq c)))) (fun c2=>?_);have hl:=zk1 e b2;have et:b.take L1.length=L1:=by
   have:=congrArg (List.take L1.length) e
   rwa [List.take_take,Nat.min_eq_left hl,List.take_left] at this
  exact zkz ⟨mh2,h1,h2,ne1 c1 (ne0 c2),Nat.le_trans hl b2,by rw[List.length_append];exact Nat.le_trans h5' (Nat.le_add_left ..)⟩ (fun x' e' y hy=>x1 x' e' y (by rwa [et] at hy)) k
 ·have e1:=zk0 e b2 c
  exact zkz ⟨mh',h1,h2,b1,b2,h5'⟩ (fun x' e' y hy=>x1 x' e' y (by rwa [e1] at hy)) k
theorem zkB (mp:HP X a b) (li:HI X a b m w na nb){mg ac bc:Nat}{Q:SQ (ForInStep H2)}(k:J2 X a b p pd m Q):X.W (hi2b (X.arr a) (X.arr b) na nb (X.arr w.reverse) ac bc mg) Q (X.st p pd g):=by
 have li':=li;obtain⟨mh,h1,h2,h3,h4,h5⟩:=li';obtain⟨y,ey,dy⟩:=zcr (Nat.lt_of_succ_lt h3) h4;have ub:=(List.pairwise_append.1 mh.ub).1;rw[dy] at ub;unfold hi2b;refine W.bind (zfo (W.bind (W.elem ey ?_)));have gk:=ze1 (p:=p) (pd:=pd) (g:=mg) (left:=false) (hint:=na - 1) (mp.inb y (List.mem_of_getElem? ey)) (zjC na) (List.pairwise_append.1 mh.ua).1 (fun z hz=>mp.ina z (List.mem_of_mem_take hz)) (by rw[zcB h2];exact Nat.sub_lt h1 Nat.one_pos)
 rw[zcB h2] at gk;refine W.bind (W.mono gk ?_)
 rintro c st' ⟨rfl,h,L1,L2,rfl,⟨e,rfl,c1,c2⟩⟩
 dsimp only;have x1:∀ y',b[nb - 1]?=some y'→∀ x∈L1,X.r x≤X.r y':=fun y' e' x hx=>by rw[ey] at e';cases e';exact zbE.1 (c1 x hx)
 refine W.ite (fun z_=>?_) (fun c=>?_)
 ·rw[zjX e]
  have mh2:=mh.move e (fun z hz t ht=>by rw[dy] at ht;exact zdb ub (Nat.le_of_lt (zbE.2 (c2 z hz))) t ht)
  refine W.ite (fun c=>W.pure (k.rt _ _ _ (mh2.doneA (eq_of_beq c)))) (fun c1=>?_);have hl:=zk1 e h2;have et:a.take L1.length=L1:=by
   have:=congrArg (List.take L1.length) e
   rwa [List.take_take,Nat.min_eq_left hl,List.take_left] at this
  exact zkA mp ⟨mh2,ne0 c1,Nat.le_trans hl h2,h3,h4,by rw[List.length_append];exact Nat.le_trans h5 (Nat.le_add_left ..)⟩ (fun x' e' y hy=>x1 x' e' y (by rwa [et] at hy)) k
 ·have e1:=zk0 e h2 c
  exact zkA mp li (fun x' e' y hy=>x1 x' e' y (by rwa [e1] at hy)) k
theorem zme (mp:HP X a b) (li:HI X a b m w na nb){mg ac bc:Nat}{Q:SQ H2}
  (hd:∀ w na nb mg ac bc g,HI X a b m w na nb→Q (none,na,nb,X.arr w.reverse,mg,ac,bc) (X.st p pd g)) (hr:∀ r o g,MR X a b r→Q (some r,o) (X.st p pd g)) :
  X.W (forIn [0:(X.arr a).size+(X.arr b).size] ((none,na,nb,X.arr w.reverse,mg,ac,bc):H2) fun z_ s=>hi2 (X.arr a) (X.arr b) s.2.1 s.2.2.1 s.2.2.2.1 s.2.2.2.2.1 s.2.2.2.2.2.1 s.2.2.2.2.2.2) Q (X.st p pd g):=by
 refine W.loop (fun x c st'=>∃ w na nb mg ac bc g,st'=X.st p pd g∧c=(none,na,nb,X.arr w.reverse,mg,ac,bc)∧HI X a b m w na nb) ?_ ?_ ⟨w,na,nb,mg,ac,bc,g,rfl,rfl,li⟩
 ·rintro x c st' hx ⟨w,na,nb,mg,ac,bc,g,rfl,rfl,li⟩
  have k:J2 X a b p pd m (Nx Q fun c st'=>∃ w na nb mg ac bc g,st'=X.st p pd g∧c=(none,na,nb,X.arr w.reverse,mg,ac,bc)∧HI X a b m w na nb) :=
   ⟨hd,fun w na nb mg ac bc g h=>⟨w,na,nb,mg,ac,bc,g,rfl,rfl,h⟩,hr⟩
  exact W.ite (fun z_=>zkB mp li k) (fun z_=>zkB mp li k)
 ·rintro c st' ⟨w,na,nb,mg,ac,bc,g,rfl,rfl,li⟩
  exact hd w na nb mg ac bc g li
theorem zmd (mp:HP X a b) (ua:X.Up a) (ub:X.Up b) (h1:0 < a.length) (h2:0 < b.length) (hle:∀ x,a[a.length - 1]?=some x→∀ y∈b,X.r y≤X.r x) :
  X.W (zfw (X.arr a) (X.arr b)) (fun r st'=>MR X a b r∧∃ g,st'=X.st p pd g) (X.st p pd g):=by
 rw[zhk];unfold hiAll;obtain⟨x,ex,dx⟩:=zcr h1 (Nat.le_refl _);have tb:=List.take_of_length_le (Nat.le_refl b.length);have ta:=List.take_of_length_le (Nat.le_refl a.length);have mh:MH X a b [x] (a.length - 1) b.length:=MH.one (w:=[]) ⟨by rw[ta,tb,List.append_nil],by rw[ta,List.append_nil];exact ua,by rw[tb,List.append_nil];exact ub⟩ h1 (Nat.le_refl _) dx (by rw[tb];exact hle x ex)
 have ea:(X.arr a).size=a.length:=za1 a;have eb:(X.arr b).size=b.length:=za1 b;refine W.bind (W.rule (W.bind (W.elem (by rw[ea];exact ex) ?_)))
 have e1:#[kas_item X.it x]=X.arr [x].reverse:=rfl;rw[e1,ea,eb];refine W.ite (fun c=>W.pure ⟨mh.doneA (eq_of_beq c),g,rfl⟩) (fun c1=>?_);refine W.ite (fun c=>W.pure ⟨mh.fst mp (eq_of_beq c),g,rfl⟩) (fun c2=>?_);refine W.bind (W.get (W.bind (W.loop (fun x c st'=>∃ w na nb mg g,st'=X.st p pd g∧c=(none,na,nb,X.arr w.reverse,mg)∧HI X a b (1+x) w na nb) ?_ ?_ ⟨_,_,_,_,_,rfl,rfl,mh,ne0 c1,Nat.sub_le _ _,ne1 c2 h2,Nat.le_refl _,Nat.le_refl _⟩)))
 ·rintro x c st' hx ⟨w,na,nb,mg,g,rfl,rfl,li⟩
  refine W.bind (zmf mp li (fun w na nb ac bc li=>?_) (fun r o hr=>W.pure (W.pure ⟨hr,g,rfl⟩)));refine W.bind (W.rule (W.bind (zme mp li (fun w na nb mg ac bc g li=>?_) (fun r o g hr=>W.pure (W.pure ⟨hr,g,rfl⟩)))));exact W.bind (zfo (W.pure ⟨w,na,nb,_,_,rfl,rfl,li⟩))
 ·rintro c st' ⟨w,na,nb,mg,g,rfl,rfl,li⟩
  exact absurd li.bound (Nat.not_lt_of_le (Nat.le_add_left ..))
end
noncomputable def maEnd (sa:Nat) (merged:AK):SM Bool:=do
 modify fun s=>setArr s (merged.toList.zipIdx.foldl (fun a x=>a.setIfInBounds (sa+x.2) x.1) (arrOf s))
 let t ← get
 pure (failedOf t).isNone
noncomputable def maB (arr:AK) (sa na sb nb:Nat):SM Bool :=
 if(na == 0)=true then pure true else do
  let x ← elem' arr (sa+na - 1)
  let c ← zcp true x arr sb nb (nb - 1)
  match c with
  |some nb=>if(nb == 0)=true then pure true else if na≤nb then(zfv (arr.extract sa sb) (arr.extract sb (sb+nb))) >>= maEnd sa else(zfw (arr.extract sa sb) (arr.extract sb (sb+nb))) >>= maEnd sa
  |_=>pure false
noncomputable def maA (arr:AK) (sa na sb nb:Nat):SM Bool:=do
 let y ← elem' arr sb
 let c ← zcp false y arr sa na 0
 match c with
 |some k=>maB arr (sa+k) (na - k) sb nb
 |_=>pure false
noncomputable def maAll (i:Nat):SM Bool:=do
 let s ← get
 match ((pendingOf s)[i]?,(pendingOf s)[i+1]?) with
 |(some (sa,na,power),some (sb,nb,_))=>do
  set (setPending s (((pendingOf s).setIfInBounds i (sa,na+nb,power)).eraseIdxIfInBounds (i+1)))
  maA (arrOf s) sa na sb nb
 |_=>liftM (unsupported (α:=Bool) "internal:list.sort.pending")
theorem zhl (i:Nat):mergeAt' i=maAll i:=rfl
section
variable {X:Sc}{st:SortSt}
theorem W.set {st':SortSt}{Q:SQ PUnit}(h:Q ⟨⟩ st'):X.W (MonadStateOf.set st') Q st:=by
 unfold Sc.W wpS;rw[StateT.run_set];exact wpAny_pure ⟨rfl,h⟩
theorem zhJ {sa:Nat}{post:List Nat}:∀ (o M pre:List Nat) (k:Nat),o.length=M.length→pre.length=sa+k →
  ((o.map (kas_item X.it)).zipIdx k).foldl (fun a x=>a.setIfInBounds (sa+x.2) x.1) (X.arr (pre++(M++post)))=X.arr (pre++(o++post))
 |[],[],_,_,_,_=>rfl
 |z::o,m::M,pre,k,h1,h2=>by
  rw[List.map_cons,List.zipIdx_cons,List.foldl_cons];have e:(X.arr (pre++(m::M++post))).setIfInBounds (sa+k) (kas_item X.it z)=X.arr (pre++[z]++(M++post)):=by
   unfold Sc.arr;rw[List.setIfInBounds_toArray,List.map_append,List.set_append_right _ _ (by rw[List.length_map,h2];exact Nat.le_refl _),List.length_map,h2,Nat.sub_self,List.append_assoc pre [z],List.map_append (l₁:=pre)]
   rfl
  show List.foldl _ ((X.arr (pre++(m::M++post))).setIfInBounds (sa+k) (kas_item X.it z)) _=_;rw[e,zhJ o M (pre++[z]) (k+1) (Nat.succ.inj h1) (by rw[List.length_append,h2];rfl),List.append_assoc]
  rfl
theorem zlS {pre M o post:List Nat}{pd:List (Nat × Nat × Nat)}{g:Nat}{Q:SQ Bool}(h:o.length=M.length) (hq:Q true (X.st (pre++(o++post)) pd g)):X.W (maEnd pre.length (X.arr o)) Q (X.st (pre++(M++post)) pd g):=by
 refine W.bind (W.modify (W.bind (W.get (W.pure ?_))));have e:=zhJ (X:=X) (post:=post) o M pre 0 h rfl;show Q true (SortSt.mk' X.κ ((X.arr o).toList.zipIdx.foldl (fun a x=>a.setIfInBounds (pre.length+x.2) x.1) (X.arr (pre++(M++post)))) pd.toArray g none);rw[show(X.arr o).toList=o.map (kas_item X.it) from rfl,e];exact hq
theorem zev {l1 l2:List Nat}(l3:List Nat){i:Nat}(h:i < l2.length):(l1++(l2++l3))[l1.length+i]?=l2[i]?:=by
 rw[List.getElem?_append_right (Nat.le_add_right ..),Nat.add_sub_cancel_left,List.getElem?_append_left h]
theorem zlc (l1 l2 l3:List Nat){i j:Nat}(h1:i=l1.length) (h2:j=l1.length+l2.length):(X.arr (l1++(l2++l3))).extract i j=X.arr l2:=by
 rw[zeu,h1,h2,List.drop_left,Nat.add_sub_cancel_left,List.take_left]
structure MA (X:Sc) (P0 A B R:List Nat):Prop where
 ia:X.In A
 ib:X.In B
 ua:X.Up A
 ub:X.Up B
 ha:0 < A.length
 hb:0 < B.length
noncomputable def MC (X:Sc) (P0 A B R:List Nat) (pd:List (Nat × Nat × Nat)):SQ Bool:=fun c st'=>c=true∧∃ C g,X.Up C∧C.Perm (A++B)∧st'=X.st (P0++(C++R)) pd g
variable {P0 A B R:List Nat}{pd:List (Nat × Nat × Nat)}{g:Nat}
theorem MA.same (m:MA X P0 A B R) (h:∀ x∈A,∀ y∈B,X.r x≤X.r y):MC X P0 A B R pd true (X.st (P0++(A++(B++R))) pd g) :=
 ⟨rfl,A++B,g,List.pairwise_append.2 ⟨m.ua,m.ub,h⟩,List.Perm.refl _,by rw[List.append_assoc A B R]⟩
theorem zpN {A0 A1 B0 B1 o:List Nat}(m:MA X P0 (A0++A1) (B0++B1) R) (ou:X.Up o) (op:o.Perm (A1++B0)) (h1:∀ x∈A0,∀ y∈B0++B1,X.r x≤X.r y) (h2:∀ x∈A1,∀ y∈B1,X.r x≤X.r y) :
  MC X P0 (A0++A1) (B0++B1) R pd true (X.st (P0++A0++(o++(B1++R))) pd g):=by
 refine⟨rfl,A0++(o++B1),g,?_,?_,by rw[List.append_assoc,List.append_assoc A0,List.append_assoc o]⟩
 ·obtain⟨a1,a2,a3⟩:=List.pairwise_append.1 m.ua
  obtain⟨b1,b2,b3⟩:=List.pairwise_append.1 m.ub;refine List.pairwise_append.2 ⟨a1,List.pairwise_append.2 ⟨ou,b2,fun x hx y hy=>?_⟩,fun x hx y hy=>?_⟩
  ·rcases List.mem_append.1 (op.mem_iff.1 hx) with hx|hx
   ·exact h2 x hx y hy
   ·exact b3 x hx y hy
  ·rcases List.mem_append.1 hy with hy|hy
   ·rcases List.mem_append.1 (op.mem_iff.1 hy) with hy|hy
    ·exact a3 x hx y hy
    ·exact h1 x hx y (List.mem_append_left _ hy)
   ·exact h1 x hx y (List.mem_append_right _ hy)
 ·rw[List.append_assoc]
  refine List.Perm.append_left A0 ?_;rw[←List.append_assoc];exact op.append_right B1
theorem zpO {A0 A1:List Nat}(m:MA X P0 (A0++A1) B R){y:Nat}(ey:B[0]?=some y) (h1:∀ x∈A0,X.r x≤X.r y) (h2:∀ x∈A1,X.r y < X.r x) :
  X.W (maB (X.arr (P0++(A0++A1++(B++R)))) (P0.length+A0.length) (A0++A1 |>.length |> (·- A0.length)) (P0.length+(A0++A1).length) B.length) (MC X P0 (A0++A1) B R pd) (X.st (P0++(A0++A1++(B++R))) pd g):=by
 have eA:(A0++A1).length - A0.length=A1.length:=by rw[List.length_append,Nat.add_sub_cancel_left]
 show X.W (maB _ _ ((A0++A1).length - A0.length) _ _) _ _;rw[eA];have hB:∀ z∈B,X.r y≤X.r z:=by
  obtain⟨y',e',d⟩:=zbH m.hb;rw[ey] at e';cases e'
  have:=m.ub;rw[List.drop_zero] at d;rw[d] at this ⊢
  exact zdc this (Nat.le_refl _)
 have h0:∀ x∈A0,∀ z∈B,X.r x≤X.r z:=fun x hx z hz=>Nat.le_trans (h1 x hx) (hB z hz);unfold maB;refine W.ite (fun c=>?_) (fun c=>?_)
 ·have:A1=[]:=List.length_eq_zero_iff.1 (eq_of_beq c)
  subst this;exact W.pure (m.same (by rw[List.append_nil];exact h0))
 ·have a1:=ne0 c
  obtain⟨x,ex,dx⟩:=zcr a1 (Nat.le_refl _);rw[List.take_of_length_le (Nat.le_refl _)] at dx;have xl:∀ z∈A0++A1,X.r z≤X.r x:=by
   have:=m.ua;rw[dx,← List.append_assoc] at this ⊢
   exact zdb this (Nat.le_refl _)
  have ex':(P0++(A0++A1++(B++R)))[P0.length+A0.length+A1.length - 1]?=some x:=by
   rw[←ex,Nat.add_sub_assoc a1,List.append_assoc A0,← List.append_assoc P0,← List.length_append];exact zev _ (Nat.sub_lt a1 Nat.one_pos)
  have xA:x∈A1:=List.mem_of_getElem? ex;refine W.bind (W.elem ex' (W.bind (W.mono (ze1 (m.ia x (List.mem_append_right _ xA)) (fun i hi=>?_) m.ub m.ib (Nat.sub_lt m.hb Nat.one_pos)) ?_)))
  ·rw[←List.append_assoc P0,← List.length_append]
   exact zev _ hi
  ·rintro c st' ⟨rfl,h,B0,B1,rfl,⟨rfl,rfl,c1,c2⟩⟩
   dsimp only;have hb1:∀ z∈A0++A1,∀ t∈B1,X.r z≤X.r t:=fun z hz t ht=>Nat.le_trans (xl z hz) (zdh.2 (c2 t ht));refine W.ite (fun c=>?_) (fun c=>?_)
   ·have:B0=[]:=List.length_eq_zero_iff.1 (eq_of_beq c)
    subst this;exact W.pure (m.same hb1)
   ·have b0:=ne0 c
    have eB:B0[0]?=some y:=by rw[←ey,List.getElem?_append_left b0]
    have s1:(X.arr (P0++(A0++A1++(B0++B1++R)))).extract (P0.length+A0.length) (P0.length+(A0++A1).length)=X.arr A1:=by
     rw[List.append_assoc A0,← List.append_assoc P0];exact zlc _ _ _ List.length_append.symm (by rw[List.length_append,List.length_append,Nat.add_assoc])
    have s2:(X.arr (P0++(A0++A1++(B0++B1++R)))).extract (P0.length+(A0++A1).length) (P0.length+(A0++A1).length+B0.length)=X.arr B0:=by
     rw[List.append_assoc B0,← List.append_assoc P0];exact zlc _ _ _ List.length_append.symm (by rw[List.length_append (as:=P0)])
    rw[s1,s2];have ua:=(List.pairwise_append.1 m.ua).2.1;have ub:=(List.pairwise_append.1 m.ub).1;have ina:X.In A1:=fun z hz=>m.ia z (List.mem_append_right _ hz);have inb:X.In B0:=fun z hz=>m.ib z (List.mem_append_left _ hz);have fin:∀ r st',(MR X A1 B0 r∧∃ g',st'=X.st (P0++(A0++A1++(B0++B1++R))) pd g')→X.W (maEnd (P0.length+A0.length) r) (MC X P0 (A0++A1) (B0++B1) R pd) st':=by
     rintro r st' ⟨⟨o,rfl,ou,op⟩,g',rfl⟩
     have e:P0++(A0++A1++(B0++B1++R))=P0++A0++(A1++B0++(B1++R)):=by simp only[List.append_assoc]
     rw[e,← List.length_append];exact zlS op.length_eq (zpN m ou op h0 fun z hz=>hb1 z (List.mem_append_right _ hz))
    have last:∀ z,A1[A1.length - 1]?=some z→∀ y∈B0,X.r y≤X.r z:=fun z e y hy=>by
     rw[ex] at e;cases e
     exact Nat.le_of_lt (zdh.1 (c1 y hy))
    have fst:∀ y,B0[0]?=some y→∀ z∈A1,X.r y≤X.r z:=fun y e z hz=>by
     rw[eB] at e;cases e
     exact Nat.le_of_lt (h2 z hz)
    exact W.ite (fun z_=>W.bind (W.mono (zlV ⟨ina,inb,fun y hy i z ei ez=>last z (by rw[←ei];exact ez) y hy⟩ ua ub a1 b0 fst) fin)) (fun z_=>W.bind (W.mono (zmd ⟨ina,inb,fst⟩ ua ub a1 b0 last) fin))
theorem zlT (m:MA X P0 A B R){D1 D2:List (Nat × Nat × Nat)}{w w':Nat}:X.W (mergeAt' D1.length) (MC X P0 A B R (D1++(P0.length,A.length+B.length,w)::D2))
  (X.st (P0++(A++(B++R))) (D1++(P0.length,A.length,w)::(P0.length+A.length,B.length,w')::D2) g):=by
 rw[zhl];unfold maAll;refine W.bind (W.get ?_);have e1:(pendingOf (X.st (P0++(A++(B++R))) (D1++(P0.length,A.length,w)::(P0.length+A.length,B.length,w')::D2) g))[D1.length]?=some (P0.length,A.length,w):=by
  show(D1++(P0.length,A.length,w)::(P0.length+A.length,B.length,w')::D2).toArray[D1.length]?=_;rw[List.getElem?_toArray,List.getElem?_append_right (Nat.le_refl _),Nat.sub_self];rfl
 have e2:(pendingOf (X.st (P0++(A++(B++R))) (D1++(P0.length,A.length,w)::(P0.length+A.length,B.length,w')::D2) g))[D1.length+1]?=some (P0.length+A.length,B.length,w'):=by
  show(D1++(P0.length,A.length,w)::(P0.length+A.length,B.length,w')::D2).toArray[D1.length+1]?=_;rw[List.getElem?_toArray,List.getElem?_append_right (Nat.le_add_right ..),Nat.add_sub_cancel_left];rfl
 rw[e1,e2];dsimp only;refine W.bind (W.set ?_);have e3:setPending (X.st (P0++(A++(B++R))) (D1++(P0.length,A.length,w)::(P0.length+A.length,B.length,w')::D2) g) (((D1++(P0.length,A.length,w)::(P0.length+A.length,B.length,w')::D2).toArray.setIfInBounds D1.length (P0.length,A.length+B.length,w)).eraseIdxIfInBounds (D1.length+1))
   = X.st (P0++(A++(B++R))) (D1++(P0.length,A.length+B.length,w)::D2) g:=by
  rw[List.setIfInBounds_toArray,List.eraseIdxIfInBounds_toArray,List.set_append_right _ _ (Nat.le_refl _),Nat.sub_self,List.eraseIdx_append_of_length_le (Nat.le_add_right ..),Nat.add_sub_cancel_left]
  rfl
 show X.W (maA (X.arr (P0++(A++(B++R)))) _ _ _ _) _ (setPending (X.st (P0++(A++(B++R))) (D1++(P0.length,A.length,w)::(P0.length+A.length,B.length,w')::D2) g) (((D1++(P0.length,A.length,w)::(P0.length+A.length,B.length,w')::D2).toArray.setIfInBounds D1.length (P0.length,A.length+B.length,w)).eraseIdxIfInBounds (D1.length+1)));rw[e3];obtain⟨y,ey,_⟩:=zbH m.hb;have ey':(P0++(A++(B++R)))[P0.length+A.length]?=some y:=by
  rw[←ey,← List.append_assoc P0,← List.length_append];exact zev (l1:=P0++A) R m.hb
 unfold maA;refine W.bind (W.elem ey' (W.bind (W.mono (ze1 (m.ib y (List.mem_of_getElem? ey)) (fun i hi=>zev _ hi) m.ua m.ia m.ha) ?_)))
 rintro c st' ⟨rfl,h,A0,A1,rfl,⟨rfl,rfl,c1,c2⟩⟩
 exact zpO m ey (fun x hx=>zbE.1 (c1 x hx)) (fun x hx=>zbE.2 (c2 x hx))
end
theorem zi5 {α β:Type}(f:α→β) (l:Array α) (i j:Nat):mirror (l.map f) i j ((j - i) / 2)=(mirror l i j ((j - i) / 2)).map f:=kas_swaps_map f (fun k=>i+k) (fun k=>j - 1 - k) _ l
theorem zq2 {p c t:Nat}(h:t < c):p+(p+c) - 1 - (p+t)=p+(c - 1 - t):=by
 obtain⟨d,rfl⟩:=Nat.exists_eq_add_of_lt h;show p+(p+(t+d))+1 - 1 - (p+t)=p+(t+d+1 - 1 - t);rw[Nat.add_sub_cancel,Nat.add_sub_cancel,Nat.add_sub_cancel_left,Nat.add_comm t d,← Nat.add_assoc,Nat.add_add_add_comm,Nat.add_sub_cancel]
theorem zjj (P l:List Nat) (t:Nat):(P++l)[P.length+t]?=l[t]?:=by rw[List.getElem?_append_right (Nat.le_add_right ..),Nat.add_sub_cancel_left]
theorem zhi (P C R:List Nat):mirror (P++(C++R)).toArray P.length (P.length+C.length) ((P.length+C.length - P.length) / 2)=(P++(C.reverse++R)).toArray:=by
 apply Array.ext_getElem?
 intro k;rw[getElem?_mirror_all (by rw[List.size_toArray,List.length_append,List.length_append,← Nat.add_assoc];exact Nat.le_add_right ..),List.getElem?_toArray,List.getElem?_toArray,List.getElem?_toArray]
 by_cases h1:P.length≤k
 ·obtain⟨t,rfl⟩:=Nat.exists_eq_add_of_le h1
  by_cases h2:t < C.length
  ·rw[if_pos ⟨h1,Nat.add_lt_add_left h2 _⟩,zev R (l2:=C.reverse) (by rw[List.length_reverse];exact h2),zq2 h2,zev R (Nat.lt_of_le_of_lt (Nat.sub_le ..) (Nat.sub_lt (Nat.zero_lt_of_lt h2) Nat.one_pos)),List.getElem?_reverse h2]
  ·have h2':=Nat.le_of_not_lt h2
   rw[if_neg fun q=>h2 (Nat.lt_of_add_lt_add_left q.2),zjj,zjj,List.getElem?_append_right h2',List.getElem?_append_right (by rw[List.length_reverse];exact h2'),List.length_reverse]
 ·have h:=Nat.lt_of_not_le h1
  rw[if_neg fun q=>h1 q.1,List.getElem?_append_left h,List.getElem?_append_left h]
theorem zhA (P L R:List Nat) (z:Nat):bubble (P++(L++z::R)).toArray (P.length+L.length) L.length=(P++(z::L++R)).toArray:=by
 apply Array.ext_getElem?
 intro k;rw[getElem?_bubble (by rw[List.size_toArray,List.length_append,List.length_append];exact Nat.add_lt_add_left (Nat.lt_add_of_pos_right (Nat.succ_pos _)) _) _ (Nat.le_add_left ..),List.getElem?_toArray,List.getElem?_toArray,List.getElem?_toArray,List.getElem?_toArray,Nat.add_sub_cancel]
 by_cases h1:P.length≤k
 ·obtain⟨t,rfl⟩:=Nat.exists_eq_add_of_le h1
  rw[zjj,zjj,zjj]
  cases t with
  |zero=>rw[if_pos (Nat.add_zero _),List.getElem?_append_right (Nat.le_refl _),Nat.sub_self];rfl
  |succ t =>
   rw[if_neg fun q=>Nat.succ_ne_zero t (Nat.add_left_cancel (q.trans (Nat.add_zero _).symm)),List.cons_append,List.getElem?_cons_succ,show P.length+(t+1) - 1=P.length+t from rfl,zjj]
   by_cases h2:t < L.length
   ·rw[if_pos ⟨Nat.lt_add_of_pos_right (Nat.succ_pos t),Nat.add_le_add_left h2 _⟩,List.getElem?_append_left h2,List.getElem?_append_left h2]
   ·have h2':=Nat.le_of_not_lt h2
    rw[if_neg fun q=>h2 (Nat.le_of_add_le_add_left q.2),List.getElem?_append_right h2',List.getElem?_append_right (Nat.le_succ_of_le h2'),Nat.succ_sub h2',List.getElem?_cons_succ]
 ·have h:=Nat.lt_of_not_le h1
  rw[if_neg fun q=>h1 (Nat.le_of_eq q.symm),if_neg fun q=>h1 (Nat.le_of_lt q.1),List.getElem?_append_left h,List.getElem?_append_left h]
section
variable {X:Sc}{st:SortSt}{pd:List (Nat × Nat × Nat)}{g:Nat}
theorem zf1 (l:List Nat):X.arr l=l.toArray.map (kas_item X.it):=by unfold Sc.arr;rw[List.map_toArray]
theorem zhV {P C R:List Nat}{i j:Nat}{Q:SQ Unit}(hi:i=P.length) (hj:j=P.length+C.length) (h:Q () (X.st (P++(C.reverse++R)) pd g)):X.W (reverseSlice' i j) Q (X.st (P++(C++R)) pd g):=by
 rw[reverseSlice'_eq];refine W.modify ?_;show Q () (SortSt.mk' X.κ (mirror (X.arr (P++(C++R))) i j ((j - i) / 2)) pd.toArray g none);rw[zf1,zi5,hi,hj,zhi,← zf1];exact h
theorem zq5 {P L R:List Nat}{z i j:Nat}{Q:SQ Unit}(hi:i=P.length+L.length) (hj:j=P.length) (h:Q () (X.st (P++(z::L++R)) pd g)):X.W (moveDown' i j) Q (X.st (P++(L++z::R)) pd g):=by
 rw[moveDown'_eq];refine W.modify ?_;show Q () (SortSt.mk' X.κ (bubble (X.arr (P++(L++z::R))) i (i - j)) pd.toArray g none);have e:bubble (X.arr (P++(L++z::R))) i (i - j)=X.arr (P++(z::L++R)):=by
  rw[zf1,hi,hj,Nat.add_sub_cancel_left];exact(kas_swaps_map (kas_item X.it) (fun k=>P.length+L.length - k) (fun k=>P.length+L.length - k - 1) _ _).trans (by rw[zf1];exact congrArg (Array.map _) (zhA P L R z))
 rw[e];exact h
theorem W.ltAt {p:List Nat}{i j x y:Nat}{Q:SQ (Option Bool)}(ei:p[i]?=some x) (ej:p[j]?=some y) (hp:X.In p) (h:Q (some (decide (X.r x < X.r y))) (X.st p pd g)):X.W (ltAt' i j) Q (X.st p pd g):=by
 rw[ltAt'_eq];exact W.bind (W.get (W.bind (W.elem ei (W.bind (W.elem ej (W.lt (hp x (List.mem_of_getElem? ei)) (hp y (List.mem_of_getElem? ej)) h))))))
theorem W.loopA {β:Type}{a n:Nat}{f:Nat→β→SM (ForInStep β)}(I:Nat→β→SortSt→Prop){Q:SQ β}(hn:a≤n)
  (hstep:∀ i c st,i < n→I i c st→X.W (f i c) (Nx Q (I (i+1))) st)
  (hend:∀ c st,I n c st→Q c st){c:β}(h:I a c st):X.W (forIn [a:n] c f) Q st :=
 wpS_forRange I (fun i c st z_ hi h=>W.mono (hstep i c st hi h) fun r st' h=>by cases r<;>exact h) (fun c st h=>hend c st (by rwa [Nat.max_eq_right hn] at h)) h
end
noncomputable def cAsc (lo n:Nat):SM (ForInStep AscSt):=do
 let x ← ltAt' (lo+n) (lo+n - 1)
 match x with
 |some smaller=>if smaller=true then pure (.done (none,n)) else pure (.yield (none,n+1))
 |_=>pure (.done (some none,n))
noncomputable def cTail (lo n nrem:Nat):SM (Option Nat):=do
 reverseSlice' lo (lo+n)
 let s ← forIn [n:nrem] ((none,n):AscSt) fun z_ s=>cAsc lo s.2
 match s.1 with
 |some r=>pure r
 |none=>pure (some s.2)
noncomputable def cDs (lo n q:Nat):SM (ForInStep DescSt):=do
 let x ← ltAt' (lo+n) (lo+n - 1)
 match x with
 |some smaller =>
  if smaller=true then
   if q > 0 then do
    reverseSlice' (lo+n - (q+1)) (lo+n)
    pure (.yield (none,n+1,0))
   else pure (.yield (none,n+1,0))
  else do
   let x ← ltAt' (lo+n - 1) (lo+n)
   match x with
   |some larger=>if larger=true then pure (.done (none,n,q)) else pure (.yield (none,n+1,q+1))
   |_=>pure (.done (some none,n,q))
 |_=>pure (.done (some none,n,q))
noncomputable def cDesc (lo n nrem:Nat):SM (Option Nat):=do
 liftM (rule "list.sort.descending-run")
 let s ← forIn [n+1:nrem] ((none,n+1,0):DescSt) fun z_ s=>cDs lo s.2.1 s.2.2
 match s.1 with
 |some r=>pure r
 |none=>if s.2.2 > 0 then reverseSlice' (lo+s.2.1 - (s.2.2+1)) (lo+s.2.1) >>= fun z_=>cTail lo s.2.1 nrem else cTail lo s.2.1 nrem
noncomputable def cMid (lo nrem n:Nat):SM (Option Nat):=do
 let x ← ltAt' lo (lo+n - 1)
 match x with
 |some rose=>if rose=true then pure (some n) else reverseSlice' lo (lo+n) >>= fun z_=>cDesc lo n nrem
 |_=>pure none
noncomputable def cRun (lo nrem:Nat):SM (Option Nat):=do
 let s ← forIn [1:nrem] ((none,1):AscSt) fun z_ s=>cAsc lo s.2
 match s.1 with
 |some r=>pure r
 |none=>if(s.2 == nrem)=true then pure (some s.2) else if s.2 > 1 then cMid lo nrem s.2 else cDesc lo s.2 nrem
theorem zfW (lo nrem:Nat):countRun' lo nrem=cRun lo nrem:=by kernel_rfl
section
variable {X:Sc}{pd:List (Nat × Nat × Nat)}{g:Nat}{P S:List Nat}
abbrev Sc.Dn (X:Sc) (l:List Nat):Prop:=l.Pairwise fun x y=>X.r y≤X.r x
theorem zjT {R:Nat→Nat→Prop}(tr:∀ {a b c},R a b→R b c→R a c){l:List Nat}{y z:Nat}(h:(l++[y]).Pairwise R) (hz:R y z):(l++[y]++[z]).Pairwise R:=by
 refine List.pairwise_append.2 ⟨h,List.pairwise_singleton ..,fun a ha b hb=>?_⟩
 cases List.mem_singleton.1 hb
 rcases List.mem_append.1 ha with ha|ha
 ·exact tr ((List.pairwise_append.1 h).2.2 a ha y (List.mem_singleton.2 rfl)) hz
 ·cases List.mem_singleton.1 ha;exact hz
theorem zkg {l:List Nat}(h:l≠[]):∃ l' y,l=l'++[y]:=⟨l.dropLast,l.getLast h,(List.dropLast_concat_getLast h).symm⟩
theorem zfZ (P L:List Nat) (z:Nat) (R:List Nat):(P++(L++z::R))[P.length+L.length]?=some z:=by
 rw[←List.append_assoc,← List.length_append,List.getElem?_append_right (Nat.le_refl _),Nat.sub_self];rfl
theorem zhE (P L:List Nat) (y:Nat) (R:List Nat){n:Nat}(hn:n=(L++[y]).length):(P++(L++[y]++R))[P.length+n - 1]?=some y:=by
 rw[hn,List.length_append,List.append_assoc];exact zfZ P L y R
theorem ziC (hin:X.In (P++S)):∀ {C R:List Nat}{y:Nat}{Q:SQ AscSt},S=C++[y]++R→X.Up (C++[y]) →
  (∀ C y R,S=C++[y]++R→X.Up (C++[y])→(∀ z∈R.head?,X.r z < X.r y)→Q (none,(C++[y]).length) (X.st (P++S) pd g))→∀ n,n=(C++[y]).length →
  X.W (forIn [n:S.length] ((none,n):AscSt) fun z_ s=>cAsc P.length s.2) Q (X.st (P++S) pd g):=fun {C R y Q} e u hq n hn=>by
 have hle:n≤S.length:=by rw[hn,e,List.length_append (as:=C++[y])];exact Nat.le_add_right ..
 refine W.loopA (fun x c st'=>st'=X.st (P++S) pd g∧c=(none,x)∧∃ C y R,S=C++[y]++R∧X.Up (C++[y])∧x=(C++[y]).length) hle ?_ ?_ ⟨rfl,rfl,C,y,R,e,u,hn⟩
 ·rintro x c st' hx ⟨rfl,rfl,C,y,R,e,u,rfl⟩
  cases R with
  |nil=>rw[e,List.append_nil] at hx;exact absurd hx (Nat.lt_irrefl _)
  |cons z R =>
   have e1:(P++S)[P.length+(C++[y]).length]?=some z:=by rw[e];exact zfZ P _ z R
   have e2:(P++S)[P.length+(C++[y]).length - 1]?=some y:=by rw[e];exact zhE P C y _ rfl
   unfold cAsc;refine W.bind (W.ltAt e1 e2 hin ?_);dsimp only;refine W.ite (fun c=>W.pure (hq C y (z::R) e u fun t ht=>?_)) (fun c=>W.pure ⟨rfl,rfl,C++[y],z,R,by rw[e,List.append_assoc _ [z]];rfl,?_,by rw[List.length_append (as:=C++[y])];rfl⟩)
   ·cases ht;exact of_decide_eq_true c
   ·exact zjT (R:=fun a b=>X.r a≤X.r b) Nat.le_trans u (Nat.le_of_not_lt fun h=>c (decide_eq_true h))
 ·rintro c st' ⟨rfl,rfl,C,y,R,e,u,h⟩
  have:R=[]:=List.length_eq_zero_iff.1 (by rw[e,List.length_append (as:=C++[y])] at h;omega)
  subst this;rw[h];exact hq C y [] e u fun t ht=>by cases ht
noncomputable def RC (X:Sc) (P S:List Nat) (pd:List (Nat × Nat × Nat)) (g:Nat):SQ (Option Nat):=fun c st'=>∃ C R,c=some C.length∧0 < C.length∧X.Up C∧(C++R).Perm S∧st'=X.st (P++(C++R)) pd g
theorem ziy {C R S:List Nat}(hin:X.In (P++S)) (hp:(C++R).Perm S) (hc:C≠[]) (hd:X.Dn C){n:Nat}(hn:n=C.length):X.W (cTail P.length n S.length) (RC X P S pd g) (X.st (P++(C++R)) pd g):=by
 unfold cTail;have hr:(C.reverse++R).Perm S:=((List.reverse_perm C).append_right R).trans hp;have hin':X.In (P++(C.reverse++R)):=fun x hx=>hin x ((hr.append_left P).mem_iff.1 hx);have hu:X.Up C.reverse:=List.pairwise_reverse.2 hd;refine W.bind (zhV rfl (by rw[hn]) ?_)
 obtain⟨C',y,e⟩:=zkg (l:=C.reverse) (by simpa using hc)
 have hl:S.length=(C.reverse++R).length:=hr.length_eq.symm;rw[hl];refine W.bind (ziC (S:=C.reverse++R) hin' (C:=C') (y:=y) (R:=R) (by rw[e]) (by rw[←e];exact hu) (fun C1 y1 R1 e1 u1 z_=>W.pure ⟨C1++[y1],R1,rfl,?_,u1,by rw[←e1];exact hr,by rw[←e1]⟩) n (by rw[←e,List.length_reverse];exact hn))
 rw[List.length_append];exact Nat.succ_pos _
structure DS (X:Sc) (S C1 C2 R:List Nat):Prop where
 pm:(C1++(C2++R)).Perm S
 dn:X.Dn (C1++C2)
 al:∀ x∈C2,∀ y∈C2,X.r x=X.r y
theorem DS.rev {C1 C2 R:List Nat}(h:DS X S C1 C2 R):X.Dn (C1++C2.reverse)∧(C1++(C2.reverse++R)).Perm S:=by
 obtain⟨a1,a2,a3⟩:=List.pairwise_append.1 h.dn;exact⟨List.pairwise_append.2 ⟨a1,List.pairwise_reverse.2 (List.pairwise_of_forall_mem_list fun x hx y hy=>Nat.le_of_eq (h.al x hx y hy)),fun x hx y hy=>a3 x hx y (List.mem_reverse.1 hy)⟩,
  (((List.reverse_perm C2).append_right R).append_left C1).trans h.pm⟩
theorem zkZ (hin:X.In (P++S)){C1 C2 R:List Nat}{Q:SQ DescSt}(h0:DS X S C1 C2 R) (h2:C2.length=1)
  (hq:∀ C1 C2 R q,DS X S C1 C2 R→C2.length=q+1→Q (none,(C1++C2).length,q) (X.st (P++(C1++(C2++R))) pd g)){n:Nat}(hn:n=(C1++C2).length) :
  X.W (forIn [n:S.length] ((none,n,0):DescSt) fun z_ s=>cDs P.length s.2.1 s.2.2) Q (X.st (P++(C1++(C2++R))) pd g):=by
 have hle:n≤S.length:=by rw[hn,← h0.pm.length_eq,← List.append_assoc,List.length_append (bs:=R)];exact Nat.le_add_right ..
 refine W.loopA (fun x c st'=>∃ C1 C2 R q,DS X S C1 C2 R∧C2.length=q+1∧x=(C1++C2).length∧c=(none,x,q)∧st'=X.st (P++(C1++(C2++R))) pd g) hle ?_ ?_ ⟨C1,C2,R,0,h0,h2,hn,rfl,rfl⟩
 ·rintro x c st' hx ⟨C1,C2,R,q,h,h2,rfl,rfl,rfl⟩
  have hin':X.In (P++(C1++(C2++R))):=fun x hx=>hin x ((h.pm.append_left P).mem_iff.1 hx)
  cases R with
  |nil=>rw[←h.pm.length_eq,List.append_nil] at hx;exact absurd hx (Nat.lt_irrefl _)
  |cons z R =>
   obtain⟨L,y,e⟩:=zkg (l:=C2) (by intro e;rw[e] at h2;cases h2)
   have ez:(P++(C1++(C2++z::R)))[P.length+(C1++C2).length]?=some z:=by rw[←List.append_assoc C1];exact zfZ P _ z R
   have ey:(P++(C1++(C2++z::R)))[P.length+(C1++C2).length - 1]?=some y:=by
    rw[e,← List.append_assoc C1,← List.append_assoc C1];exact zhE P (C1++L) y _ rfl
   have yC:y∈C2:=by rw[e];exact List.mem_append_right _ (List.mem_singleton.2 rfl)
   have dz:X.r z≤X.r y→X.Dn (C1++C2++[z]):=fun hz=>by
    have:=h.dn;rw[e,← List.append_assoc] at this ⊢
    exact zjT (R:=fun a b=>X.r b≤X.r a) (fun h1 h2=>Nat.le_trans h2 h1) this hz
   have len:(C1++C2).length+1=(C1++C2++[z]).length:=by rw[List.length_append (as:=C1++C2)];rfl
   unfold cDs;refine W.bind (W.ltAt ez ey hin' ?_);dsimp only;refine W.ite (fun c=>?_) (fun c=>?_)
   ·have dn:=dz (Nat.le_of_lt (of_decide_eq_true c))
    refine W.ite (fun z_=>?_) (fun z_=>?_)
    ·have e1:P++(C1++(C2++z::R))=P++C1++(C2++z::R):=by rw[List.append_assoc P]
     have lr:(C1++C2).length=C1.length+(q+1):=by rw[List.length_append,h2]
     rw[e1];refine W.bind (zhV (P:=P++C1) (by rw[lr,List.length_append,← Nat.add_assoc,Nat.add_sub_cancel]) (by rw[lr,List.length_append,h2,Nat.add_assoc]) (W.pure ⟨C1++C2.reverse,[z],R,0,⟨?_,?_,?_⟩,rfl,?_,rfl,?_⟩))
     ·rw[List.append_assoc];exact h.rev.2
     ·obtain⟨a1,a2,a3⟩:=List.pairwise_append.1 dn
      exact List.pairwise_append.2 ⟨h.rev.1,a2,fun x hx=>a3 x (((List.reverse_perm C2).append_left C1).mem_iff.1 hx)⟩
     ·intro a ha b hb;rw[List.mem_singleton.1 ha,List.mem_singleton.1 hb]
     ·rw[len];simp only[List.length_append,List.length_reverse]
     ·rw[List.append_assoc P,List.append_assoc C1];rfl
    ·exact W.pure ⟨C1++C2,[z],R,0,⟨by rw[List.append_assoc];exact h.pm,dn,fun a ha b hb=>by rw[List.mem_singleton.1 ha,List.mem_singleton.1 hb]⟩,rfl,len,rfl,by rw[List.append_assoc C1];rfl⟩
   ·have hle:=Nat.le_of_not_lt fun h=>c (decide_eq_true h)
    refine W.bind (W.ltAt ey ez hin' ?_);dsimp only;refine W.ite (fun c=>W.pure (hq C1 C2 (z::R) q h h2)) (fun c=>?_);have hz:=Nat.le_of_not_lt fun h=>c (decide_eq_true h);have heq:=Nat.le_antisymm hz hle;have al:∀ x∈C2++[z],X.r x=X.r y:=fun x hx=>by
     rcases List.mem_append.1 hx with hx|hx
     ·exact h.al x hx y yC
     ·rw[List.mem_singleton.1 hx];exact heq
    exact W.pure ⟨C1,C2++[z],R,q+1,⟨by rw[List.append_assoc C2];exact h.pm,by rw[←List.append_assoc];exact dz hz,fun a ha b hb=>(al a ha).trans (al b hb).symm⟩,by rw[List.length_append,h2];rfl,by rw[len,List.append_assoc],rfl,by rw[List.append_assoc C2];rfl⟩
 ·rintro c st' ⟨C1,C2,R,q,h,h2,hx,rfl,rfl⟩
  rw[hx];exact hq C1 C2 R q h h2
theorem ziz (hin:X.In (P++S)){C:List Nat}{z:Nat}{R:List Nat}(hp:(C++z::R).Perm S) (hd:X.Dn (C++[z])){n:Nat}(hn:n=C.length):X.W (cDesc P.length n S.length) (RC X P S pd g) (X.st (P++(C++z::R)) pd g):=by
 unfold cDesc;refine W.bind (W.rule (W.bind (zkZ (C1:=C) (C2:=[z]) (R:=R) hin ⟨hp,hd,fun a ha b hb=>by rw[List.mem_singleton.1 ha,List.mem_singleton.1 hb]⟩ rfl (fun C1 C2 R q h h2=>?_) (by rw[hn,List.length_append];rfl))))
 have ne:C1++C2≠[]:=fun e=>by have:=congrArg List.length e;rw[List.length_append,h2] at this;cases this
 refine W.ite (fun z_=>?_) (fun z_=>?_)
 ·have lr:(C1++C2).length=C1.length+(q+1):=by rw[List.length_append,h2]
  rw[←List.append_assoc P];refine W.bind (zhV (P:=P++C1) (by rw[lr,List.length_append,← Nat.add_assoc,Nat.add_sub_cancel]) (by rw[lr,List.length_append,h2,Nat.add_assoc]) ?_)
  rw[List.append_assoc P,← List.append_assoc C1];refine ziy hin (by rw[List.append_assoc];exact h.rev.2) (fun e=>ne ?_) h.rev.1 (by simp only[List.length_append,List.length_reverse])
  rw[List.append_eq_nil_iff] at e ⊢;exact⟨e.1,List.reverse_eq_nil_iff.1 e.2⟩
 ·rw[←List.append_assoc C1]
  exact ziy hin (by rw[List.append_assoc];exact h.pm) ne h.dn rfl
theorem zoB (hin:X.In (P++S)) (hs:0 < S.length):X.W (countRun' P.length S.length) (RC X P S pd g) (X.st (P++S) pd g):=by
 rw[zfW];unfold cRun
 cases S with
 |nil=>cases hs
 |cons s0 S0 =>
 refine W.bind (ziC hin (C:=[]) (y:=s0) (R:=S0) rfl (List.pairwise_singleton ..) (fun C y R e u hlt=>?_) 1 rfl);have fin:RC X P (s0::S0) pd g (some (C++[y]).length) (X.st (P++(s0::S0)) pd g):=⟨C++[y],R,rfl,by rw[List.length_append];exact Nat.succ_pos _,u,by rw[e],by rw[e]⟩
 refine W.ite (fun z_=>W.pure fin) (fun c=>?_)
 cases R with
 |nil=>exact absurd (by rw[e,List.append_nil];exact beq_self_eq_true _) c
 |cons z R =>
  have lt:=hlt z rfl;rw[e] at fin hin ⊢
  refine W.ite (fun c=>?_) (fun c=>?_)
  ·unfold cMid
   cases C with
   |nil=>exact absurd c (Nat.lt_irrefl _)
   |cons x C =>
    refine W.bind (W.ltAt (x:=x) (y:=y) (by rw[List.getElem?_append_right (Nat.le_refl _),Nat.sub_self];rfl) (zhE P _ y _ rfl) hin ?_)
    dsimp only;refine W.ite (fun z_=>W.pure fin) (fun c=>?_);have hyx:=Nat.le_of_not_lt fun h=>c (decide_eq_true h);have all:∀ t∈x::C++[y],X.r t=X.r y:=fun t ht=>Nat.le_antisymm (zdb u (Nat.le_refl _) t ht) (Nat.le_trans hyx (zdc (x:=x) (l:=C++[y]) u (Nat.le_refl _) t ht));refine W.bind (zhV rfl rfl (ziz hin ((List.reverse_perm _).append_right _) ?_ (by rw[List.length_reverse])))
    refine List.pairwise_append.2 ⟨List.pairwise_reverse.2 (List.pairwise_of_forall_mem_list fun a ha b hb=>Nat.le_of_eq ((all a ha).trans (all b hb).symm)),List.pairwise_singleton ..,fun a ha b hb=>?_⟩
    cases List.mem_singleton.1 hb
    rw[all a (List.mem_reverse.1 ha)];exact Nat.le_of_lt lt
  ·have:C=[]:=List.length_eq_zero_iff.1 (by rw[List.length_append] at c;exact Nat.eq_zero_of_not_pos fun h=>c (Nat.succ_lt_succ h))
   subst this;refine ziz hin (List.Perm.refl _) ?_ rfl;exact List.pairwise_cons.2 ⟨fun t ht=>by rw[List.mem_singleton.1 ht];exact Nat.le_of_lt lt,List.pairwise_singleton ..⟩
end
abbrev BSt:=Option Bool × Nat × Nat
noncomputable def bIn (lo k l r:Nat):SM (ForInStep BSt) :=
 if l ≥ r then pure (.done (none,l,r)) else do
  let x ← ltAt' (lo+k) (lo+(l+r) / 2)
  match x with
  |some less=>if less=true then pure (.yield (none,l,(l+r) / 2)) else pure (.yield (none,(l+r) / 2+1,r))
  |_=>pure (.done (some false,l,r))
noncomputable def bOut (lo k:Nat):SM (ForInStep (Option Bool × Unit)):=do
 let s ← forIn [0:k] ((none,0,k):BSt) fun z_ s=>bIn lo k s.2.1 s.2.2
 match s.1 with
 |some r=>pure (.done (some r,()))
 |none=>do
  moveDown' (lo+k) (lo+s.2.1)
  pure (.yield (none,()))
noncomputable def bAll (lo n ok:Nat):SM Bool:=do
 let s ← forIn [max ok 1:n] ((none,()):Option Bool × Unit) fun k z_=>bOut lo k
 match s.1 with
 |some r=>pure r
 |none=>pure true
theorem zes (lo n ok:Nat):binarySort' lo n ok=bAll lo n ok:=by kernel_rfl
section
variable {X:Sc}{pd:List (Nat × Nat × Nat)}{g:Nat}{P:List Nat}
theorem zpK {l r:Nat}(h:¬ l ≥ r):l≤(l+r) / 2∧(l+r) / 2 < r :=
 have h:=Nat.lt_of_not_le h
 ⟨(Nat.le_div_iff_mul_le (by decide)).2 (by rw[Nat.mul_two];exact Nat.add_le_add_left (Nat.le_of_lt h) l),(Nat.div_lt_iff_lt_mul (by decide)).2 (by rw[Nat.mul_two];exact Nat.add_lt_add_right h r)⟩
theorem zqy {C R:List Nat}{z:Nat}(hin:X.In (P++(C++z::R))) (u:X.Up C){Q:SQ BSt}
  (hq:∀ C1 C2 r,Cut (gT X false z) C C1.length C1 C2→Q (none,C1.length,r) (X.st (P++(C++z::R)) pd g)) :
  X.W (forIn [0:C.length] ((none,0,C.length):BSt) fun z_ s=>bIn P.length C.length s.2.1 s.2.2) Q (X.st (P++(C++z::R)) pd g):=by
 have ez:(P++(C++z::R))[P.length+C.length]?=some z:=zfZ P C z R;have fin:∀ l r,GIn (fun i=>gT X false z (C.getD i 0)) C.length l r→l=r→Q (none,l,r) (X.st (P++(C++z::R)) pd g):=fun l r gi e=>by
  subst e;have c:Cut (gT X false z) C l (C.take l) (C.drop l):=GOk.cut ⟨gi.hn,gi.lo,gi.hi⟩;have:=hq (C.take l) (C.drop l) l (by rw[c.len];exact c)
  rwa [c.len] at this
 have mono:∀ i j,i≤j→j < C.length→X.r (C.getD i 0)≤X.r (C.getD j 0):=fun i j hij hj=>by
  rw[zco (Nat.lt_of_le_of_lt hij hj),zco hj]
  rcases Nat.lt_or_eq_of_le hij with hi|rfl
  ·exact List.pairwise_iff_getElem.1 u i j _ hj hi
  ·exact Nat.le_refl _
 refine W.loop (fun x c st'=>st'=X.st (P++(C++z::R)) pd g∧∃ l r,c=(none,l,r)∧GIn (fun i=>gT X false z (C.getD i 0)) C.length l r∧r - l≤C.length - x) ?_ ?_ ⟨rfl,0,C.length,rfl,⟨Nat.zero_le _,Nat.le_refl _,fun i hi=>absurd hi (Nat.not_lt_zero _),fun i h1 h2=>absurd h2 (Nat.not_lt_of_le h1)⟩,Nat.le_refl _⟩
 ·rintro x c st' hx ⟨rfl,l,r,rfl,gi,hm⟩
  unfold bIn;dsimp only;refine W.ite (fun h=>W.pure (fin l r gi (Nat.le_antisymm gi.lh h))) (fun h=>?_);obtain⟨m,em⟩:∃ m,(l+r) / 2=m:=⟨_,rfl⟩;rw[em];obtain⟨h1,h2⟩:=zpK h;rw[em] at h1 h2;have mn:=Nat.lt_of_lt_of_le h2 gi.hn;have ey:(P++(C++z::R))[P.length+m]?=some (C.getD m 0):=by
   rw[zev _ mn,zco mn,List.getElem?_eq_getElem mn]
  refine W.bind (W.ltAt ez ey hin ?_);dsimp only;refine W.ite (fun c=>W.pure ⟨rfl,l,m,rfl,⟨h1,Nat.le_of_lt mn,gi.lo,fun i hi hn=>?_⟩,zlO hm (Nat.sub_lt_sub_right h1 h2)⟩) (fun c=>W.pure ⟨rfl,m+1,r,rfl,⟨h2,gi.hn,fun i hi=>?_,gi.hi⟩,zlO hm (Nat.sub_lt_sub_left (Nat.lt_of_not_le h) (Nat.lt_succ_of_le h1))⟩)
  ·have:=Nat.lt_of_lt_of_le (of_decide_eq_true c) (mono m i hi hn)
   unfold gT;rw[if_neg Bool.false_ne_true,decide_eq_true this];rfl
  ·have:=Nat.le_trans (mono i m (Nat.le_of_lt_succ hi) mn) (Nat.le_of_not_lt fun h=>c (decide_eq_true h))
   unfold gT;rw[if_neg Bool.false_ne_true,decide_eq_false (Nat.not_lt_of_le this)];rfl
 ·rintro c st' ⟨rfl,l,r,rfl,gi,hm⟩
  exact fin l r gi (Nat.le_antisymm gi.lh (zpL hm))
theorem zqw {C R:List Nat}(hin:X.In (P++(C++R))) (u:X.Up C) (hc:0 < C.length){n:Nat}(h1:C.length≤n) (hn:n≤(C++R).length){Q:SQ Bool}
  (hq:∀ C' R',X.Up C'→C'.length=n→(C'++R').Perm (C++R)→Q true (X.st (P++(C'++R')) pd g)):X.W (binarySort' P.length n C.length) Q (X.st (P++(C++R)) pd g):=by
 rw[zes];unfold bAll;rw[Nat.max_eq_left hc];refine W.bind (W.loopA (fun k c st'=>c=(none,())∧∃ C' R',X.Up C'∧C'.length=k∧(C'++R').Perm (C++R)∧st'=X.st (P++(C'++R')) pd g) h1 ?_ ?_ ⟨rfl,C,R,u,rfl,List.Perm.refl _,rfl⟩)
 ·rintro k c st' hk ⟨rfl,C',R',u',rfl,p',rfl⟩
  have hl:=p'.length_eq
  cases R' with
  |nil=>rw[List.append_nil] at hl;exact absurd hk (Nat.not_lt_of_le (by rw[hl];exact hn))
  |cons z R' =>
   have hin':X.In (P++(C'++z::R')):=fun x hx=>hin x ((p'.append_left P).mem_iff.1 hx);unfold bOut;refine W.bind (zqy hin' u' fun C1 C2 r cut=>?_);obtain⟨rfl,_,y1,y2⟩:=cut;have e:P++(C1++C2++z::R')=P++C1++(C2++z::R'):=by simp only[List.append_assoc]
   rw[e];refine W.bind (zq5 (by rw[List.length_append,List.length_append,Nat.add_assoc]) List.length_append.symm (W.pure ⟨rfl,C1++(z::C2),R',?_,?_,?_,?_⟩))
   ·obtain⟨a1,a2,a3⟩:=List.pairwise_append.1 u'
    have zz:∀ y∈C2,X.r z≤X.r y:=fun y hy=>Nat.le_of_lt (zbE.2 (y2 y hy));refine List.pairwise_append.2 ⟨a1,List.pairwise_cons.2 ⟨zz,a2⟩,fun x hx y hy=>?_⟩
    rcases List.mem_cons.1 hy with rfl|hy
    ·exact zbE.1 (y1 x hx)
    ·exact a3 x hx y hy
   ·rw[List.length_append,List.length_append];rfl
   ·refine List.Perm.trans ?_ p'
    rw[List.append_assoc,List.append_assoc];exact List.Perm.append_left C1 List.perm_middle.symm
   ·simp only[List.append_assoc,List.cons_append]
 ·rintro c st' ⟨rfl,C',R',u',hk,p',rfl⟩
  exact W.pure (hq C' R' u' hk p')
end
inductive Runs (X:Sc):Nat→List Nat→List (Nat × Nat × Nat)→Prop
 |nil (b:Nat):Runs X b [] []
 |cons {b:Nat}{A P:List Nat}{pd:List (Nat × Nat × Nat)}(w:Nat) (u:X.Up A) (h:0 < A.length) (t:Runs X (b+A.length) P pd):Runs X b (A++P) ((b,A.length,w)::pd)
section
variable {X:Sc}
theorem Runs.len {b:Nat}{P:List Nat}{pd:List (Nat × Nat × Nat)}(r:Runs X b P pd):pd.length≤P.length:=by
 induction r with
 |nil=>exact Nat.le_refl _
 |cons w u h t ih=>rw[List.length_append,List.length_cons,Nat.add_comm];exact Nat.add_le_add h ih
theorem Runs.one {b:Nat}{P:List Nat}{pd:List (Nat × Nat × Nat)}(r:Runs X b P pd) (h:pd.length≤1):X.Up P:=by
 cases r with
 |nil=>exact List.Pairwise.nil
 |cons w u h0 t =>
  cases t with
  |nil=>rw[List.append_nil];exact u
  |cons=>exact absurd h (by simp)
theorem Runs.push {b:Nat}{P:List Nat}{pd:List (Nat × Nat × Nat)}(r:Runs X b P pd){C:List Nat}(u:X.Up C) (h:0 < C.length) (w:Nat):Runs X b (P++C) (pd++[(b+P.length,C.length,w)]):=by
 induction r with
 |nil b =>
  have:=Runs.cons w u h (Runs.nil (X:=X) (b+C.length))
  rwa [List.append_nil] at this
 |cons w' u' h' t ih =>
  rw[List.append_assoc,List.cons_append,List.length_append,← Nat.add_assoc];exact .cons w' u' h' ih
theorem Runs.weigh {b:Nat}{P:List Nat}{pd:List (Nat × Nat × Nat)}(r:Runs X b P pd) (pw:Nat):∀ i,Runs X b P (pd.modify i fun x=>(x.1,x.2.1,pw)):=by
 induction r with
 |nil b=>intro i;rw[List.modify_nil];exact .nil b
 |cons w u h t ih =>
  intro i
  cases i with
  |zero=>exact .cons pw u h t
  |succ i=>exact .cons w u h (ih i)
set_option tactic.hygienic true in
theorem Runs.split {D2:List (Nat × Nat × Nat)}{x y:Nat × Nat × Nat}:∀ {D1:List (Nat × Nat × Nat)}{b:Nat}{P:List Nat},Runs X b P (D1++x::y::D2) →
  ∃ P0 A B R w w',P=P0++(A++(B++R))∧x=(b+P0.length,A.length,w)∧y=(b+P0.length+A.length,B.length,w')∧(X.Up A∧X.Up B∧0 < A.length∧0 < B.length) ∧
   ∀ C,X.Up C→C.length=A.length+B.length→Runs X b (P0++(C++R)) (D1++(b+P0.length,A.length+B.length,w)::D2)
 |[],b,P,r=>by
  cases r with
  |cons w u h t =>
   cases t with
   |cons w' u' h' t =>
    refine⟨[],_,_,_,w,w',rfl,rfl,rfl,⟨u,u',h,h'⟩,fun C uc e=>?_⟩;have:=Runs.cons (b:=b) w uc (by rw[e];exact Nat.lt_of_lt_of_le h (Nat.le_add_right _ _)) (by rw[e,← Nat.add_assoc];exact t)
    rw[e] at this;exact this
 |d::D1,b,P,r=>by
  cases r with
  |cons w u h t =>
   rename_i A0 _
   obtain⟨P0,A,B,R,w1,w2,rfl,rfl,rfl,a,c⟩:=Runs.split t;refine⟨A0++P0,A,B,R,w1,w2,(List.append_assoc ..).symm,?_,?_,a,fun C uc e=>?_⟩
   ·rw[List.length_append,Nat.add_assoc]
   ·rw[List.length_append,Nat.add_assoc b]
   ·have:=Runs.cons w u h (c C uc e)
    rw[List.append_assoc,List.length_append,← Nat.add_assoc];exact this
theorem zmG {α:Type}:∀ {l:List α}{i:Nat},i+2≤l.length→∃ D1 x y D2,l=D1++x::y::D2∧D1.length=i
 |x::y::D2,0,_=>⟨[],x,y,D2,rfl,rfl⟩
 |d::l,i+1,h=>by
  obtain⟨D1,x,y,D2,e,e2⟩:=zmG (l:=l) (i:=i) (Nat.le_of_succ_le_succ (by rw[Nat.add_right_comm] at h;exact h))
  exact⟨d::D1,x,y,D2,by rw[e];rfl,by rw[List.length_cons,e2]⟩
structure SRn (X:Sc) (L P S:List Nat) (pd:List (Nat × Nat × Nat)):Prop where
 pm:(P++S).Perm L
 rn:Runs X 0 P pd
variable {L P S:List Nat}{pd:List (Nat × Nat × Nat)}{g:Nat}
theorem zeZ (hL:X.In L) (s:SRn X L P S pd){i:Nat}(hi:i+2≤pd.length){Q:SQ Bool}(hq:∀ P' pd' g',SRn X L P' S pd'→P'.length=P.length→pd'.length+1=pd.length→Q true (X.st (P'++S) pd' g')):X.W (mergeAt' i) Q (X.st (P++S) pd g):=by
 obtain⟨pm,rn⟩:=s;obtain⟨D1,x,y,D2,rfl,rfl⟩:=zmG hi;obtain⟨P0,A,B,R,w,w',rfl,rfl,rfl,⟨ua,ub,ha,hb⟩,go⟩:=rn.split;rw[Nat.zero_add] at go ⊢
 have hin:X.In (P0++(A++(B++R))++S):=fun x hx=>hL x (pm.mem_iff.1 hx);have e:P0++(A++(B++R))++S=P0++(A++(B++(R++S))):=by simp only[List.append_assoc]
 rw[e] at hin ⊢
 refine W.mono (zlT (R:=R++S) ⟨fun x hx=>hin x (by simp[hx]),fun x hx=>hin x (by simp[hx]),ua,ub,ha,hb⟩) ?_
 rintro c st' ⟨rfl,C,g',uc,pc,rfl⟩
 have lc:C.length=A.length+B.length:=by rw[pc.length_eq,List.length_append]
 have e2:P0++(C++(R++S))=P0++(C++R)++S:=by simp only[List.append_assoc]
 rw[e2];refine hq _ _ _ ⟨List.Perm.trans ?_ pm,go C uc lc⟩ ?_ ?_
 ·refine List.Perm.append_right S (List.Perm.append_left P0 ?_)
  rw[←List.append_assoc A];exact List.Perm.append_right R pc
 ·rw[List.length_append,List.length_append,List.length_append,List.length_append,List.length_append,lc,Nat.add_assoc A.length]
 ·rw[List.length_append,List.length_append];rfl
end
abbrev RSt:=Option Unit × Nat
abbrev USt:=Option Unit × Unit
noncomputable def srP (pw:Nat):SM (ForInStep USt):=do
 let s ← get
 match (if(pendingOf s).size > 1 then(pendingOf s)[(pendingOf s).size - 2]? else none) with
 |some (_,_,older)=>if older≤pw then pure (.done (none,())) else do
   let c ← mergeAt' ((pendingOf s).size - 2)
   if(!c)=true then pure (.done (some (),())) else pure (.yield (none,()))
 |_=>pure (.done (none,()))
noncomputable def srEnd (lo n:Nat):SM (ForInStep RSt):=do
 modify fun s=>setPending s ((pendingOf s).push (lo,n,0))
 pure (.yield (none,lo+n))
noncomputable def srD (size lo n s1 n1:Nat):SM (ForInStep RSt):=do
 let t ← forIn [0:size] ((none,()):USt) fun z_ z_=>srP (power' size (2 * s1+n1) (2 * s1+n1+n1+n) size)
 match t.1 with
 |some r=>pure (.done (some r,lo))
 |none=>do
  modify fun s=>setPending s ((pendingOf s).modify ((pendingOf s).size - 1) fun x=>(x.1,x.2.1,power' size (2 * s1+n1) (2 * s1+n1+n1+n) size))
  srEnd lo n
noncomputable def srC (size lo n:Nat):SM (ForInStep RSt):=do
 let s ← get
 match (pendingOf s).back? with
 |some (s1,n1,_)=>srD size lo n s1 n1
 |_=>srEnd lo n
noncomputable def srB (size minrun lo n:Nat):SM (ForInStep RSt) :=
 if n < minrun then do
  liftM (rule "list.sort.binary-insertion")
  let c ← binarySort' lo (min (size - lo) minrun) n
  if(!c)=true then pure (.done (some (),lo)) else srC size lo (min (size - lo) minrun)
 else srC size lo n
noncomputable def srA (size minrun lo:Nat):SM (ForInStep RSt) :=
 if lo ≥ size then pure (.done (none,lo)) else do
  let x ← countRun' lo (size - lo)
  match x with
  |some found=>srB size minrun lo found
  |_=>pure (.done (some (),lo))
noncomputable def srF:SM (ForInStep USt):=do
 let s ← get
 if(pendingOf s).size≤1 then pure (.done (none,())) else do
  let c ← mergeAt' (if(if(pendingOf s).size - 2 > 0 then(pendingOf s)[(pendingOf s).size - 2 - 1]?.map (·.2.1) else none).any (·< ((pendingOf s)[(pendingOf s).size - 2+1]?.elim 0 (·.2.1)))=true then(pendingOf s).size - 2 - 1 else(pendingOf s).size - 2)
  if(!c)=true then pure (.done (some (),())) else pure (.yield (none,()))
noncomputable def srAll:SM Unit:=do
 let s ← get
 let t ← forIn [0:(arrOf s).size] ((none,0):RSt) fun z_ c=>srA (arrOf s).size (minRun' (arrOf s).size (arrOf s).size 0) c.2
 match t.1 with
 |some r=>pure r
 |none=>do
  let t ← forIn [0:(arrOf s).size] ((none,()):USt) fun z_ z_=>srF
  match t.1 with
  |some r=>pure r
  |none=>pure ()
theorem zfm:sortRuns'=srAll:=by kernel_rfl
section
variable {X:Sc}{L P S:List Nat}{pd:List (Nat × Nat × Nat)}{g:Nat}
noncomputable def SIn (X:Sc) (L:List Nat) (x:Nat):RSt→SortSt→Prop:=fun c st=>∃ P S pd g,SRn X L P S pd∧c=(none,P.length)∧st=X.st (P++S) pd g∧x≤P.length
noncomputable def SDn (X:Sc) (L:List Nat):RSt→SortSt→Prop:=fun c st=>∃ P pd g m,SRn X L P [] pd∧c=(none,m)∧st=X.st P pd g
theorem zhQ {C R:List Nat}{x lo:Nat}(s:SRn X L P (C++R) pd) (u:X.Up C) (h:0 < C.length) (hlo:lo=P.length) (hx:x≤P.length):X.W (srEnd lo C.length) (Nx (SDn X L) (SIn X L (x+1))) (X.st (P++(C++R)) pd g):=by
 refine W.bind (W.modify (W.pure ?_));subst hlo;have r:=s.rn.push u h 0;rw[Nat.zero_add] at r;refine⟨P++C,R,pd++[(P.length,C.length,0)],g,⟨by rw[List.append_assoc];exact s.pm,r⟩,by rw[List.length_append],?_,by rw[List.length_append];exact Nat.add_le_add hx h⟩
 show SortSt.mk' X.κ (X.arr (P++(C++R))) (pd.toArray.push (P.length,C.length,0)) g none=_;rw[List.push_toArray,← List.append_assoc];rfl
theorem zo4 (hL:X.In L) (s:SRn X L P S pd){pw n:Nat}(hn:P.length=n){Q:SQ USt}(hq:∀ P' pd' g',SRn X L P' S pd'→P'.length=n→Q (none,()) (X.st (P'++S) pd' g')) :
  X.W (srP pw) (Nx Q fun c st'=>∃ P' pd' g',SRn X L P' S pd'∧P'.length=n∧c=(none,())∧st'=X.st (P'++S) pd' g') (X.st (P++S) pd g):=by
 refine W.bind (W.get ?_);have dn:Nx Q (fun c st'=>∃ P' pd' g',SRn X L P' S pd'∧P'.length=n∧c=(none,())∧st'=X.st (P'++S) pd' g') (.done (none,())) (X.st (P++S) pd g):=hq P pd g s hn;have ep:pendingOf (X.st (P++S) pd g)=pd.toArray:=rfl;rw[ep,List.size_toArray]
 by_cases h1:pd.length > 1
 ·rw[if_pos h1]
  cases pd.toArray[pd.length - 2]? with
  |none=>exact W.pure dn
  |some v =>
   obtain⟨a,b,older⟩:=v;refine W.ite (fun z_=>W.pure dn) (fun z_=>W.bind (zeZ hL s (Nat.le_of_eq (Nat.sub_add_cancel h1)) fun P' pd' g' s' l1 l2=>?_));exact W.ite (fun c=>absurd c (by decide)) (fun z_=>W.pure ⟨P',pd',g',s',l1.trans hn,rfl,rfl⟩)
 ·rw[if_neg h1];exact W.pure dn
theorem zmK (hL:X.In L){C R:List Nat}{x lo size:Nat}(s:SRn X L P (C++R) pd) (u:X.Up C) (h:0 < C.length) (hlo:lo=P.length) (hx:x≤P.length):X.W (srC size lo C.length) (Nx (SDn X L) (SIn X L (x+1))) (X.st (P++(C++R)) pd g):=by
 refine W.bind (W.get ?_)
 cases (pendingOf (X.st (P++(C++R)) pd g)).back? with
 |none=>exact zhQ s u h hlo hx
 |some v =>
  obtain⟨s1,n1,w⟩:=v;show X.W (srD size lo C.length s1 n1) _ _;unfold srD;generalize power' size (2 * s1+n1) (2 * s1+n1+n1+C.length) size=pw;have fin:∀ P' pd' g',SRn X L P' (C++R) pd'→P'.length=P.length→X.W (match ((none,()):USt).1 with
    |some r=>pure (.done (some r,lo))
    |none=>do
     modify fun s=>setPending s ((pendingOf s).modify ((pendingOf s).size - 1) fun x=>(x.1,x.2.1,pw))
     srEnd lo C.length) (Nx (SDn X L) (SIn X L (x+1))) (X.st (P'++(C++R)) pd' g'):=fun P' pd' g' s' l=>by
   refine W.bind (W.modify ?_);have e:setPending (X.st (P'++(C++R)) pd' g') ((pendingOf (X.st (P'++(C++R)) pd' g')).modify ((pendingOf (X.st (P'++(C++R)) pd' g')).size - 1) fun x=>(x.1,x.2.1,pw))=X.st (P'++(C++R)) (pd'.modify (pd'.length - 1) fun x=>(x.1,x.2.1,pw)) g':=by
    show SortSt.mk' X.κ (X.arr (P'++(C++R))) (pd'.toArray.modify (pd'.toArray.size - 1) fun x=>(x.1,x.2.1,pw)) g' none=_;rw[List.size_toArray,List.modify_toArray];rfl
   rw[e];exact zhQ ⟨s'.pm,s'.rn.weigh pw _⟩ u h (hlo.trans l.symm) (by rw[l];exact hx)
  refine W.bind (W.loop (fun z_ c st'=>∃ P' pd' g',SRn X L P' (C++R) pd'∧P'.length=P.length∧c=(none,())∧st'=X.st (P'++(C++R)) pd' g') ?_ ?_ ⟨P,pd,g,s,rfl,rfl,rfl⟩)
  ·rintro i c st' hi ⟨P',pd',g',s',l,rfl,rfl⟩
   exact zo4 hL s' l fin
  ·rintro c st' ⟨P',pd',g',s',l,rfl,rfl⟩
   exact fin P' pd' g' s' l
theorem zo5 (hL:X.In L) (s:SRn X L P S pd){x m:Nat}(hx:x≤P.length):X.W (srA L.length m P.length) (Nx (SDn X L) (SIn X L (x+1))) (X.st (P++S) pd g):=by
 have hl:P.length+S.length=L.length:=by rw[←List.length_append];exact s.pm.length_eq
 refine W.ite (fun c=>?_) (fun c=>?_)
 ·have:S=[]:=List.length_eq_zero_iff.1 (Nat.le_zero.1 (Nat.le_of_add_le_add_left (a:=P.length) (by rw[hl];exact c)))
  subst this;exact W.pure ⟨P,pd,g,P.length,s,rfl,by rw[List.append_nil]⟩
 ·have hs:L.length - P.length=S.length:=by rw[←hl,Nat.add_sub_cancel_left]
  rw[hs];have hin:X.In (P++S):=fun y hy=>hL y (s.pm.mem_iff.1 hy);refine W.bind (W.mono (zoB hin (by rw[←hs];exact Nat.sub_pos_of_lt (Nat.lt_of_not_le c))) ?_)
  rintro c st' ⟨C,R,rfl,c0,u,p,rfl⟩
  have s':SRn X L P (C++R) pd:=⟨(List.Perm.append_left P p).trans s.pm,s.rn⟩;have hin':X.In (P++(C++R)):=fun y hy=>hL y (s'.pm.mem_iff.1 hy);have lc:C.length≤S.length:=by rw[←p.length_eq,List.length_append];exact Nat.le_add_right _ _
  show X.W (srB L.length m P.length C.length) _ _;refine W.ite (fun h=>W.bind (W.rule (W.bind ?_))) (fun z_=>zmK hL s' u c0 rfl hx);rw[hs];refine zqw hin' u c0 (Nat.le_min.2 ⟨lc,Nat.le_of_lt h⟩) (by rw[p.length_eq];exact Nat.min_le_left _ _) fun C' R' u' l' p'=>?_
  refine W.ite (fun c=>absurd c (by decide)) (fun z_=>?_)
  rw[←l'];exact zmK hL ⟨(List.Perm.append_left P p').trans s'.pm,s.rn⟩ u' (by rw[l'];exact Nat.lt_of_lt_of_le c0 (Nat.le_min.2 ⟨lc,Nat.le_of_lt h⟩)) rfl hx
noncomputable def SZn (X:Sc) (L:List Nat):SQ Unit:=fun z_ st=>∃ p pd g,st=X.st p pd g∧p.Perm L∧X.Up p
theorem zlq (hL:X.In L):X.W sortRuns' (SZn X L) (X.st L [] g):=by
 rw[zfm];refine W.bind (W.get ?_);have ez:(arrOf (X.st L [] g)).size=L.length:=za1 L;rw[ez];have fin:∀ P pd g,SRn X L P [] pd→pd.length≤1→SZn X L () (X.st P pd g):=fun P pd g s h=>⟨P,pd,g,rfl,by rw[←List.append_nil P];exact s.pm,s.rn.one h⟩
 have next:∀ c st,SDn X L c st→X.W (match c.1 with
   |some r=>pure r
   |none=>do
    let t ← forIn [0:L.length] ((none,()):USt) fun z_ z_=>srF
    match t.1 with
    |some r=>pure r
    |none=>pure ()) (SZn X L) st:=by
  rintro c st ⟨P,pd,g,m,s,rfl,rfl⟩
  have hl:P.length=L.length:=by rw[←List.append_nil P];exact s.pm.length_eq
  refine W.bind (W.loop (fun x c st'=>∃ P' pd' g',SRn X L P' [] pd'∧c=(none,())∧st'=X.st P' pd' g'∧pd'.length+x≤L.length) ?_ ?_ ⟨P,pd,g,s,rfl,rfl,by rw[Nat.add_zero,← hl];exact s.rn.len⟩)
  ·rintro x c st' hx ⟨P',pd',g',s',rfl,rfl,hp⟩
   refine W.bind (W.get ?_);have ep:pendingOf (X.st P' pd' g')=pd'.toArray:=rfl;rw[ep,List.size_toArray];refine W.ite (fun c=>W.pure (W.pure (fin P' pd' g' s' c))) (fun c=>W.bind ?_);have s'':=s';rw[←List.append_nil P'];refine zeZ hL s' ?_ fun P2 pd2 g2 s2 z_ l2=>W.ite (fun c=>absurd c (by decide)) (fun z_=>W.pure ⟨P2,pd2,g2,s2,rfl,by rw[List.append_nil],by omega⟩)
   by_cases hb:(if pd'.length - 2 > 0 then pd'.toArray[pd'.length - 2 - 1]?.map (·.2.1) else none).any (·< (pd'.toArray[pd'.length - 2+1]?.elim 0 (·.2.1)))=true
   ·rw[if_pos hb];omega
   ·rw[if_neg hb];omega
  ·rintro c st' ⟨P',pd',g',s',rfl,rfl,hp⟩
   exact W.pure (fin P' pd' g' s' (by omega))
 refine W.bind (W.loop (SIn X L) ?_ ?_ ⟨[],L,[],g,⟨List.Perm.refl _,.nil 0⟩,rfl,rfl,Nat.le_refl _⟩)
 ·rintro x c st' hx ⟨P,S,pd,g,s,rfl,rfl,hp⟩
  refine W.mono (zo5 hL s hp) fun c st' h=>?_
  cases c with
  |done c=>exact next c st' h
  |yield c=>exact h
 ·rintro c st' ⟨P,S,pd,g,s,rfl,rfl,hp⟩
  have:S=[]:=by
   have e:=s.pm.length_eq;rw[List.length_append] at e;exact List.length_eq_zero_iff.1 (Nat.le_zero.1 (Nat.le_of_add_le_add_left (a:=P.length) (by rw[e];exact hp)))
  subst this;refine next _ _ ⟨P,pd,g,P.length,?_,rfl,?_⟩
  ·exact s
  ·rw[List.append_nil]
end
section
variable {prog:Program}{w:World}{A:Around}{E:Value→Shared→Prop}{s:Shared}
theorem zi3 {l b:Addr}{xs ys:List Value}{is js:List Int}{Q:Bool→Shared→Prop}(hu:A.units < cLine) (h1:s.heap.IsList l xs.toArray) (h2:s.heap.IsList b ys.toArray) (I1:IntsAre xs is) (I2:IntsAre ys js) (h:Q (lexLt is js) s) :
  wpAny (model prog w) A (keyLt' oneType' (.ref l) (.ref b)) Q E s:=by
 obtain⟨⟨k1,d1,u1,s1⟩,ho1,c1,n1,e1⟩:=h1;obtain⟨⟨k2,d2,u2,s2⟩,ho2,c2,n2,e2⟩:=h2;simp only at c1 c2 e1 e2;subst c1 c2 e1 e2;rw[keyLt'_oneType,oneLt'_eq];simp only[if_true];refine wpAny_bind (wpAny_cRoomFor hu ?_);exact wpAny_bind (wpAny_callSpecialIfBound?_slot ⟨_,ho1,rfl⟩ F.slot_list_lt (call_meets F.slot_list_lt ⟨_,ho1,rfl⟩ F.entry_list_lt (F.args_list_lt_2 _ _) (zh4 l b d1 d2 s1 s2 xs ys is js n1 n2 I1 I2) ⟨ho1,ho2,wpAny_truthy_bool h⟩))
noncomputable def zck (h:Heap) (a:Addr) (vs:List Value):Heap:=((h.update a (Obj.mapSeq fun z_=>#[])).push (seqObj "tuple" vs.toArray 0)).push (seqObj "list" #[] 0)
theorem zfx {a:Addr}{vs:List Value}{n:Nat}{κ:SortKind}{r:Nat→Nat}{P:PySem.Fin→Shared→Prop}(ho:s.heap.get? a=some (seqObj "list" vs.toArray n)) (h2:2≤vs.length) (hle:vs.length≤sizeLine)
  (hk:∀ {Q:SortKind→Shared→Prop},Q κ { s with heap:=zck s.heap a vs }→wpAny (model prog w) A (keyKind' vs.toArray) Q E { s with heap:=zck s.heap a vs })
  (hc:∀ i j C,i < vs.length→j < vs.length→C (decide (r i < r j)) { s with heap:=zck s.heap a vs }→kas_ask prog w A κ vs i j C { s with heap:=zck s.heap a vs })
  (h:∀ p:List Nat,p.Perm (List.range vs.length)→(p.Pairwise fun x y=>r x≤r y)→P (.done (.ret .none)) { s with heap:=sortedHeap s.heap a vs (p.map fun i=>vs.getD i Value.none).toArray }) :
  wpAny (model prog w) A (Builtin.«list.sort» ⟨[.ref a],[]⟩) P E s:=by
 rw[list_sort_plain];refine wpAny_bind (listItems_at ho rfl (wpAny_bind (listUpdate_at ho rfl ?_ (by rw[List.size_toArray];exact hle) (Nat.zero_le _))))
 obtain⟨e1,ho1⟩:∃ e1,(s.heap.update a (Obj.mapSeq fun z_=>#[])).get? a=some (seqObj "list" #[] e1):=⟨_,get?_update_seq ho (fun z_=>#[])⟩;refine wpAny_bind (seqEpoch_at ho1 rfl (wpAny_bind (wpAny_newTuple (wpAny_bind (wpAny_newList (wpAny_holding ?_) (Nat.zero_le _))) hle)));have ho6:(zck s.heap a vs).get? a=some (seqObj "list" #[] e1) :=
  Heap.get?_push_of_some _ (Heap.get?_push_of_some _ ho1)
 show wpAny (model prog w) A _ P E { s with heap:=zck s.heap a vs }
 dsimp only;have hn2:¬ vs.toArray.size < 2:=by rw[List.size_toArray];omega
 rw[if_neg hn2,if_neg hn2];refine wpAny_bind (hk ?_);have run:=zlq (X:=⟨model prog w,A,E,{ s with heap:=zck s.heap a vs },κ,pairsOf vs,vs.length,r,fun i j C hi hj hC=>by rw[kas_item_eq,kas_item_eq];exact hc i j C hi hj hC⟩) (L:=List.range vs.length) (g:=7) fun x hx=>List.mem_range.1 hx
 have est:SortSt.mk' κ (vs.toArray.zip vs.toArray) #[] 7 none=SortSt.mk' κ ((List.range vs.length).map (kas_item (pairsOf vs))).toArray (List.toArray []) 7 none:=by
  have e:=kas_range (pairsOf vs);rw[pairsOf_size,List.map_toArray] at e;show SortSt.mk' κ (pairsOf vs) #[] 7 none=_;rw[e]
 rw[est];refine wpAny_bind (wpAny_mono run (fun c s' z=>?_) fun z_ z_ e=>e);refine hold fun z_ k_=>?_;obtain⟨e1,p,pd,g,e2,hp,hu⟩:=z;refine k_ ?_;rw[e1,e2];have hout:((p.map (kas_item (pairsOf vs))).toArray).map (·.2)=(p.map fun i=>vs.getD i Value.none).toArray:=by
  rw[List.map_toArray,List.map_map];exact congrArg List.toArray (List.map_congr_left fun i z_=>by show(kas_item (pairsOf vs) i).2=_;rw[kas_item_eq])
 show wpAny _ _ ((seqEpoch a) >>= _) _ _ _;refine wpAny_bind (seqEpoch_at ho6 rfl (wpAny_bind (listUpdate_at ho6 rfl ?_ (Nat.zero_le _) (by
  show(((p.map (kas_item (pairsOf vs))).toArray).map (·.2)).size≤_;rw[hout,List.size_toArray,List.length_map,hp.length_eq,List.length_range];exact Nat.le_succ_of_le hle))))
 rw[bne_self_eq_false,if_neg Bool.false_ne_true];refine wpAny_pure ?_;have:=h p hp hu;rw[←hout] at this;exact this
end
end Mine
namespace Mine
structure Ord {α:Type}(lt:α→α→Bool):Prop where
 irr:∀ a,lt a a=false
 tr:∀ a b c,lt a b=true→lt b c=true→lt a c=true
 tot:∀ a b,lt a b=false→lt b a=false→a=b
theorem zep {β:Type}{p q:β→Bool}:∀ {l:List β},(∀ x∈l,p x=true→q x=true)→(∃ x∈l,p x=false∧q x=true)→l.countP p < l.countP q
 |[],_,⟨_,h,_⟩=>nomatch h
 |a::l,hpq,⟨x,hx,h1,h2⟩=>by
  have hl:∀ x∈l,p x=true→q x=true:=fun x hx=>hpq x (List.mem_cons_of_mem _ hx);have hle:l.countP p≤l.countP q:=List.countP_mono_left hl;rw[List.countP_cons,List.countP_cons]
  rcases List.mem_cons.1 hx with rfl|hx
  ·rw[h1,h2];exact Nat.lt_succ_of_le hle
  ·have:=zep hl ⟨x,hx,h1,h2⟩
   have ha:=hpq a (List.mem_cons_self ..)
   cases hpa:p a with
   |true=>rw[ha hpa];exact Nat.add_lt_add_right this _
   |false=>exact Nat.lt_of_lt_of_le this (Nat.le_add_right ..)
section
variable {α:Type}{lt:α→α→Bool}
noncomputable def rank (lt:α→α→Bool) (key:Nat→α) (n i:Nat):Nat:=(List.range n).countP fun j=>lt (key j) (key i)
theorem zjQ (o:Ord lt){key:Nat→α}{n i j:Nat}(hi:i < n) (hj:j < n):lt (key i) (key j)=decide (rank lt key n i < rank lt key n j):=by
 have up:∀ i j,i < n→lt (key i) (key j)=true→rank lt key n i < rank lt key n j:=fun i j hi h =>
  zep (fun x z_ hx=>o.tr _ _ _ hx h) ⟨i,List.mem_range.2 hi,o.irr _,h⟩
 cases h:lt (key i) (key j) with
 |true=>exact(decide_eq_true (up i j hi h)).symm
 |false =>
  cases h':lt (key j) (key i) with
  |true=>exact(decide_eq_false (Nat.lt_asymm (up j i hj h'))).symm
  |false =>
   have:=o.tot _ _ h h';refine(decide_eq_false ?_).symm;unfold rank;rw[this];exact Nat.lt_irrefl _
theorem zfR (x:α):∀ l:List α,(isort.insertBy' lt x l).Perm (x::l)
 |[]=>List.Perm.refl _
 |y::ys=>by
  rw[zdK]
  split
  ·exact((zfR x ys).cons y).trans (List.Perm.swap ..)
  ·exact List.Perm.refl _
theorem zbx:∀ l:List α,(isort lt l).Perm l
 |[]=>List.Perm.refl _
 |x::xs=>(zfR x _).trans ((zbx xs).cons x)
set_option tactic.hygienic true in
theorem zm1 {le:α→α→Prop}(h1:∀ a b,lt a b=true→le a b) (h2:∀ a b,lt a b=false→le b a) (ht:∀ a b c,le a b→le b c→le a c) (x:α):∀ l:List α,l.Pairwise le→(isort.insertBy' lt x l).Pairwise le
 |[],_=>List.pairwise_singleton ..
 |y::ys,h=>by
  obtain⟨h3,h4⟩:=List.pairwise_cons.1 h;rw[zdK]
  split
  ·rename_i hc
   refine List.pairwise_cons.2 ⟨fun z hz=>?_,zm1 h1 h2 ht x ys h4⟩
   rcases List.mem_cons.1 ((zfR x ys).mem_iff.1 hz) with rfl|hz
   ·exact h1 _ _ hc
   ·exact h3 z hz
  ·rename_i hc
   have hle:=h2 y x (by simpa using hc)
   refine List.pairwise_cons.2 ⟨fun z hz=>?_,h⟩
   rcases List.mem_cons.1 hz with rfl|hz
   ·exact hle
   ·exact ht _ _ _ hle (h3 z hz)
theorem zdJ {le:α→α→Prop}(h1:∀ a b,lt a b=true→le a b) (h2:∀ a b,lt a b=false→le b a) (ht:∀ a b c,le a b→le b c→le a c):∀ l:List α,(isort lt l).Pairwise le
 |[]=>List.Pairwise.nil
 |x::xs=>zm1 h1 h2 ht x _ (zdJ h1 h2 ht xs)
theorem Ord.asymm (o:Ord lt){a b:α}(h:lt a b=true):lt b a=false:=by
 cases h':lt b a with
 |false=>rfl
 |true=>have:=o.tr _ _ _ h h';rw[o.irr] at this;cases this
theorem Ord.le_tr (o:Ord lt){a b c:α}(h1:lt b a=false) (h2:lt c b=false):lt c a=false:=by
 cases h:lt c a with
 |false=>rfl
 |true =>
  cases h3:lt a b with
  |true=>have:=o.tr _ _ _ h h3;rw[h2] at this;cases this
  |false=>have e:=o.tot _ _ h3 h1;subst e;rw[h2] at h;cases h
end
theorem znS:Ord fun a b:Int=>decide (a < b):=⟨fun a=>decide_eq_false (Int.lt_irrefl a),fun a b c h1 h2=>decide_eq_true (Int.lt_trans (of_decide_eq_true h1) (of_decide_eq_true h2)),fun a b h1 h2=>Int.le_antisymm (Int.not_lt.1 (of_decide_eq_false h2)) (Int.not_lt.1 (of_decide_eq_false h1))⟩
theorem zho:∀ a:List Int,lexLt a a=false
 |[]=>rfl
 |x::a=>by rw[zcm,if_pos rfl];exact zho a
theorem zkd:∀ a b c:List Int,lexLt a b=true→lexLt b c=true→lexLt a c=true
 |[],[],_,h,_=>by cases h
 |[],_::_,[],_,h=>by cases h
 |[],_::_,_::_,_,_=>rfl
 |_::_,[],_,h,_=>by cases h
 |_::_,_::_,[],_,h=>by cases h
 |x::a,y::b,z::c,h1,h2=>by
  rw[zcm] at h1 h2 ⊢
  by_cases e1:x=y
  ·subst e1
   rw[if_pos rfl] at h1
   by_cases e2:x=z
   ·subst e2
    rw[if_pos rfl] at h2 ⊢
    exact zkd a b c h1 h2
   ·rw[if_neg e2] at h2 ⊢;exact h2
  ·rw[if_neg e1] at h1
   have h1:=of_decide_eq_true h1
   by_cases e2:y=z
   ·subst e2
    rw[if_neg e1];exact decide_eq_true h1
   ·rw[if_neg e2] at h2
    have h2:=of_decide_eq_true h2;rw[if_neg fun q=>absurd (Int.lt_trans h1 h2) (by rw[q];exact Int.lt_irrefl _)];exact decide_eq_true (Int.lt_trans h1 h2)
theorem zhn:∀ a b:List Int,lexLt a b=false→lexLt b a=false→a=b
 |[],[],_,_=>rfl
 |[],_::_,h,_=>by cases h
 |_::_,[],_,h=>by cases h
 |x::a,y::b,h1,h2=>by
  rw[zcm] at h1 h2
  by_cases e:x=y
  ·subst e
   rw[if_pos rfl] at h1 h2;rw[zhn a b h1 h2]
  ·rw[if_neg e] at h1
   rw[if_neg (Ne.symm e)] at h2;have h1:=of_decide_eq_false h1;have h2:=of_decide_eq_false h2;exact absurd (Int.le_antisymm (Int.not_lt.1 h2) (Int.not_lt.1 h1)) e
theorem zjY:Ord lexLt:=⟨zho,zkd,zhn⟩
end Mine
namespace Mine
open PySem PySem.W PyProof.Rows
section
variable {α:Type}{lt:α→α→Bool}
theorem zfl (o:Ord lt){β:Type}{L:List (α × β)}{d:α × β}(det:∀ p∈L,∀ q∈L,p.1=q.1→p.2=q.2){p:List Nat}(hp:p.Perm (List.range L.length)) (hu:p.Pairwise fun x y=>rank lt (fun i=>(L.getD i d).1) L.length x≤rank lt (fun i=>(L.getD i d).1) L.length y) :
  p.map (fun i=>L.getD i d)=isort (fun a b=>lt a.1 b.1) L:=by
 have pm:(p.map fun i=>L.getD i d).Perm L:=by
  have h2:=hp.map fun i=>L.getD i d;have h3:(List.range L.length).map (fun i=>L.getD i d)=L:=List.ext_getElem (by simp) fun i h1 h2=>by simp[h2]
  rwa [h3] at h2
 refine List.Perm.eq_of_pairwise (le:=fun a b=>lt b.1 a.1=false) (fun a b ha hb h1 h2=>?_) ?_ (zdJ (lt:=fun a b:α × β=>lt a.1 b.1) (le:=fun a b=>lt b.1 a.1=false) (fun a b h=>o.asymm h) (fun a b h=>h) (fun a b c h1 h2=>o.le_tr h1 h2) L) (pm.trans (zbx L).symm)
 ·have ha:=pm.mem_iff.1 ha
  have hb:=(zbx L).mem_iff.1 hb;have e1:=o.tot _ _ h2 h1;exact Prod.ext e1 (det a ha b hb e1)
 ·refine List.pairwise_map.2 (List.Pairwise.imp_of_mem (fun {x y} hx hy h=>?_) hu)
  have lx:=List.mem_range.1 (hp.mem_iff.1 hx);have ly:=List.mem_range.1 (hp.mem_iff.1 hy);rw[zjQ o (key:=fun i=>(L.getD i d).1) ly lx];exact decide_eq_false (Nat.not_lt.2 h)
end
section
variable {prog:Program}{w:World}{A:Around}{E:Value→Shared→Prop}{s:Shared}
theorem zec {a:Addr}{vs:List Value}{n:Nat}{P:PySem.Fin→Shared→Prop}(ho:s.heap.get? a=some (seqObj "list" vs.toArray n)) (h2:vs.length < 2)
  (h:P (.done (.ret .none)) { s with heap:=sortedHeap s.heap a vs vs.toArray }):wpAny (model prog w) A (Builtin.«list.sort» ⟨[.ref a],[]⟩) P E s:=by
 rw[list_sort_plain];have hle:vs.length≤sizeLine:=Nat.le_trans (Nat.le_of_lt h2) (by decide)
 refine wpAny_bind (listItems_at ho rfl (wpAny_bind (listUpdate_at ho rfl ?_ (by rw[List.size_toArray];exact hle) (Nat.zero_le _))))
 obtain⟨e1,ho1⟩:∃ e1,(s.heap.update a (Obj.mapSeq fun z_=>#[])).get? a=some (seqObj "list" #[] e1):=⟨_,get?_update_seq ho (fun z_=>#[])⟩;refine wpAny_bind (seqEpoch_at ho1 rfl (wpAny_bind (wpAny_newTuple (wpAny_bind (wpAny_newList (wpAny_holding ?_) (Nat.zero_le _))) hle)));have ho6:(((s.heap.update a (Obj.mapSeq fun z_=>#[])).push (seqObj "tuple" vs.toArray 0)).push (seqObj "list" #[] 0)).get? a=some (seqObj "list" #[] e1) :=
  Heap.get?_push_of_some _ (Heap.get?_push_of_some _ ho1)
 show wpAny (model prog w) A _ P E { s with heap:=((s.heap.update a (Obj.mapSeq fun z_=>#[])).push (seqObj "tuple" vs.toArray 0)).push (seqObj "list" #[] 0) }
 dsimp only;have hn2:vs.toArray.size < 2:=by rw[List.size_toArray];exact h2
 rw[if_pos hn2,if_pos hn2];refine wpAny_bind (wpAny_pure ?_);rw[StateT.run_pure];refine wpAny_bind (wpAny_pure ?_);dsimp only;have hout:(vs.toArray.zip vs.toArray).map (·.2)=vs.toArray:=by
  apply Array.toList_inj.mp
  rw[Array.toList_map];show List.map _ (pairsOf vs).toList=vs;rw[pairsOf_toList];exact List.map_snd_zip (Nat.le_refl _)
 rw[show arrOf (SortSt.mk' general' (vs.toArray.zip vs.toArray) #[] 7 none)=vs.toArray.zip vs.toArray from rfl,hout];refine wpAny_bind (seqEpoch_at ho6 rfl (wpAny_bind (listUpdate_at ho6 rfl ?_ (Nat.zero_le _) (by show vs.toArray.size≤_;rw[List.size_toArray];exact Nat.le_succ_of_le hle))))
 rw[bne_self_eq_false,if_neg Bool.false_ne_true];exact wpAny_pure h
theorem zdU {x:Value}{vs:List Value}{κ:SortKind}{r:Nat→Nat}{Q:Value→Shared→Prop}(h64:vs.length < 257)
  (hcol:∀ {E':Value→Shared→Prop}{Q':List Value→Shared→Prop},(∀ h₁ tk,(∀ b o,s.heap.get? b=some o→h₁.get? b=some o)→Q' vs { s with heap:=h₁,toks:=tk })→wpAny (model prog w) A.in1 (collect x) Q' E' s)
  (hk:2≤vs.length→∀ {A:Around}{E:Value→Shared→Prop}{s':Shared}{Q:SortKind→Shared→Prop},(∀ b o,s.heap.get? b=some o→s'.heap.get? b=some o)→Q κ s'→wpAny (model prog w) A (keyKind' vs.toArray) Q E s')
  (hc:2≤vs.length→∀ i j C s',i < vs.length→j < vs.length→(∀ b o,s.heap.get? b=some o→s'.heap.get? b=some o)→C (decide (r i < r j)) s'→kas_ask prog w A.in1.in1 κ vs i j C s')
  (h:∀ out a e h' tk,(vs.length < 2∧out=vs∨2≤vs.length∧∃ p:List Nat,p.Perm (List.range vs.length)∧(p.Pairwise fun x y=>r x≤r y)∧out=p.map fun i=>vs.getD i Value.none)→(∀ b o,s.heap.get? b=some o→h'.get? b=some o)→s.heap.get? a=none→h'.get? a=some (seqObj "list" out.toArray e)→Q (.ref a) { s with heap:=h',toks:=tk }) :
  wpAny (model prog w) A (call (.builtin "sorted") [x]) Q E s:=by
 have hle:vs.length≤sizeLine:=Nat.le_trans (Nat.le_of_lt h64) (by decide)
 refine Calls.call_function_entry kind_sorted plain_sorted entry_sorted (args_sorted1 _) ?_;unfold Builtin.«sorted»
 refine wpAny_bind (m:=checkCount "sorted" 1 1 _) (wpAny_pure (wpAny_bind (hcol fun h₁ tk k1=>wpAny_bind (wpAny_newList ?_ hle))));have hoL:(h₁.push (seqObj "list" vs.toArray 0)).get? h₁.objs.size=some (seqObj "list" vs.toArray 0):=Heap.get?_push_size _ rfl;have old:∀ {b o},s.heap.get? b=some o→b < h₁.objs.size:=fun q=>Heap.lt_size (k1 _ _ q);have fresh:s.heap.get? h₁.objs.size=none:=by
  cases q:s.heap.get? h₁.objs.size with
  |none=>rfl
  |some o=>exact absurd (old q) (Nat.lt_irrefl _)
 have k2:∀ b o,s.heap.get? b=some o→(h₁.push (seqObj "list" vs.toArray 0)).get? b=some o:=fun b o q=>Heap.get?_push_of_some _ (k1 b o q);refine wpAny_bind (wpAny_holding (wpAny_call_entry slot_list_sort ⟨_,hoL,rfl⟩ entry_list_sort ?_ (args_list_sort _)));have fin:∀ out:List Value,(vs.length < 2∧out=vs∨2≤vs.length∧∃ p:List Nat,p.Perm (List.range vs.length)∧(p.Pairwise fun x y=>r x≤r y)∧out=p.map fun i=>vs.getD i Value.none)→Q (.ref h₁.objs.size) { s with heap:=sortedHeap (h₁.push (seqObj "list" vs.toArray 0)) h₁.objs.size vs out.toArray,toks:=tk }:=fun out ho=>by
  obtain⟨e,he⟩:=sortedHeap_at (out:=out.toArray) hoL;refine h out _ e _ tk ho (fun b o q=>?_) fresh he;rw[sortedHeap_old (Nat.ne_of_lt (old q)) (Nat.lt_trans (old q) (Heap.lt_size hoL))];exact k2 b o q
 rcases Nat.lt_or_ge vs.length 2 with h2|h2
 ·exact zec (s:={ s with heap:=h₁.push (seqObj "list" vs.toArray 0),toks:=tk }) hoL h2 ⟨_,rfl,wpAny_pure ⟨_,rfl,fin vs (.inl ⟨h2,rfl⟩)⟩⟩
 ·have k3:∀ b o,s.heap.get? b=some o→(zck (h₁.push (seqObj "list" vs.toArray 0)) h₁.objs.size vs).get? b=some o:=fun b o q=>by
   refine Heap.get?_push_of_some _ (Heap.get?_push_of_some _ ?_);rw[Heap.get?_update_ne _ _ _ _ (Nat.ne_of_lt (old q))];exact k2 b o q
  exact zfx (s:={ s with heap:=h₁.push (seqObj "list" vs.toArray 0),toks:=tk }) hoL h2 hle (fun hq=>hk h2 k3 hq) (fun i j C hi hj hC=>hc h2 i j C _ hi hj k3 hC)
   fun p hp hu=>⟨_,rfl,wpAny_pure ⟨_,rfl,fin _ (.inr ⟨h2,p,hp,hu,rfl⟩)⟩⟩
end
theorem zef {α:Type}{f:V→Option α}:∀ {vs:List V}{L:List (α × V)},keyed f vs=some L→L.length=vs.length∧∀ (i:Nat) (v:V),vs[i]?=some v→∃ a,L[i]?=some (a,v)∧f v=some a
 |[],L,h=>by cases h;exact⟨rfl,fun i v h=>by simp at h⟩
 |v::vs,L,h=>by
  simp only[zfK,zeg,Option.bind_eq_some_iff,Option.map_eq_some_iff] at h;obtain⟨a,ha,L',hL,rfl⟩:=h;obtain⟨h1,h2⟩:=zef hL;refine⟨by simp[h1],fun i w hw=>?_⟩
  cases i with
  |zero=>simp only[List.getElem?_cons_zero,Option.some.injEq] at hw;subst hw;exact⟨a,rfl,ha⟩
  |succ i=>exact h2 i w (by simpa using hw)
theorem zlg {am:Amb}{π:List Addr}{h:Heap}{vs:List V}{xs:List Value}(hv:VRs am π h vs xs):∀ (is:List Nat),(∀ i∈is,i < vs.length)→VRs am π h (is.map fun i=>vs.getD i .none) (is.map fun i=>xs.getD i Value.none)
 |[],_=>rfl
 |i::is,hi=>by
  have h1:=hi i (List.mem_cons_self ..);have e:vs[i]?=some (vs.getD i .none):=by simp[h1]
  obtain⟨x,hx,hvx⟩:=hv.get i _ e;have ex:xs.getD i Value.none=x:=by simp[List.getD_eq_getElem?_getD,hx]
  exact⟨x,_,by rw[List.map_cons,ex],hvx,zlg hv is fun j hj=>hi j (List.mem_cons_of_mem _ hj)⟩
theorem zht {α:Type}(lt:α→α→Bool):∀ (L:List α),L.length < 2→isort lt L=L
 |[],_=>rfl
 |[_],_=>rfl
 |_::_::_,h=>absurd h (by simp)
section
variable {am:Amb}{stack:List Env}{A:Around}{π:List Addr}{s:Shared}{Hc:H}
set_option tactic.hygienic true in
theorem zdP {α:Type} [DecidableEq α] {lt:α→α→Bool}(o:Ord lt){f:V→Option α}{src:Value}{vs ws:List V}{xs:List Value}{L:List (α × V)}{κ:SortKind}(dflt:α)
  (hcol:∀ {E':Value→Shared→Prop}{Q':List Value→Shared→Prop},(∀ h₁ tk,(∀ b o,s.heap.get? b=some o→h₁.get? b=some o)→Q' xs { s with heap:=h₁,toks:=tk })→wpAny am.M A.in1 (collect src) Q' E' s)
  (hv:VRs am π s.heap vs xs) (hL:keyed f vs=some L) (hw:sortBy lt L=some ws)
  (hk:2≤xs.length→∀ {A:Around}{E:Value→Shared→Prop}{s':Shared}{Q:SortKind→Shared→Prop},(∀ b o,s.heap.get? b=some o→s'.heap.get? b=some o)→Q κ s'→wpAny am.M A (keyKind' xs.toArray) Q E s')
  (hc:∀ v x u y a b s',VR am π s.heap v x→VR am π s.heap u y→f v=some a→f u=some b→(∀ b o,s.heap.get? b=some o→s'.heap.get? b=some o)→∀ C:Bool→Shared→Prop,C (lt a b) s'→wpAny am.M A.in1.in1 (keyLt' κ x y) C (fun z_ z_=>False) s')
  {Q:Value→Shared→Prop}{E:Value→Shared→Prop}(h:∀ y s',NewL am π s ws y s'→Q y s'):wpAny am.M A (call (.builtin "sorted") [src]) Q E s:=by
 obtain⟨hlen,hget⟩:=zef hL;have hx:=hv.len;unfold sortBy at hw
 split at hw
 ·rename_i hcond
  simp only[Bool.and_eq_true,decide_eq_true_eq,List.all_eq_true] at hcond;obtain⟨h64,det⟩:=hcond
  cases hw
  have at':∀ i,i < xs.length→∃ v a,vs[i]?=some v∧L[i]?=some (a,v)∧f v=some a∧VR am π s.heap v (xs.getD i Value.none)∧(L.getD i (dflt,.none)).1=a:=fun i hi=>by
   have e:vs[i]?=some (vs.getD i .none):=by
    have:i < vs.length:=hx ▸ hi;simp[this]
   obtain⟨a,e1,e2⟩:=hget i _ e;obtain⟨x,e3,e4⟩:=hv.get i _ e;have ex:xs.getD i Value.none=x:=by simp[List.getD_eq_getElem?_getD,e3]
   exact⟨_,a,e,e1,e2,by rw[ex];exact e4,by simp[List.getD_eq_getElem?_getD,e1]⟩
  refine zdU (κ:=κ) (r:=rank lt (fun i=>(L.getD i (dflt,.none)).1) xs.length) (by rw[hx,← hlen];exact h64) hcol hk ?_ ?_
  ·intro _ i j C s' hi hj k hC
   obtain⟨v,a,_,_,e3,e4,e5⟩:=at' i hi;obtain⟨u,b,_,_,f3,f4,f5⟩:=at' j hj;refine hc v _ u _ a b s' e4 f4 e3 f3 k C ?_;rw[←zjQ o hi hj,e5,f5] at hC;exact hC
  ·intro out a e h' tk ho k fr hg
   refine h _ _ ⟨_,out,h',tk,rfl,rfl,k,fr,⟨_,e,hg,rfl,rfl,rfl⟩,VRs.keeps k (VRs.held fr ?_)⟩
   rcases ho with⟨h2,rfl⟩|⟨_,p,hp,hu,rfl⟩
   ·have:(isort (fun a b=>lt a.1 b.1) L).map (·.2)=vs:=by
     have e:L.map (·.2)=vs:=List.ext_getElem? fun i=>by
      rw[List.getElem?_map]
      cases hvi:vs[i]? with
      |none=>rw[List.getElem?_eq_none (by rw[hlen];simpa using hvi)];rfl
      |some v=>obtain⟨a,e1,_⟩:=hget i v hvi;rw[e1];rfl
     rw[zht _ L (by rw[hlen,← hx];exact h2),e]
    rw[this];exact hv
   ·have exl:xs.length=L.length:=hx.trans hlen.symm
    rw[exl] at hp hu;rw[←zfl o (d:=(dflt,V.none)) (fun p hp q hq=>det p hp q hq) hp hu,List.map_map];have e:=zlg hv p (fun i hi=>by rw[←hlen];exact List.mem_range.1 (hp.mem_iff.1 hi))
    have e2:(p.map ((fun x:α × V=>x.2)∘fun i=>L.getD i (dflt,V.none)))=p.map fun i=>vs.getD i .none:=List.map_congr_left fun i hi=>by
     have:=List.mem_range.1 (hp.mem_iff.1 hi);obtain⟨v,a,e1,e2,_⟩:=at' i (by rw[exl];exact this)
     simp[List.getD_eq_getElem?_getD,e1,e2]
    rw[e2];exact e
 ·cases hw
end
theorem zn2 {x y:Value}{xs ys:List Value}:decide ((x::xs).length < (y::ys).length)=decide (xs.length < ys.length):=decide_eq_decide.2 Nat.succ_lt_succ_iff
theorem zn1 {prog:Program}{w:World}{A:Around}{s:Shared}{Q:Bool→Shared→Prop}{xs:List Value}{is:List Int}(h1:IntsAre xs is):∀ {ys:List Value}{js:List Int}(k:Nat),IntsAre ys js→Q (lexLt is js) s→KatLex prog w A true (decide (xs.length < ys.length)) Q (xs.zip ys) k s:=by
 induction h1 with
 |nil =>
  intro ys js k h2 h
  cases h2 with
  |nil=>exact h
  |cons j u h2=>exact h
 |cons i t h1 ih =>
  intro ys js k h2 h
  cases h2 with
  |nil=>exact h
  |cons j u h2 =>
   rw[zcm] at h;refine kat_cons (wpAny_eqBool_int ?_)
   by_cases e:i=j
   ·rw[if_pos e] at h
    rw[show(i == j)=true from beq_iff_eq.2 e];refine kat_yes ?_;rw[zn2];exact ih (k+1) h2 h
   ·rw[if_neg e] at h
    rw[show(i == j)=false from beq_false_of_ne e];refine kat_no ?_
    cases k with
    |zero=>exact oneLt_int h
    |succ k=>exact kat_one _ _ (lt_int h)
section
variable {am:Amb}{stack:List Env}{A:Around}{π:List Addr}{s:Shared}{Hc:H}
theorem zfM {h:Heap}{v:V}{x:Value}{is:List Int}(hvx:VR am π h v x) (hk:keyT1 v=some is):∃ b o n y ys,x=.ref b∧h.get? b=some o∧o.cls=.type "tuple"∧o.data=.seq (List.toArray (y::ys)) n∧IntsAre (y::ys) is:=by
 cases v with
 |tup us =>
  cases us with
  |nil=>cases hk
  |cons u us =>
   simp only[VR] at hvx;obtain⟨b,ys,rfl,_,⟨o,ho,hc,n,hd⟩,_,hvs⟩:=hvx;have hi:=zcE (show asInts (u::us)=some is from hk) hvs;obtain⟨y,ys',rfl,_⟩:=hvs;exact⟨b,o,n,y,ys',rfl,ho,hc,hd,hi⟩
 |_=>cases hk
theorem zjx {h:Heap}:∀ {vs:List V}{xs:List Value}{L:List (List Int × V)},keyed keyT1 vs=some L→VRs am π h vs xs→∃ fs,KatTups h xs fs∧fs.length=xs.length∧∀ v∈fs,∃ i t,v=.int i t
 |[],xs,L,_,hv=>by simp only[VRs] at hv;subst hv;exact⟨[],trivial,rfl,fun z_ h=>nomatch h⟩
 |v::vs,xs,L,hk,hv=>by
  simp only[zfK,zeg,Option.bind_eq_some_iff,Option.map_eq_some_iff] at hk;obtain⟨a,ha,L',hL,rfl⟩:=hk;obtain⟨x,xs',rfl,hx,hv⟩:=hv;obtain⟨fs,h1,h2,h3⟩:=zjx hL hv;obtain⟨b,o,n,y,ys,rfl,ho,hc,hd,hi⟩:=zfM hx ha;refine⟨y::fs,KatTups.cons ho hc hd rfl h1,congrArg Nat.succ h2,fun v hv=>?_⟩
  rcases List.mem_cons.1 hv with rfl|hv
  ·cases hi;exact⟨_,_,rfl⟩
  ·exact h3 v hv
theorem zgF {h h':Heap}(k:∀ b o,h.get? b=some o→h'.get? b=some o):∀ {xs fs:List Value},KatTups h xs fs→KatTups h' xs fs
 |[],[],_=>trivial
 |[],_::_,t=>t.elim
 |_::_,[],t=>t.elim
 |_::_,_::_,⟨⟨a,o,xs,n,e,ho,r⟩,t⟩=>⟨⟨a,o,xs,n,e,k _ _ ho,r⟩,zgF k t⟩
theorem zhP {α:Type}{f:V→Option α}{vs:List V}{xs:List Value}{L:List (α × V)}{T:Value}{P:Heap→Prop}(hL:keyed f vs=some L) (hv:VRs am π s.heap vs xs)
  (h:∀ v x a,VR am π s.heap v x→f v=some a→∀ h',(∀ b o,s.heap.get? b=some o→h'.get? b=some o)→Looks am.M h' (typeOf x) T):∀ x∈xs,∀ h',(∀ b o,s.heap.get? b=some o→h'.get? b=some o)→Looks am.M h' (typeOf x) T:=fun x hm h' k=>by
 obtain⟨i,hi⟩:=List.mem_iff_getElem?.1 hm;have hlt:=(List.getElem?_eq_some_iff.1 hi).1;rw[hv.len] at hlt;have e:vs[i]?=some vs[i]:=List.getElem?_eq_getElem hlt;obtain⟨k',_,e2⟩:=(zef hL).2 i _ e;obtain⟨y,e3,e4⟩:=hv.get i _ e;rw[hi] at e3;cases e3
 exact h _ _ _ e4 e2 h' k
theorem zf7 {n:Nat}{src:Value}{xs:List Value}{vs ws:List V}(as:AS n stack A) (hr:HR am stack π Hc s.heap)
  (hcol:∀ {E':Value→Shared→Prop}{Q':List Value→Shared→Prop},(∀ h₁ tk,(∀ b o,s.heap.get? b=some o→h₁.get? b=some o)→Q' xs { s with heap:=h₁,toks:=tk })→wpAny am.M A.in1 (collect src) Q' E' s)
  (hv:VRs am π s.heap vs xs) (hs:sortVs Hc vs=some ws){Q:Value→Shared→Prop}{E:Value→Shared→Prop}(h:∀ y s',NewL am π s ws y s'→Q y s'):wpAny am.M A (call (.builtin "sorted") [src]) Q E s:=by
 have hu:(A.in1.in1).units < cLine:=as.uk (k:=2) (by decide)
 unfold sortVs at hs
 cases h1:keyed keyI vs with
 |some L =>
  rw[h1] at hs;refine zdP znS 0 (κ:=oneType') hcol hv h1 hs (fun h2 A' E' s' Q' k hq=>kas_kind (T:=.type "int") h2 (fun v hm=>zhP (P:=fun z_=>True) h1 hv (fun v x a hx hk h' z_=>?_) v hm s'.heap k) rfl rfl hq) (fun v x u y a b s' e1 e2 f1 f2 k C hC=>?_) h
  ·cases v<;>first|(cases hk;done)|skip
   obtain⟨t,rfl⟩:=hx;exact Looks.of_pure rfl
  ·cases v<;>first|(cases f1;done)|skip
   cases u<;>first|(cases f2;done)|skip
   cases f1;cases f2
   obtain⟨t,rfl⟩:=e1;obtain⟨t',rfl⟩:=e2;rw[keyLt'_oneType];exact oneLt_int hC
 |none =>
  rw[h1] at hs
  cases h2:keyed (keyL Hc) vs with
  |some L =>
   rw[h2] at hs;refine zdP zjY [] (κ:=oneType') hcol hv h2 hs (fun h3 A' E' s' Q' k hq=>kas_kind (T:=.type "list") h3 (fun v hm=>zhP (P:=fun z_=>True) h2 hv (fun v x a hx hk h' k=>?_) v hm s'.heap k) rfl rfl hq) (fun v x u y a b s' e1 e2 f1 f2 k C hC=>?_) h
   ·obtain⟨b,ys,rfl,⟨o,ho,hc,r⟩,_⟩:=zcR hr hx hk
    exact fun A' Q' E' s' k' q=>wpAny_typeOf ⟨o,k' _ _ (k _ _ ho),hc⟩ q
   ·obtain⟨l1,ys,rfl,⟨o,ho,r⟩,i1⟩:=zcR hr e1 f1
    obtain⟨l2,zs,rfl,⟨o',ho',r'⟩,i2⟩:=zcR hr e2 f2;exact zi3 hu ⟨o,k _ _ ho,r⟩ ⟨o',k _ _ ho',r'⟩ i1 i2 hC
  |none =>
   rw[h2] at hs
   cases h3:keyed keyT1 vs with
   |some L =>
    rw[h3] at hs;obtain⟨fs,t1,t2,t3⟩:=zjx h3 hv;refine zdP zjY [] (κ:=tuples' true) hcol hv h3 hs (fun h4 A' E' s' Q' k hq=>kat_kind (T:=.type "int") (zgF k t1) (by rw[t2];exact Nat.lt_of_lt_of_le Nat.two_pos h4) (fun v hm=>?_) rfl hq) (fun v x u y a b s' e1 e2 f1 f2 k C hC=>?_) h
    ·obtain⟨i,t,rfl⟩:=t3 v hm
     exact Looks.of_pure rfl
    ·obtain⟨b1,o1,n1,y1,ys1,rfl,ho1,_,hd1,i1⟩:=zfM e1 f1
     obtain⟨b2,o2,n2,y2,ys2,rfl,ho2,_,hd2,i2⟩:=zfM e2 f2;exact kat_lt (k _ _ ho1) hd1 (k _ _ ho2) hd2 (zn1 i1 0 i2 hC)
   |none =>
    rw[h3] at hs;dsimp only at hs
    by_cases hlt:vs.length < 2
    ·rw[if_pos hlt] at hs
     cases hs
     have h2:¬ 2≤xs.length:=by rw[hv.len];exact Nat.not_le.2 hlt
     refine zdU (κ:=oneType') (r:=id) (by rw[hv.len];exact Nat.lt_trans hlt (by decide)) hcol (fun q=>absurd q h2) (fun q=>absurd q h2) fun out a e h' tk ho k fr hg=>?_
     refine h _ _ ⟨_,out,h',tk,rfl,rfl,k,fr,⟨_,e,hg,rfl,rfl,rfl⟩,VRs.keeps k (VRs.held fr ?_)⟩
     rcases ho with⟨_,rfl⟩|⟨q,_⟩
     ·exact hv
     ·exact absurd q h2
    ·rw[if_neg hlt] at hs;cases hs
set_option tactic.hygienic true in
theorem zeS {h:H}{vs ws:List V}(e:sortVs h vs=some ws):ws.length≤1000000:=by
 have by':∀ {α:Type} [DecidableEq α] {lt:α→α→Bool}{L:List (α × V)},sortBy lt L=some ws→ws.length≤1000000:=fun {α _ lt L} e=>by
  unfold sortBy at e
  split at e
  ·rename_i hc
   simp only[Bool.and_eq_true,decide_eq_true_eq] at hc
   cases e
   rw[List.length_map,(zbx L).length_eq];exact Nat.le_trans (Nat.le_of_lt hc.1) (by decide)
  ·cases e
 unfold sortVs at e
 cases h1:keyed keyI vs with
 |some L=>rw[h1] at e;exact by' e
 |none =>
  rw[h1] at e
  cases h2:keyed (keyL h) vs with
  |some L=>rw[h2] at e;exact by' e
  |none =>
   rw[h2] at e
   cases h3:keyed keyT1 vs with
   |some L=>rw[h3] at e;exact by' e
   |none =>
    rw[h3] at e;dsimp only at e
    by_cases hlt:vs.length < 2
    ·rw[if_pos hlt] at e;cases e;exact Nat.le_trans (Nat.le_of_lt hlt) (by decide)
    ·rw[if_neg hlt] at e;cases e
theorem zkY {a:V}{x:Value}{es:List (V × V)}(hr:HR am stack π Hc s.heap) (ha:VR am π s.heap a x) (h:dictOf Hc a=some es):∃ i d o arr ep xs,a=.ref i∧x=.ref d∧π[i]?=some d∧Hc[i]?=some (.dict es)∧DC am π s.heap es d o arr ep xs:=by
 cases a with
 |ref i =>
  simp only[VR] at ha;obtain⟨l,rfl,hi⟩:=ha;simp only[dictOf] at h
  cases hq:Hc[i]? with
  |none=>rw[hq] at h;cases h
  |some c =>
   rw[hq] at h
   cases c with
   |list vs=>cases h
   |dict es' =>
    cases h
    obtain⟨o,arr,ep,xs,D⟩:=(hr.cell i _ l hq hi).dict;exact⟨i,l,o,arr,ep,xs,rfl,rfl,hi,hq,D⟩
 |_=>cases h
theorem zgM {h:Heap}:∀ {es:List (V × V)}{xs:List Value},VRs am π h (es.flatMap fun e=>[e.1,e.2]) xs→VRs am π h (es.map (·.1)) ((ents es xs).map (·.key))
 |[],xs,_=>by cases xs<;>rfl
 |(k',v')::es,xs,r=>by
  rw[List.flatMap_cons] at r;simp only[List.cons_append,List.nil_append,VRs] at r;obtain⟨x,_,rfl,hx,y,xs',rfl,hy,r⟩:=r;exact⟨x,_,rfl,hx,zgM r⟩
theorem zjZ {n:Nat}{a:V}{x:Value}(hh:A.handled=none) (as:AS n stack A) (hr:HR am stack π Hc s.heap) (ha:VR am π s.heap a x) :
  JAt am stack A (call (.builtin "sorted") [x]) (R.opt (bf .sorted Hc a) Hc) (VR am) π s:=by
 show JAt am stack A _ (R.opt ((sitems Hc a).bind fun vs=>(sortVs Hc vs).map .lst) Hc) (VR am) π s;unfold sitems
 cases hd:dictOf Hc a with
 |some es =>
  obtain⟨i,d,o,arr,ep,xs,rfl,rfl,_,_,D⟩:=zkY hr ha hd;dsimp only;rw[Option.bind_some]
  cases hs:sortVs Hc (es.map (·.1)) with
  |none=>exact .inl rfl
  |some ws =>
   have hle:arr.size≤sizeLine:=by
    rw[D.size];have:=D.len;rw[zca] at this;have:=zbB
    omega
   refine .inr (zf7 as hr (fun {E' Q'} q=>D.raw.collect (am:=am) (A:=A.in1) hh D.ho hle q) ?_ hs fun y s' hn=>hn.lst hr (zeS hs));rw[D.arr];exact zgM D.vr
 |none =>
  dsimp only
  cases hi:litems Hc a with
  |none=>exact .inl rfl
  |some vs =>
   rw[Option.bind_some]
   cases hs:sortVs Hc vs with
   |none=>exact .inl rfl
   |some ws =>
    obtain⟨l,xs,rfl,hl,hz,hv⟩:=zaq hr ha hi;have hle:xs.length≤sizeLine:=by rw[hv.len];exact Nat.le_trans hz zbB
    refine .inr (zf7 as hr (fun {E' Q'} q=>collect_list hl (q _ s.toks fun b o hb=>?_) hle) hv hs fun y s' hn=>hn.lst hr (zeS hs));rw[Heap.get?_update_ne _ _ _ _ (Nat.ne_of_lt (Heap.lt_size hb))];exact Heap.get?_push_of_some _ hb
end
section
variable {am:Amb}{stack:List Env}{π:List Addr}{Hc:H}{A:Around}
structure MinAt (am:Amb) (π:List Addr) (Hc:H) (s₀:Shared) (l I S:Addr) (j:Nat) (a:List Int) (v:V) (vb:Value) (h:Heap):Prop where
 keep:∀ b o,s₀.heap.get? b=some o→h.get? b=some o
 iter:h.IsListIter I l j
 best:∃ c,h.get? S=some { cls:=.type "list",dict:=none,data:=.seq #[vb,vb] c,slots:=#[] }
 vr:VR am π s₀.heap v vb
 key:keyL Hc v=some a
theorem zlR {s₀:Shared}{l I S:Addr}{xs:List Value}(hh:A.handled=none) (hu:A.in1.units < cLine) (hr:HR am stack π Hc s₀.heap) (hl:s₀.heap.IsList l xs.toArray) (hI:s₀.heap.get? I=none) (hS:s₀.heap.get? S=none) (hIS:I≠S){R:Result→Shared→Prop} :
  ∀ (rest:List Value) (vr:List V) (L:List (List Int × V)) (j:Nat) (a:List Int) (v:V) (vb:Value) (h:Heap) (tk:Nat),xs.drop j=rest→keyed (keyL Hc) vr=some L→VRs am π s₀.heap vr rest→MinAt am π Hc s₀ l I S j a v vb h →
  (∀ x h' tk,VR am π s₀.heap (zcj a v L) x→(∀ b o,s₀.heap.get? b=some o→h'.get? b=some o)→R (.ok (.ret x)) { s₀ with heap:=h',toks:=tk }) →
  codeAny am.M A (.builtin "min.loop" ⟨[.ref I,.none,.ref S],[]⟩) R { s₀ with heap:=h,toks:=tk }:=by
 have hname:(toString "min"++toString ".loop":String)="min.loop":=by decide
 have nI:∀ b o,s₀.heap.get? b=some o→b≠I:=fun b o e q=>by rw[q,hI] at e;cases e
 have nS:∀ b o,s₀.heap.get? b=some o→b≠S:=fun b o e q=>by rw[q,hS] at e;cases e
 have lst:∀ {h:Heap},(∀ b o,s₀.heap.get? b=some o→h.get? b=some o)→h.IsList l xs.toArray:=fun kk=>by
  obtain⟨o,ho,r⟩:=hl;exact⟨o,kk _ _ ho,r⟩
 intro rest
 induction rest with
 |nil =>
  intro vr L j a v vb h tk hd hL hv M hR;have e0:=hv.len
  cases vr with
  |cons _ _=>simp at e0
  |nil =>
  cases hL
  obtain⟨c,hb⟩:=M.best;refine codeAny_builtin F.entry_min_loop ?_;rw[Around.under_plainId F.plain_min_loop _];show wpAny _ A.in1 (seqItems? (.ref S) >>= _) _ _ _;refine wpAny_bind (wpAny_seqItems hb rfl ?_);show wpAny _ A.in1 (tryCatch (pyNext (.ref I)) _ >>= _) _ _ _;refine wpAny_bind (wpAny_tryCatch (wpAny_pyNext_list_end hh M.iter (lst M.keep) (by simpa using (List.drop_eq_nil_iff.mp hd)) fun h' he=>?_))
  have hS':=he S _ hIS.symm hb;show wpAny _ A.in1 (updateSeq S (fun z_=>#[]) >>= _) _ _ _;refine wpAny_bind (wpAny_updateSeq hS' rfl (wpAny_bind (wpAny_letGo (wpAny_pure ?_))));exact hR vb _ _ M.vr fun b o e=>(Heap.get?_update_other _ _ (nS b o e).symm).trans (he b o (nI b o e) (M.keep b o e))
 |cons x rest ih =>
  intro vr L j a v vb h tk hd hL hv M hR;have e0:=hv.len
  cases vr with
  |nil=>simp at e0
  |cons u vr =>
  simp only[zfK,zeg,Option.bind_eq_some_iff,Option.map_eq_some_iff] at hL;obtain⟨k,hk,L,hL,rfl⟩:=hL;simp only[VRs] at hv;obtain⟨x',rest',e1,hx,hv⟩:=hv
  cases e1
  obtain⟨c,hb⟩:=M.best;have hxj:xs.toArray[j]?=some x:=by
   have:=congrArg List.head? hd
   simpa using this
  have hd':xs.drop (j+1)=rest:=by
   have:=congrArg List.tail hd
   simpa using this
  refine codeAny_builtin F.entry_min_loop ?_;rw[Around.under_plainId F.plain_min_loop _];show wpAny _ A.in1 (seqItems? (.ref S) >>= _) _ _ _;refine wpAny_bind (wpAny_seqItems hb rfl ?_);show wpAny _ A.in1 (tryCatch (pyNext (.ref I)) _ >>= _) _ _ _;refine wpAny_bind (wpAny_tryCatch (wpAny_pyNext_list_item M.iter (lst M.keep) hxj fun h' hit hs=>?_));have k1:∀ b o,s₀.heap.get? b=some o→h'.get? b=some o:=fun b o e=>hs.extBut b o (nI b o e) (M.keep b o e)
  have hS':=hs.extBut S _ hIS.symm hb;show wpAny _ A.in1 (tryCatch (holding [x,x] (richCompare .Lt x vb >>= _)) _ >>= _) _ _ _;refine wpAny_bind (wpAny_tryCatch (wpAny_holding (wpAny_bind (zpP (tk:=tk) hu hr k1 hx M.vr hk M.key ?_))));refine wpAny_bind (wpAny_holding (wpAny_truthy_bool ?_));refine wpAny_bind (wpAny_letGo (wpAny_pure ?_))
  cases hlt:lexLt k a with
  |true =>
   simp only[if_true];refine wpAny_bind (wpAny_updateSeq hS' rfl (wpAny_bind (wpAny_letGo ?_)));rw[hname];refine wpAny_pure ⟨plainId_quiet F.plain_min_loop _,ih vr L (j+1) k u x _ _ hd' hL hv ⟨fun b o e=>(Heap.get?_update_other _ _ (nS b o e).symm).trans (k1 b o e),?_,⟨_,Heap.get?_update_self _ hS' rfl⟩,hx,hk⟩ fun y h2 tk2 hy=>hR y h2 tk2 ?_⟩
   ·obtain⟨o,ho,r⟩:=hit
    exact⟨o,(Heap.get?_update_other _ _ hIS.symm).trans ho,r⟩
   ·rw[zeb,if_pos hlt];exact hy
  |false =>
   simp only[Bool.false_eq_true,if_false];refine wpAny_bind (wpAny_letGo ?_);rw[hname];refine wpAny_pure ⟨plainId_quiet F.plain_min_loop _,ih vr L (j+1) a v vb _ _ hd' hL hv ⟨k1,hit,⟨_,hS'⟩,M.vr,M.key⟩ fun y h2 tk2 hy=>hR y h2 tk2 ?_⟩;rw[zeb,if_neg (by rw[hlt];exact Bool.false_ne_true)];exact hy
variable {s:Shared}
theorem zpt {n:Nat}{a:V}{x:Value}(as:AS n stack A) (hh:A.handled=none) (hr:HR am stack π Hc s.heap) (ha:VR am π s.heap a x) :
  JAt am stack A (call (.builtin "min") [x]) (R.opt (bf .min Hc a) Hc) (VR am) π s:=by
 show JAt am stack A (call (.builtin "min") [x]) (R.opt ((litems Hc a).bind (minVs Hc)) Hc) (VR am) π s
 cases hi:litems Hc a with
 |none=>exact .inl rfl
 |some vs =>
  simp only[Option.bind_some]
  cases hm:minVs Hc vs with
  |none=>exact .inl rfl
  |some w =>
   refine .inr (zf9 fun Q_ E_ kq_ z_=>?_);obtain⟨l,xs,rfl,hl,hz,hv⟩:=zaq hr ha hi
   cases vs with
   |nil=>cases hm
   |cons u vs =>
   simp only[VRs] at hv;obtain⟨x,xs,rfl,hx,hv⟩:=hv;unfold minVs at hm
   cases hL:keyed (keyL Hc) (u::vs) with
   |none=>rw[hL] at hm;cases hm
   |some L =>
   rw[hL] at hm;simp only[zfK,zeg,Option.bind_eq_some_iff,Option.map_eq_some_iff] at hL;obtain⟨k,hk,L',hL,rfl⟩:=hL
   cases hm
   have hname:(toString "min"++toString ".loop":String)="min.loop":=by decide
   have hu:A.in1.units < cLine:=as.uk (k:=1) (by decide)
   refine call_function_tree F.kind_min F.plain_min F.entry_min (F.args_min1 _) ?_;show wpAny _ A.in1 (Builtin.Builtins.bindParams "min" ["key","default"] 0 ⟨[],[]⟩ >>= _) _ _ s;refine wpAny_bind (wpAny_of_eq (show Builtin.Builtins.bindParams "min" ["key","default"] 0 ⟨[],[]⟩=pure [none,none] from rfl) ?_);refine wpAny_bind (wpAny_pure ?_);refine wpAny_bind (wpAny_pyIter_list hl ?_);refine wpAny_bind (wpAny_newObj_type ?_)
   rw[hname];refine wpAny_pure ⟨plainId_quiet F.plain_min_loop _,?_⟩;have k1:∀ b o,s.heap.get? b=some o→(s.heap.push { cls:=.type "list_iterator",data:=.fields #[.ref l,.int 0 0] }).get? b=some o:=fun b o e=>Heap.get?_push_of_some _ e;have hI:=zai s.heap;have hit:(s.heap.push { cls:=.type "list_iterator",data:=.fields #[.ref l,.int 0 0] }).IsListIter s.heap.objs.size l 0:=⟨_,Heap.get?_push_size _ rfl,rfl,rfl⟩
   generalize s.heap.push { cls:=.type "list_iterator",data:=.fields #[.ref l,.int 0 0] }=h1 at k1 hit ⊢
   have k2:∀ b o,h1.get? b=some o→(h1.push { cls:=.type "list",data:=.seq #[] }).get? b=some o:=fun b o e=>Heap.get?_push_of_some _ e;have hS:(h1.push { cls:=.type "list",data:=.seq #[] }).get? h1.objs.size=some { cls:=.type "list",dict:=none,data:=.seq #[] 0,slots:=#[] }:=Heap.get?_push_size _ rfl;have hS0:=zai h1;generalize h1.objs.size=S at hS hS0 ⊢
   generalize h1.push { cls:=.type "list",data:=.seq #[] }=h2 at k2 hS ⊢
   obtain⟨oi,hoi,ri⟩:=id hit;have hIS:s.heap.objs.size≠S:=fun q=>by rw[q,hS0] at hoi;cases hoi
   have hS1:s.heap.get? S=none:=by
    cases hq:s.heap.get? S with
    |none=>rfl
    |some o=>rw[k1 _ _ hq] at hS0;cases hS0
   generalize s.heap.objs.size=I at hI hit hoi hIS ⊢
   refine codeAny_builtin F.entry_min_loop ?_;rw[Around.under_plainId F.plain_min_loop _];show wpAny _ A.in1 (seqItems? (.ref S) >>= _) _ _ _;refine wpAny_bind (wpAny_seqItems hS rfl ?_);show wpAny _ A.in1 (tryCatch (pyNext (.ref I)) _ >>= _) _ _ _;have nI:∀ b o,s.heap.get? b=some o→b≠I:=fun b o e q=>by rw[q,hI] at e;cases e
   have nS:∀ b o,s.heap.get? b=some o→b≠S:=fun b o e q=>by rw[q,hS1] at e;cases e
   have hl2:h2.IsList l (x::xs).toArray:=by
    obtain⟨o,ho,r⟩:=hl;exact⟨o,k2 _ _ (k1 _ _ ho),r⟩
   refine wpAny_bind (wpAny_tryCatch (wpAny_pyNext_list_item (i:=0) ⟨oi,k2 _ _ hoi,ri⟩ hl2 (x:=x) rfl fun h' hit' hs'=>?_));have hS':=hs'.extBut S _ hIS.symm hS;show wpAny _ A.in1 (updateSeq S (fun z_=>#[x,x]) >>= _) _ _ _;refine wpAny_bind (wpAny_updateSeq hS' rfl ?_);rw[hname];refine wpAny_pure ⟨plainId_quiet F.plain_min_loop _,zlR (s₀:=s) (xs:=x::xs) hh hu hr hl hI hS1 hIS xs vs L' 1 k u x _ _ rfl hL hv ⟨fun b o e=>?_,?_,⟨_,Heap.get?_update_self _ hS' rfl⟩,hx,hk⟩ fun y h3 tk3 hy k3=>?_⟩
   ·exact(Heap.get?_update_other _ _ (nS b o e).symm).trans (hs'.extBut b o (nI b o e) (k2 _ _ (k1 b o e)))
   ·obtain⟨o,ho,r⟩:=hit'
    exact⟨o,(Heap.get?_update_other _ _ hIS.symm).trans ho,r⟩
   ·exact kq_ _ _ (OkP.keeps (tk:=tk3) hr k3 (hy.keeps k3))
end
theorem zb6 (g:Nat→Option V):∀ {vs ws:List V},V.mapRefs g vs=some ws→ws.length=vs.length
 |[],ws,h=>by cases h;rfl
 |v::vs,ws,h=>by
  refine hold fun z_ k_=>?_;obtain⟨v',_,j⟩:=Option.bind_eq_some_iff.1 h;obtain⟨ws',h2,rfl⟩:=Option.map_eq_some_iff.1 j;refine k_ ?_;simp[zb6 g h2]
section
variable {am:Amb}{π δ:List Addr}{h:Heap}
mutual
theorem VR.mapRef {g:Nat→Option V}(hg:∀ i a w,(π++δ)[i]?=some a→g i=some w→VR am π h w (.ref a)) :
  ∀ {v v':V}{x:Value},VR am (π++δ) h v x→V.mapRef g v=some v'→VR am π h v' x
 |.undef,_,_,e,_=>e.elim
 |.none,_,_,e,k=>by cases k;exact e
 |.bool _,_,_,e,k=>by cases k;exact e
 |.int _,_,_,e,k=>by cases k;exact e
 |.str _,_,_,e,k=>by cases k;exact e
 |.tup vs,_,x,e,k=>by
  obtain⟨ws,j,rfl⟩:=Option.map_eq_some_iff.1 k;refine hold fun z_ k_=>?_;obtain⟨a,xs,h1,h2,h3,h4,h5⟩:=e;refine k_ ?_;exact⟨a,xs,h1,⟨fun hm=>h2.1 (List.mem_append_left _ hm),h2.2⟩,h3,by rw[zb6 g j];exact h4,VRs.mapRefs hg h5 j⟩
 |.lst vs,_,x,e,k=>by
  obtain⟨ws,j,rfl⟩:=Option.map_eq_some_iff.1 k;refine hold fun z_ k_=>?_;obtain⟨a,xs,h1,h2,h3,h4,h5⟩:=e;refine k_ ?_;exact⟨a,xs,h1,⟨fun hm=>h2.1 (List.mem_append_left _ hm),h2.2⟩,h3,by rw[zb6 g j];exact h4,VRs.mapRefs hg h5 j⟩
 |.ref i,_,x,e,k=>by
  obtain⟨a,rfl,h2⟩:=e;exact hg i a _ h2 k
 |.exc _,_,_,e,_=>e.elim
 |.dct,_,_,e,k=>by
  cases k
  refine hold fun z_ k_=>?_;obtain⟨a,o,es,ep,h1,h2,r⟩:=e;refine k_ ?_;exact⟨a,o,es,ep,h1,⟨fun hm=>h2.1 (List.mem_append_left _ hm),h2.2⟩,r⟩
theorem VRs.mapRefs {g:Nat→Option V}(hg:∀ i a w,(π++δ)[i]?=some a→g i=some w→VR am π h w (.ref a)) :
  ∀ {vs ws:List V}{xs:List Value},VRs am (π++δ) h vs xs→V.mapRefs g vs=some ws→VRs am π h ws xs
 |[],_,_,e,k=>by cases k;exact e
 |v::vs,ws,xs,e,k=>by
  refine hold fun z_ k_=>?_;obtain⟨v',k1,j⟩:=Option.bind_eq_some_iff.1 k;obtain⟨ws',k2,rfl⟩:=Option.map_eq_some_iff.1 j;obtain⟨x,xs',rfl,h1,h2⟩:=e;refine k_ ?_;exact⟨x,xs',rfl,VR.mapRef hg h1 k1,VRs.mapRefs hg h2 k2⟩
end
set_option tactic.hygienic true in
theorem VR.frzAt {stack:List Env}{H':H}(hr:HR am stack (π++δ) H' h) (hres:∀ a∈δ,a ∉ am.res) :
  ∀ (k:Nat) (i:Nat) (a:Addr) (w:V),(π++δ)[i]?=some a→Mine.frzAt k π.length H' i=some w→VR am π h w (.ref a):=by
 have low:∀ i a,(π++δ)[i]?=some a→i < π.length→VR am π h (.ref i) (.ref a):=fun i a h1 h2=>by
  simp only[VR];rw[List.getElem?_append_left h2] at h1;exact⟨a,rfl,h1⟩
 intro k
 induction k with
 |zero =>
  intro i a w h1 h2;rw[zok] at h2
  split at h2
  ·cases h2;exact low i a h1 ‹_›
  ·cases h2
 |succ k ih =>
  intro i a w h1 h2;rw[zen] at h2
  split at h2
  ·cases h2;exact low i a h1 ‹_›
  ·rename_i hi
   split at h2
   ·rename_i vs hv
    simp only[Option.map_eq_some_iff] at h2;obtain⟨ws,h2,rfl⟩:=h2;refine hold fun z_ k_=>?_;obtain⟨xs,h3,h4,h5⟩:=(hr.cell i _ a hv h1).list;refine k_ ?_;simp only[VR];have hd:a∈δ:=by
     rw[List.getElem?_append_right (by omega)] at h1
     exact List.mem_of_getElem? h1
    have hn:=hr.nodup;rw[List.nodup_append] at hn;exact⟨a,xs,rfl,⟨fun hm=>hn.2.2 a hm a hd rfl,hres a hd⟩,h3.is,by rw[zb6 _ h2];exact h4,VRs.mapRefs ih h5 h2⟩
   ·cases h2
mutual
theorem VR.cut {h₀:Heap}:∀ {v:V}{x x₀:Value},VR am (π++δ) h v x→VR am π h₀ v x₀→VR am π h v x
 |.undef,_,_,e,_=>e
 |.none,_,_,e,_=>e
 |.bool _,_,_,e,_=>e
 |.int _,_,_,e,_=>e
 |.str _,_,_,e,_=>e
 |.tup vs,x,x₀,e,f=>by
  simp only[VR] at e f ⊢
  refine hold fun z_ k_=>?_;obtain⟨a,xs,h1,h2,h3,h4,h5⟩:=e;refine k_ ?_;refine hold fun z_ k_=>?_;obtain⟨_,ys,_,_,_,_,f5⟩:=f;refine k_ ?_;exact⟨a,xs,h1,⟨fun hm=>h2.1 (List.mem_append_left _ hm),h2.2⟩,h3,h4,VRs.cut h5 f5⟩
 |.lst vs,x,x₀,e,f=>by
  simp only[VR] at e f ⊢
  refine hold fun z_ k_=>?_;obtain⟨a,xs,h1,h2,h3,h4,h5⟩:=e;refine k_ ?_;refine hold fun z_ k_=>?_;obtain⟨_,ys,_,_,_,_,f5⟩:=f;refine k_ ?_;exact⟨a,xs,h1,⟨fun hm=>h2.1 (List.mem_append_left _ hm),h2.2⟩,h3,h4,VRs.cut h5 f5⟩
 |.ref i,x,x₀,e,f=>by
  simp only[VR] at e f ⊢
  obtain⟨a,h1,h2⟩:=e;obtain⟨b,_,f2⟩:=f;rw[List.getElem?_append_left (List.getElem?_eq_some_iff.mp f2).1] at h2;exact⟨a,h1,h2⟩
 |.exc _,_,_,e,_=>e
 |.dct,_,_,e,_=>by
  simp only[VR] at e ⊢
  refine hold fun z_ k_=>?_;obtain⟨a,o,es,ep,h1,h2,r⟩:=e;refine k_ ?_;exact⟨a,o,es,ep,h1,⟨fun hm=>h2.1 (List.mem_append_left _ hm),h2.2⟩,r⟩
theorem VRs.cut {h₀:Heap}:∀ {vs:List V}{xs xs₀:List Value},VRs am (π++δ) h vs xs→VRs am π h₀ vs xs₀→VRs am π h vs xs
 |[],_,_,e,_=>e
 |v::vs,xs,xs₀,e,f=>by
  simp only[VRs] at e f ⊢
  refine hold fun z_ k_=>?_;obtain⟨x,xs',rfl,h1,h2⟩:=e;refine k_ ?_;refine hold fun z_ k_=>?_;obtain⟨y,ys',rfl,f1,f2⟩:=f;refine k_ ?_;exact⟨x,xs',rfl,VR.cut h1 f1,VRs.cut h2 f2⟩
end
theorem HR.cut {stack:List Env}{Hc H':H}{h₀:Heap}(hr:HR am stack (π++δ) H' h) (hr₀:HR am stack π Hc h₀) (ht:H'.take Hc.length=Hc):HR am stack π Hc h:=by
 refine⟨hr.base,hr.frames,hr₀.len,hr₀.nodup,hr.res,fun a ha=>hr.off a (List.mem_append_left _ ha),fun i c a h1 h2=>?_⟩;have hi:i < Hc.length:=(List.getElem?_eq_some_iff.mp h1).1;have h3:H'[i]?=some c:=by
  have:=congrArg (fun l=>l[i]?) ht;simp only[List.getElem?_take,hi,if_true] at this;rw[this];exact h1
 have h4:(π++δ)[i]?=some a:=by rw[List.getElem?_append_left (by rw[hr₀.len];exact hi)];exact h2
 obtain⟨o,xs,e0,e1,e2,e3⟩:=hr.cell i c a h3 h4;obtain⟨_,ys,_,_,_,f3⟩:=hr₀.cell i c a h1 h2;exact⟨o,xs,e0,e1,e2,e3.cut f3⟩
end
theorem Step.less {Fs π π':List Addr}{s s':Shared}(x:Step Fs π s π' s'):Step Fs π s π s':=⟨x.same,x.ext,[],by simp,by simp⟩
set_option tactic.hygienic true in
theorem JAt.pcall {am:Amb}{stack:List Env}{A:Around}{π:List Addr}{s:Shared}{Hc:H}{m:Sem Value}{r:R V}(hr:HR am stack π Hc s.heap) (h:JAt am stack A m r (VR am) π s):JAt am stack A m (Mine.pcall Hc r) (VR am) π s:=by
 rcases h with rfl|h
 ·exact .inl rfl
 ·cases r with
  |bad=>exact .inl rfl
  |err c H'=>exact .inr (wpAny_mono h (fun a s' h=>by obtain⟨_,_,_,h,_⟩:=h;cases h) fun z_ z_ h=>h)
  |ok v H' =>
   simp only[Mine.pcall]
   split
   ·rename_i ht
    cases hf:frz Hc.length H' v with
    |none=>exact .inl rfl
    |some w =>
     refine .inr (wpAny_mono h (fun a s' h=>?_) fun e s' h=>?_)
     ·refine hold fun z_ k_=>?_
      obtain⟨b,H'',π',h1,h2,h3,h4⟩:=h;refine k_ ?_
      cases h1
      obtain⟨δ,rfl,hδ⟩:=h2.grow;refine⟨w,Hc,π,rfl,h2.less,h3.cut hr ht,?_⟩;rw[←hr.len] at hf;exact VR.mapRef (VR.frzAt h3 (fun a ha hm=>by
       obtain⟨o,ho,_⟩:=hr.res a hm;rw[hδ a ha] at ho;cases ho) 4) h4 hf
     ·exact False.elim h
   ·exact .inl rfl
section
variable {am:Amb}{n:Nat}{q:Bool}{F:Fn}{c:Ck}
theorem spl1 {M:Model}{A:Around}{env:Env}{y:Expr}{Q:List Value→Shared→Prop}{E:Value→Shared→Prop}{s:Shared}(h:wpAny M A (eval y env) (fun v s₁=>Q [v] s₁) E s):wpAny M A (spliced (zap [y] env)) Q E s :=
 Calls.spliced_cons (wpAny_mono h (fun z_ z_ h=>Calls.spliced_nil h) fun z_ z_ x=>x)
theorem spl2 {M:Model}{A:Around}{env:Env}{y z:Expr}{Q:List Value→Shared→Prop}{E:Value→Shared→Prop}{s:Shared}(h:wpAny M A (eval y env) (fun v s₁=>wpAny M A (eval z env) (fun w s₂=>Q [v,w] s₂) E s₁) E s):wpAny M A (spliced (zap [y,z] env)) Q E s :=
 Calls.spliced_cons (wpAny_mono h (fun z_ z_ h=>spl1 h) fun z_ z_ x=>x)
noncomputable def bfVal:Bf→Value
 |.len=>.builtin "len"|.all=>.builtin "all"|.any=>.builtin "any"|.sorted=>.builtin "sorted"|.min=>.builtin "min"|.sum=>.builtin "sum"
 |.list=>.type "list"|.tuple=>.type "tuple"|.int=>.type "int"|.str=>.type "str"|.listRev=>.type "list"|.listRange=>.type "list"
theorem ziB (f:Bf):(bfName f,bfVal f)∈bTab:=by cases f<;>exact zc8 (by kernel_rfl)
theorem Hd.quiet {A:Around}{π Fs:List Addr}{h:Heap}(x:Hd true A π Fs h):A.handled=none:=x
theorem zq0 {f:Bf}{am:Amb}{stack:List Env}{A:Around}{π:List Addr}{s:Shared}{Hc:H}{a:V}{x:Value}{n:Nat}(as:AS n stack A) (hf:f.ready=true) (h0:f≠.listRev∧f≠.listRange) (hq:f.walks=true→A.handled=none) (hr:HR am stack π Hc s.heap) (ha:VR am π s.heap a x) :
  JAt am stack A (PySem.call (bfVal f) [x]) (R.opt (bf f Hc a) Hc) (VR am) π s:=by
 cases f with
 |len=>exact zpv hr ha
 |list=>exact znT hr ha
 |tuple=>exact zlH hr ha
 |int=>exact zpz hr ha
 |all=>exact zpD (hq rfl) hr ha
 |listRev=>exact absurd rfl h0.1
 |sorted=>exact zjZ (hq rfl) as hr ha
 |min=>exact zpt as (hq rfl) hr ha
 |listRange=>exact absurd rfl h0.2
 |_=>cases hf
set_option tactic.hygienic true in
theorem zrn {f:Bf}{a:PE}{y:Expr}{p p':Pos}(h0:f≠.listRev∧f≠.listRange) (hx:c.glob (bfName f)=true) (hy:isStar y=false) (ha:EJ am n q F c a y):EJ am n q F c (.bf f a) (.Call (.Name (bfName f) p) [y] [] p'):=fun {cx ρ A res π Hc s} B st=>by
 simp only[zb0,zbZ,zbP,zbO,zbN,zbY,zbz,zbX,zbM,zaU,zaE,zaT,zaj,zaD,zaK,zaC,zaS,zak,zas,zaB,zaJ,zaR,zaQ,zaA,zaP,zaz,zan,zay,zaO,zaI,zax,zaN,zaH,qE_34,zaM,zaw,zaG,zav]
 split
 ·exact .inl rfl
 ·rename_i hq
  simp only[Bool.or_eq_true,Bool.and_eq_true,Bool.not_eq_true',not_or,not_and,Bool.not_eq_false] at hq;refine JT.at (T:=fun Q E s=>wpAny am.M A (eval y cx.env) (fun v s₁=>wpAny am.M A (PySem.call (bfVal f) [v]) Q E s₁) E s) (JT.bind (fun z_=>PT.wp _ _) (ha B st) fun x v H1 π1 s1 z_ hs1 hr1 hv1=>JAt.pt ?_)
   fun Q E h=>zaF B st.hr hx (ziB f) (by simpa using hy) (spl1 h)
  refine zq0 B.as hq.2 h0 (fun hw=>?_) hr1 hv1
  cases q with
  |false=>exact absurd hw (by simpa using hq.1)
  |true=>exact Hd.quiet st.hd
theorem zkM {a:PE}{y:Expr}{p p':Pos}(hx:c.glob (bfName .list)=true) (hy:isStar y=false) (ha:EJ am n q F c a y):FJ am n q F c (.bf .list a) (.Call (.Name (bfName .list) p) [y] [] p'):=fun {cx ρ A res π Hc s} B st=>by
 have e:evE q F ρ (.bf .list a) Hc=(evE q F ρ a Hc).bind fun x h=>R.opt (bf .list h x) h:=by
  simp only[zb0,zbZ,zbP,zbO,zbN,zbY,zbz,zbX,zbM,zaU,zaE,zaT,zaj,zaD,zaK,zaC,zaS,zak,zas,zaB,zaJ,zaR,zaQ,zaA,zaP,zaz,zan,zay,zaO,zaI,zax,zaN,zaH,qE_34,zaM,zaw,zaG,zav,Bf.ready,Bf.walks];simp
 rw[e];refine JF.rule (T:=fun Q E s=>wpAny am.M A (eval y cx.env) (fun v s₁=>wpAny am.M A (PySem.call (.type "list") [v]) Q E s₁) E s) (JF.bind (fun z_=>PT.wp _ _) (ha B st) fun x v H1 π1 s1 z_ hs1 hr1 hv1=>?_)
   fun Q E h=>zaF B st.hr hx (ziB .list) (by simpa using hy) (spl1 h)
 unfold bf;dsimp only
 cases hi:items H1 v with
 |none=>exact .inl rfl
 |some vs =>
  obtain⟨xs,hz⟩:∃ xs:List Value,vs.length≤1000000:=⟨[],by
   rcases zc4 hr1 hv1 hi with⟨l,xs,h⟩
   rcases h with⟨_,h⟩
   first|exact h.2.1|exact h.1|omega⟩
  exact .inr (zjn (am:=am.at res) hr1 hv1 hi fun y s' h=>FrP.new rfl (.refl ..) hr1 hz h)
set_option tactic.hygienic true in
theorem zm5 {a:PE}{y:Expr}{p p' p2 p2':Pos}(hx:c.glob (bfName .list)=true) (hx2:c.glob "reversed"=true) (hy:isStar y=false) (ha:EJ am n q F c a y) :
  FJ am n q F c (.bf .listRev a) (.Call (.Name (bfName .listRev) p) [.Call (.Name "reversed" p2) [y] [] p2'] [] p'):=fun {cx ρ A res π Hc s} B st=>by
 simp only[zb0,zbZ,zbP,zbO,zbN,zbY,zbz,zbX,zbM,zaU,zaE,zaT,zaj,zaD,zaK,zaC,zaS,zak,zas,zaB,zaJ,zaR,zaQ,zaA,zaP,zaz,zan,zay,zaO,zaI,zax,zaN,zaH,qE_34,zaM,zaw,zaG,zav]
 split
 ·exact .inl rfl
 ·rename_i hq
  have hq':q=true:=by cases q<;>simp[Bf.walks] at hq ⊢
  subst hq';have hh:=Hd.quiet st.hd;refine JF.rule (T:=fun Q E s=>wpAny am.M A (eval y cx.env) (fun v s₁=>wpAny am.M A (PySem.call (.type "reversed") [v]) (fun i s₂=>wpAny am.M A (PySem.call (.type "list") [i]) Q E s₂) E s₁) E s)
   (JF.bind (fun z_=>PT.seq _ _ fun z_=>PT.wp _ _) (ha B st) fun x v H1 π1 s1 z_ hs1 hr1 hv1=>?_)
   fun Q E h=>zaF B st.hr hx (ziB .listRev) (fun z hz=>by rw[List.mem_singleton.mp hz];rfl) (spl1 (zaF B st.hr hx2 (zc8 (by kernel_rfl)) (by simpa using hy) (spl1 h)))
  unfold bf;dsimp only
  cases hi:litems H1 v with
  |none=>exact .inl rfl
  |some vs =>
   refine hold fun z_ k_=>?_;obtain⟨l,xs,_,_,hz,_⟩:=zaq hr1 hv1 hi;refine k_ ?_;exact .inr (ziE (am:=am.at res) hh hr1 hv1 hi fun y s' h=>FrP.new rfl (.refl ..) hr1 (by simpa using hz) h)
end
section
variable {am:Amb}{n:Nat}{q:Bool}{F:Fn}{c:Ck}
noncomputable def lonly (o:Option V):Option V:=match o with
 |some (.lst vs)=>some (.lst vs)
 |_=>Option.none
theorem znQ {op:Bop}{a b:PE}{l r:Expr}{p:Pos}(ha:EJ am n q F c a l) (hb:EJ am n q F c b r)
  (key:∀ {cx:Cx}{A:Around}{res π:List Addr}{H2:H}{s:Shared}{v w:V}{x y:Value},HR (am.at res) cx.stack π H2 s.heap→VR (am.at res) π s.heap v x→VR (am.at res) π s.heap w y→JF (am.at res) cx.stack (fun Q E s=>wpAny am.M A (binaryOp (bopM op) x y) Q E s) (R.opt (lonly (pyBin op H2 v w)) H2) π s):EJ am n q F c (.own (.bin op a b)) (.BinOp l (bopM op) r p):=fun {cx ρ A res π Hc s} B st=>by
 have e:evE q F ρ (.own (.bin op a b)) Hc=((evE q F ρ a Hc).bind fun x h=>(evE q F ρ b h).bind fun y h=>R.opt (lonly (pyBin op h x y)) h).bind fun x h=>match x with|.lst vs=>.ok (.ref h.length) (h++[.list vs])|_=>.bad:=by
  simp only[zb0,zbZ,zbP,zbO,zbN,zbY,zbz,zbX,zbM,zaU,zaE,zaT,zaj,zaD,zaK,zaC,zaS,zak,zas,zaB,zaJ,zaR,zaQ,zaA,zaP,zaz,zan,zay,zaO,zaI,zax,zaN,zaH,qE_34,zaM,zaw,zaG,zav]
  cases evE q F ρ a Hc with
  |ok v h =>
   simp only[R.bind_ok]
   cases evE q F ρ b h with
   |ok w h =>
    simp only[R.bind_ok]
    cases pyBin op h v w with
    |none=>rfl
    |some u=>cases u<;>rfl
   |_=>rfl
  |_=>rfl
 rw[e];exact JF.cell (T:=fun Q E s=>wpAny am.M A (eval l cx.env) (fun v s₁=>wpAny am.M A (eval r cx.env) (fun w s₂=>wpAny am.M A (binaryOp (bopM op) v w) Q E s₂) E s₁) E s)
  (JF.bind (fun z_=>PT.seq _ _ fun z_=>PT.wp _ _) (ha B st) fun x v H1 π1 s1 z_ hs1 hr1 hv1=>JF.bind (fun z_=>PT.wp _ _) (hb B (st.step hs1 hr1)) fun y w H2 π2 s2 z_ hs2 hr2 hv2=>key hr2 (hv1.step hs2) hv2)
  fun Q E h=>wpAny_BinOp h
set_option tactic.hygienic true in
theorem znR {a b:PE}{l r:Expr}{p:Pos}(ha:EJ am n q F c a l) (hb:EJ am n q F c b r):EJ am n q F c (.own (.bin .add a b)) (.BinOp l .Add r p):=znQ (op:=.add) ha hb fun {cx A res π H2 s v w x y} hr hv hw=>by
 show JF _ _ _ (R.opt (lonly (pyAdd H2 v w)) H2) _ _
 rcases zd3 H2 v w with h|⟨i,k⟩|⟨i,k⟩|⟨vs,ws,la,lb,h⟩
 ·rw[h];exact .inl rfl
 ·exact .inl rfl
 ·first
  |exact .inl rfl
  |refine .inl ?_
   show R.opt (lonly (mkT (i++k))) H2=.bad;unfold mkT
   split<;>rfl
 ·rw[h]
  unfold mkL
  split
  ·rename_i hle
   exact .inr (zdQ (am:=am.at res) hr hv hw la lb hle fun y s' h=>FrP.new rfl (.refl ..) hr hle h)
  ·exact .inl rfl
theorem zoV {cx:Cx}{ρ:List V}{A:Around}{res π:List Addr}{Hc:H}{s:Shared}(B:Base am n q F c cx ρ A) (hr:HR (am.at res) cx.stack π Hc s.heap){t:Ty}{x:Expr}{Q:Value→Shared→Prop}{E:Value→Shared→Prop}(hp:tyPl t=true) (hk:ckTy c t x=true) (h:Q (tyVal t) s) :
  wpAny am.M A (eval x cx.env) Q E s:=by
 obtain⟨p,rfl,hk'⟩:=ziv hk;refine zoW B hr hk' ?_ h
 cases t<;>first|exact noB hp|exact zc8 (by kernel_rfl)
theorem zmC {cx:Cx}{ρ:List V}{A:Around}{res π:List Addr}{Hc:H}{s:Shared}(B:Base am n q F c cx ρ A) (hr:HR (am.at res) cx.stack π Hc s.heap):∀ {ts:List Ty}{xs:List Expr}{Q:List Value→Shared→Prop}{E:Value→Shared→Prop},ts.all tyPl=true→ckTys c ts xs=true→Q (ts.map tyVal) s →
  wpAny am.M A (spliced (zap xs cx.env)) Q E s
 |[],[],Q,E,_,_,h=>Calls.spliced_nil h
 |t::ts,x::xs,Q,E,hp,hk,h=>by
  simp only[List.all_cons,Bool.and_eq_true] at hp;have hk:=Bool.and_eq_true_iff.1 hk;exact Calls.spliced_cons (zoV B hr hp.1 hk.1 (zmC B hr hp.2 hk.2 h))
 |[],_::_,_,_,_,hk,_=>absurd hk Bool.false_ne_true
 |_::_,[],_,_,_,hk,_=>absurd hk Bool.false_ne_true
theorem zfh:∀ {ts:List Ty}{xs:List Expr},ckTys c ts xs=true→∀ x∈xs,isStar x=false
 |[],[],_=>by simp
 |t::ts,x::xs,hk=>by
  have hk:=Bool.and_eq_true_iff.1 hk;intro y hy
  rcases List.mem_cons.mp hy with rfl|hy
  ·obtain⟨p,rfl,_⟩:=ziv hk.1;rfl
  ·exact zfh hk.2 y hy
 |[],_::_,hk=>absurd hk Bool.false_ne_true
 |_::_,[],hk=>absurd hk Bool.false_ne_true
theorem zeQ {t:Ty}(h:tyPl t=true):t.plain=true:=by cases t<;>first|rfl|(simp[tyPl] at h;done)
theorem zlm {ts:List Ty}(h:ts.all tyPl=true):ts.all Ty.plain=true:=by
 simp only[List.all_eq_true] at h ⊢;exact fun t ht=>zeQ (h t ht)
theorem zkS {a:PE}{t:Ty}{y x:Expr}{p p':Pos}(hx:c.glob "isinstance"=true) (hp:tyPl t=true) (hk:ckTy c t x=true) (hy:isStar y=false) (ha:EJ am n q F c a y) :
  EJ am n q F c (.isinst a [t]) (.Call (.Name "isinstance" p) [y,x] [] p'):=fun {cx ρ A res π Hc s} B st=>by
 simp only[zb0,zbZ,zbP,zbO,zbN,zbY,zbz,zbX,zbM,zaU,zaE,zaT,zaj,zaD,zaK,zaC,zaS,zak,zas,zaB,zaJ,zaR,zaQ,zaA,zaP,zaz,zan,zay,zaO,zaI,zax,zaN,zaH,qE_34,zaM,zaw,zaG,zav];refine JT.at (T:=fun Q E s=>wpAny am.M A (eval y cx.env) (fun v s₁=>wpAny am.M A (eval x cx.env) (fun w s₂=>wpAny am.M A (PySem.call (.builtin "isinstance") [v,w]) Q E s₂) E s₁) E s)
  (JT.bind (fun z_=>PT.seq _ _ fun z_=>PT.wp _ _) (ha B st) fun z v H1 π1 s1 z_ hs1 hr1 hv1=>?_)
  fun Q E h=>zaF B st.hr hx (zc8 (by kernel_rfl)) (by intro z hz;rcases List.mem_cons.mp hz with rfl|hz;exact hy;exact zfh (c:=c) (ts:=[t]) (xs:=[x]) (Bool.and_eq_true_iff.2 ⟨hk,rfl⟩) z hz) (spl2 h)
 refine JT.rule (JAt.pt (zpx (A:=A) (am:=am.at res) B.ok.K hr1 hv1 (zeQ hp))) fun Q E h=>?_;exact zoV B hr1 hp hk h
theorem zoR {a:PE}{ts:List Ty}{y:Expr}{xs:List Expr}{k:Nat}{p p' p2:Pos}(hx:c.glob "isinstance"=true) (hp:ts.all tyPl=true) (hk:ckTys c ts xs=true) (hts:ts≠[]) (hl:ts.length≤1000) (hy:isStar y=false) (ha:EJ am n q F c a y) :
  EJ am n q F c (.isinst a ts) (.Call (.Name "isinstance" p) [y,.Tuple xs k p2] [] p'):=fun {cx ρ A res π Hc s} B st=>by
 simp only[zb0,zbZ,zbP,zbO,zbN,zbY,zbz,zbX,zbM,zaU,zaE,zaT,zaj,zaD,zaK,zaC,zaS,zak,zas,zaB,zaJ,zaR,zaQ,zaA,zaP,zaz,zan,zay,zaO,zaI,zax,zaN,zaH,qE_34,zaM,zaw,zaG,zav];refine JT.at (T:=fun Q E s=>wpAny am.M A (eval y cx.env) (fun v s₁=>wpAny am.M A (eval (.Tuple xs k p2) cx.env) (fun w s₂=>wpAny am.M A (PySem.call (.builtin "isinstance") [v,w]) Q E s₂) E s₁) E s)
  (JT.bind (fun z_=>PT.seq _ _ fun z_=>PT.wp _ _) (ha B st) fun z v H1 π1 s1 z_ hs1 hr1 hv1=>?_)
  fun Q E h=>zaF B st.hr hx (zc8 (by kernel_rfl)) (by intro z hz;rcases List.mem_cons.mp hz with rfl|hz;exact hy;rw[List.mem_singleton.mp hz];rfl) (spl2 h)
 let o:Obj:={ cls:=.type "tuple",data:=.seq (ts.map tyVal).toArray }
 have kk:∀ b o',s1.heap.get? b=some o'→(s1.heap.push o).get? b=some o':=fun b o' q=>Heap.get?_push_of_some _ q;have stp:Step (Fs cx.stack) π1 s1 π1 { s1 with heap:=s1.heap.push o }:=Step.keeps (tk:=s1.toks) kk
 have base:=znV (A:=A) (am:=am.at res) (s:={ s1 with heap:=s1.heap.push o }) (ts:=ts) (tp:=s1.heap.objs.size) (n:=0) (dd:=none) (sl:=#[]) B.ok.K (hr1.keeps kk) (hv1.keeps kk) (zlm hp) hts (Heap.get?_push_size _ rfl)
 rcases base with h|h
 ·exact .inl h
 ·refine .inr ?_
  rw[arm_eval_Tuple,zad _ (zfh hk)];refine wpAny_bind (wpAny_standAt (wpAny_bind (zmC B hr1 hp hk ?_)));exact wpAny_newTuple (wpAny_mono h (fun z_ z_ y=>OkP.step stp y) fun z_ z_ y=>ErP.step stp y) (by simp[sizeLine];omega)
theorem zot {k:Bool}{f:String}{es:List PE}{x:Expr}{xs:List Expr}{p p':Pos}(hx:c.glob (Str.ofString f)=true) (hf:f∈c.fns) (h:AllJ am n q F c es (x::xs)) :
  EJ am n q F c (.call k f es) (.Call (.Name (Str.ofString f) p) (x::xs) [] p'):=fun {cx ρ A res π Hc s} B st=>by
 simp only[zb0,zbZ,zbP,zbO,zbN,zbY,zbz,zbX,zbM,zaU,zaE,zaT,zaj,zaD,zaK,zaC,zaS,zak,zas,zaB,zaJ,zaR,zaQ,zaA,zaP,zaz,zan,zay,zaO,zaI,zax,zaN,zaH,qE_34,zaM,zaw,zaG,zav];obtain⟨a,fa⟩:=B.ck.fns f hf;refine hold fun z_ k_=>?_;obtain⟨ga,o,fd,ho,hd⟩:=id fa;refine k_ ?_;refine JAt.seqP (m:=spliced (zap (x::xs) cx.env)) (f:=fun vs=>PySem.call (.ref a) vs []) (P:=fun z_ s₁=>s₁.heap.get? a=some o∧o.data=.func fd) (fun Q E h'=>?_) (h.args B st) fun ys vs H1 π1 s1 z_ hs1 hr1 hv1=>⟨⟨hr1.base a o ho,hd⟩,?_⟩
 ·refine wpAny_Call_Name_kw (zjo B st.hr hx ga ?_)
  rw[zad _ h.stars];exact Calls.callWith_function (o:=o) (fd:=fd) (Calls.evalArgs_plain h')
 ·have J:=B.fn.call res q f a vs ys cx.stack A π1 H1 s1 fa B.as hr1 st.hd hv1
  cases k with
  |true=>exact J
  |false=>exact JAt.pcall hr1 J
end
theorem PL.update {h:Heap}{l:Addr}{xs:List Value}(pl:PL h l xs) (f:Array Value→Array Value):PL (h.update l (Obj.mapSeq f)) l (f (List.toArray xs)).toList:=by
 refine hold fun z_ k_=>?_;obtain⟨o,n,ho,hc,hdi,hd⟩:=pl;refine k_ ?_;obtain⟨n',hd'⟩:=Obj.data_mapSeq hd f;refine⟨_,n',Heap.get?_update_self _ ho (Obj.isFreed_of_seq hd'),(Obj.cls_mapSeq ..).trans hc,?_,by simpa using hd'⟩
 refine hold fun z_ k_=>?_;obtain⟨c,d,dt,sl⟩:=o;refine k_ ?_;simp only at hd hdi;subst hd hdi
 rfl
theorem zbw {h h' base:Heap}{l:Addr}(k:∀ b o,b≠l→h.get? b=some o→h'.get? b=some o) (hl:∃ o,h'.get? l=some o∧∀ us,o.data≠.fields us) :
  ∀ {st:List Env},h.FunFrames base st→h'.FunFrames base st
 |[],_=>trivial
 |e::st,x=>by
  refine hold fun z_ k_=>?_;obtain⟨h1,⟨L,o,h2,h3,h4,h5⟩,h6⟩:=x;refine k_ ?_;refine⟨h1,?_,zbw k hl h6⟩
  by_cases hL:L=l
  ·subst hL
   obtain⟨o',h7,h8⟩:=hl;exact⟨L,o',h2,h3,h7,h8⟩
  ·exact⟨L,o,h2,h3,k L o hL h4,h5⟩
theorem zcA {π:List Addr}{i:Nat}{l:Addr}(h:π[i]?=some l):l∈π:=List.mem_of_getElem? h
theorem zmT {π:List Addr}(hn:π.Nodup){i j:Nat}{l:Addr}(h1:π[i]?=some l) (h2:π[j]?=some l):i=j:=by
 exact(List.getElem?_inj (List.getElem?_eq_some_iff.mp h1).1 hn).mp (h1.trans h2.symm)
theorem HR.put {am:Amb}{stack:List Env}{π:List Addr}{Hc:H}{s:Shared}(hr:HR am stack π Hc s.heap){i:Nat}{l:Addr}(hi:π[i]?=some l){vs:List V}{xs:List Value}(hz:vs.length≤1000000){h':Heap}{tk:Nat}
  (k:∀ b o,b≠l→s.heap.get? b=some o→h'.get? b=some o) (pl:PL h' l xs) (hv:VRs am π s.heap vs xs) :
  Step (Fs stack) π s π { s with heap:=h',toks:=tk }∧HR am stack π (Hc.set i (.list vs)) h':=by
 have hl:=zcA hi;have nf:∃ o,h'.get? l=some o∧∀ us,o.data≠.fields us:=by
  refine hold fun z_ k_=>?_;obtain⟨o,n,ho,_,_,hd⟩:=pl;refine k_ ?_;exact⟨o,ho,fun us q=>by rw[hd] at q;cases q⟩
 have st:Step (Fs stack) π s π { s with heap:=h',toks:=tk }:=by
  refine⟨⟨h',tk,rfl⟩,⟨fun a o e h1 z_=>k a o (fun q=>h1 (q ▸ hl)) e,fun a o e h1=>⟨o.slots,k a o (fun q=>h1 (q ▸ hl)) e⟩,fun a o e=>?_⟩,[],by simp,by simp⟩
  by_cases ha:a=l
  ·subst ha;obtain⟨o,ho,_⟩:=nf;exact⟨o,ho⟩
  ·exact⟨o,k a o ha e⟩
 refine⟨st,⟨fun a o e=>?_,zbw k nf hr.frames,by simp[hr.len],hr.nodup,fun a ha=>?_,hr.off,fun j c a h1 h2=>?_⟩⟩
 ·exact k a o (fun q=>by subst q;rw[(hr.off a hl).1] at e;cases e) (hr.base a o e)
 ·by_cases hq:a=l
  ·subst hq;exact nf
  ·obtain⟨o,ho,hd⟩:=hr.res a ha
   exact⟨o,k a o hq ho,hd⟩
 ·by_cases hj:j=i
  ·subst hj
   have hlt:j < Hc.length:=by rw[←hr.len];exact(List.getElem?_eq_some_iff.mp hi).1
   rw[List.getElem?_set_self hlt] at h1
   cases h1
   rw[hi] at h2;cases h2
   exact .ofList pl hz (hv.step st)
  ·rw[List.getElem?_set_ne (Ne.symm hj)] at h1
   have hne:a≠l:=fun q=>hj (zmT hr.nodup (q ▸ h2) hi);exact(hr.cell j c a h1 h2).via st.via fun o e z_=>⟨o.slots,k a o hne e⟩
theorem PT.and {γ:Type}{P:Shared→Prop}{T:PT γ}(h:PT.Mono T):PT.Mono (fun Q E s=>P s∧T Q E s):=fun Q Q' E E' s h1 h2 x=>⟨x.1,h Q Q' E E' s h1 h2 x.2⟩
section
variable {am:Amb}{stack:List Env}{A:Around}{π:List Addr}{s:Shared}{Hc:H}
set_option tactic.hygienic true in
theorem zb7 {a:V}{x:Value}(hr:HR am stack π Hc s.heap) (ha:VR am π s.heap a x) (hc:lcell Hc a=true) :
  ∃ i l vs xs,a=.ref i∧x=.ref l∧π[i]?=some l∧Hc[i]?=some (.list vs)∧PL s.heap l xs∧vs.length≤1000000∧VRs am π s.heap vs xs:=by
 cases a with
 |ref i =>
  simp only[lcell] at hc;simp only[VR] at ha;obtain⟨l,rfl,hl⟩:=ha
  split at hc
  ·rename_i vs hv
   refine hold fun z_ k_=>?_;obtain⟨xs,h1,h2,h3⟩:=(hr.cell i _ l hv hl).list;refine k_ ?_;exact⟨i,l,vs,xs,rfl,rfl,hl,hv,h1,h2,h3⟩
  ·cases hc
 |_=>simp[lcell] at hc
theorem zbf {a:V}{f:List V→Option (V × List V)}(h:lcell Hc a=false):onList Hc a f=.bad:=by
 cases a with
 |ref i =>
  simp only[lcell,onList] at h ⊢
  cases hq:Hc[i]? with
  |none=>rfl
  |some c=>cases c with
   |list vs=>rw[hq] at h;cases h
   |dict es=>rfl
 |_=>rfl
set_option tactic.hygienic true in
theorem zj6 {a b:V}{x y:Value}(hr:HR am stack π Hc s.heap) (ha:VR am π s.heap a x) (hb:VR am π s.heap b y) :
  JAt am stack A (PySem.call (.builtin "list.append") [x,y]) (onList Hc a fun vs=>some (.none,vs++[b])) (VR am) π s:=by
 cases hc:lcell Hc a with
 |false=>exact .inl (zbf hc)
 |true =>
  refine hold fun z_ k_=>?_;obtain⟨i,l,vs,xs,rfl,rfl,hi,hH,pl,hz,hv⟩:=zb7 hr ha hc;refine k_ ?_;simp only[onList,hH]
  split
  ·rename_i hle
   refine hold fun z_ k_=>?_;obtain⟨o,n,ho,hcl,hdi,hd⟩:=id pl;refine k_ ?_;refine .inr (wpAny_call_entry slot_list_append pl.is.typeIs entry_list_append ?_ (args_list_append _ _));show wpAny _ _ (updateSeq l (·.push y) >>= fun z_=>ret .none) _ _ s;refine wpAny_bind ?_;have e:=hv.len;refine wpAny_updateSeq ho hd (wpAny_pure ⟨.none,rfl,?_⟩) (hz:=by rw[List.size_toArray,e];exact za7 hz)
   have pl':=pl.update (·.push y);have hp:=HR.put (tk:=s.toks) hr hi hle (xs:=xs++[y]) (h':=s.heap.update l (Obj.mapSeq (·.push y))) (fun b o h1 h2=>(Heap.SameBut.update ..).extBut b o h1 h2) (by simpa using pl') (hv.append (.single hb))
   exact⟨.none,_,π,rfl,hp.1,hp.2,rfl⟩
  ·exact .inl rfl
end
section
variable {am:Amb}{n:Nat}{q:Bool}{F:Fn}{c:Ck}
set_option tactic.hygienic true in
theorem zhD {o:Expr}{name:Str}{env:Env}(h:okBase o=true):attributeBase o name env (eval o env)=eval o env:=by
 cases o<;>first|rfl|skip
 rename_i f xs ks p
 cases xs with
 |nil=>exact noB h
 |cons x xs=>cases f<;>rfl
set_option tactic.hygienic true in
theorem zdj {e:PE}{o a:PE}{v y:Expr}{name:Str}{id:String}{p p':Pos}{g:V→V→H→R V}(hb:okBase v=true) (hl:(p.endLine == p'.line)=true) (hy:isStar y=false) (slot:Slot "list" name id) (hty:typeOf (.builtin id)=pure (.type "method_descriptor"))
  (ho:EJ am n q F c o v) (ha:EJ am n q F c a y) (he:∀ ρ Hc,evE q F ρ e Hc=(evE q F ρ o Hc).bind fun x h=>if lcell h x then(evE q F ρ a h).bind fun y h=>g x y h else .bad)
  (op:∀ {res:List Addr}{stack:List Env}{A:Around}{π:List Addr}{s:Shared}{Hc:H}{a b:V}{x y:Value},AS n stack A→HR (am.at res) stack π Hc s.heap→VR (am.at res) π s.heap a x→VR (am.at res) π s.heap b y→JAt (am.at res) stack A (PySem.call (.builtin id) [x,y]) (g a b Hc) (VR (am.at res)) π s) :
  EJ am n q F c e (.Call (.Attribute v name p) [y] [] p'):=fun {cx ρ A res π Hc s} B st=>by
 rw[he];have hst:∀ z∈[y],isStar z=false:=by simpa using hy
 refine JT.at (T:=fun Q E s=>wpAny am.M A (eval v cx.env) (fun ov s₁=>(s₁.TypeIs ov "list"∧(∀ a,ov=.ref a→∃ ob,s₁.heap.get? a=some ob∧ob.dict=none))∧wpAny am.M A (eval y cx.env) (fun w s₂=>wpAny am.M A (PySem.call (.builtin id) [ov,w]) Q E s₂) E s₁) E s)
  (JT.bind (fun z_=>PT.and (PT.seq _ _ fun z_=>PT.wp _ _)) (ho B st) fun x u H1 π1 s1 z_ hs1 hr1 hv1=>?_) fun Q E h=>?_
 ·split
  ·rename_i hc
   refine hold fun z_ k_=>?_;obtain⟨i,l,vs,xs,rfl,rfl,hi,hH,pl,hz,hv⟩:=zb7 hr1 hv1 hc;refine k_ ?_;have J:JT (am.at res) cx.stack (fun Q E s=>wpAny am.M A (eval y cx.env) (fun w s₂=>wpAny am.M A (PySem.call (.builtin id) [.ref l,w]) Q E s₂) E s) ((evE q F ρ a H1).bind fun y h=>g (.ref i) y h) (VR (am.at res)) π1 s1 :=
    JT.bind (fun z_=>PT.wp _ _) (ha B (st.step hs1 hr1)) fun w u H2 π2 s2 z_ hs2 hr2 hv2=>JAt.pt (op B.as hr2 (hv1.step hs2) hv2)
   exact J.rule fun Q E h=>⟨⟨pl.is.typeIs,fun a e=>by cases e;obtain⟨o,n,ho,_,hd,_⟩:=pl;exact⟨o,ho,hd⟩⟩,h⟩
  ·exact .inl rfl
 ·refine wpAny_Call_method (T:="list") (id:=id) (zhD hb) (by rw[zad _ hst];rfl) hl PySem.F.plainAttrs_list slot hty (wpAny_mono h (fun ov s₁ h₁=>⟨h₁.1.1,h₁.1.2,?_⟩) fun z_ z_ x=>x)
  rw[zad _ hst];exact Calls.callWith_builtin rfl (Calls.evalArgs_plain (spl1 h₁.2))
theorem zkU {o a:PE}{v y:Expr}{p p':Pos}(hb:okBase v=true) (hl:(p.endLine == p'.line)=true) (hy:isStar y=false) (ho:EJ am n q F c o v) (ha:EJ am n q F c a y) :
  EJ am n q F c (.append o a) (.Call (.Attribute v "append" p) [y] [] p') :=
 zdj (id:="list.append") (g:=fun x y h=>onList h x fun vs=>some (.none,vs++[y])) hb hl hy PySem.F.slot_list_append PySem.F.type_list_append ho ha (fun ρ Hc=>by simp only[zb0,zbZ,zbP,zbO,zbN,zbY,zbz,zbX,zbM,zaU,zaE,zaT,zaj,zaD,zaK,zaC,zaS,zak,zas,zaB,zaJ,zaR,zaQ,zaA,zaP,zaz,zan,zay,zaO,zaI,zax,zaN,zaH,qE_34,zaM,zaw,zaG,zav]) fun z_ hr h1 h2=>zj6 hr h1 h2
end
section
variable {am:Amb}{stack:List Env}{A:Around}{π:List Addr}{s:Shared}{Hc:H}
end
section
variable {am:Amb}{n:Nat}{q:Bool}{F:Fn}{c:Ck}
set_option tactic.hygienic true in
theorem zjc {e:PE}{o:PE}{v:Expr}{name:Str}{id:String}{p p':Pos}{g:V→H→R V}(hb:okBase v=true) (hl:(p.endLine == p'.line)=true) (slot:Slot "list" name id) (hty:typeOf (.builtin id)=pure (.type "method_descriptor"))
  (ho:EJ am n q F c o v) (he:∀ ρ Hc,evE q F ρ e Hc=(evE q F ρ o Hc).bind fun x h=>if lcell h x then g x h else .bad)
  (op:∀ {res:List Addr}{stack:List Env}{A:Around}{π:List Addr}{s:Shared}{Hc:H}{a:V}{x:Value},AS n stack A→HR (am.at res) stack π Hc s.heap→VR (am.at res) π s.heap a x→JAt (am.at res) stack A (PySem.call (.builtin id) [x]) (g a Hc) (VR (am.at res)) π s) :
  EJ am n q F c e (.Call (.Attribute v name p) [] [] p'):=fun {cx ρ A res π Hc s} B st=>by
 rw[he];have hst:∀ z∈([]:List Expr),isStar z=false:=by simp
 refine JT.at (T:=fun Q E s=>wpAny am.M A (eval v cx.env) (fun ov s₁=>(s₁.TypeIs ov "list"∧(∀ a,ov=.ref a→∃ ob,s₁.heap.get? a=some ob∧ob.dict=none))∧wpAny am.M A (PySem.call (.builtin id) [ov]) Q E s₁) E s)
  (JT.bind (fun z_=>PT.and (PT.wp _ _)) (ho B st) fun x u H1 π1 s1 z_ hs1 hr1 hv1=>?_) fun Q E h=>?_
 ·split
  ·rename_i hc
   refine hold fun z_ k_=>?_;obtain⟨i,l,vs,xs,rfl,rfl,hi,hH,pl,hz,hv⟩:=zb7 hr1 hv1 hc;refine k_ ?_;have J:JT (am.at res) cx.stack (fun Q E s=>wpAny am.M A (PySem.call (.builtin id) [.ref l]) Q E s) (g (.ref i) H1) (VR (am.at res)) π1 s1:=JAt.pt (op B.as hr1 hv1);exact J.rule fun Q E h=>⟨⟨pl.is.typeIs,fun a e=>by cases e;obtain⟨o,n,ho,_,hd,_⟩:=pl;exact⟨o,ho,hd⟩⟩,h⟩
  ·exact .inl rfl
 ·refine wpAny_Call_method (T:="list") (id:=id) (zhD hb) (by rw[zad _ hst];rfl) hl PySem.F.plainAttrs_list slot hty (wpAny_mono h (fun ov s₁ h₁=>⟨h₁.1.1,h₁.1.2,?_⟩) fun z_ z_ x=>x)
  rw[zad _ hst];exact Calls.callWith_builtin rfl (evalArgs_nil3 h₁.2)
end
noncomputable def popG (Hc:H) (a b:V):R V:=match b with
 |.int k=>onList Hc a fun vs=>(place vs.length k).bind fun j=>(vs[j]?).map fun v=>(v,vs.eraseIdx j)
 |_=>.bad
theorem zd0 {n:Nat}{k:Int}{j:Nat}(h:place n k=some j):seqIndex? k n=some j:=by
 unfold place at h;unfold seqIndex?
 by_cases h0:0≤k
 ·rw[if_pos h0] at h
  by_cases h1:k < n
  ·rw[if_pos h1] at h
   simp only[if_neg (Int.not_lt.2 h0)];rw[if_pos (by rw[Bool.and_eq_true];exact⟨decide_eq_true h0,decide_eq_true h1⟩)];exact h
  ·rw[if_neg h1] at h;cases h
 ·rw[if_neg h0] at h
  have hk:=Int.not_le.1 h0
  by_cases h1:0≤k+n
  ·rw[if_pos h1] at h
   simp only[if_pos hk];rw[if_pos (by rw[Bool.and_eq_true];exact⟨decide_eq_true h1,decide_eq_true (Int.lt_of_lt_of_le (Int.add_lt_add_right hk _) (Int.le_of_eq (Int.zero_add _)))⟩)];exact h
  ·rw[if_neg h1] at h;cases h
section
variable {am:Amb}{stack:List Env}{A:Around}{π:List Addr}{s:Shared}{Hc:H}
theorem zqL {a b:V}{x y:Value}(hr:HR am stack π Hc s.heap) (ha:VR am π s.heap a x) (hb:VR am π s.heap b y):JAt am stack A (PySem.call (.builtin "list.pop") [x,y]) (popG Hc a b) (VR am) π s:=by
 unfold popG
 cases b with
 |int k =>
  simp only
  cases hc:lcell Hc a with
  |false=>exact .inl (zbf hc)
  |true =>
   obtain⟨i,l,vs,xs,rfl,rfl,hi,hH,pl,hz,hv⟩:=zb7 hr ha hc;simp only[onList,hH];simp only[VR] at hb;obtain⟨t,rfl⟩:=hb
   cases hj:place vs.length k with
   |none=>exact .inl (by simp)
   |some j =>
    cases hw:vs[j]? with
    |none=>exact .inl (by simp[hw])
    |some v =>
     obtain⟨w,hx,hvw⟩:=hv.get j v hw;have le:(vs.eraseIdx j).length≤1000000:=Nat.le_trans (List.length_eraseIdx_le ..) hz;simp only[Option.bind_some,hw,Option.map_some,if_pos le];obtain⟨o,n,ho,hcl,hdi,hd⟩:=id pl;have hlen:=hv.len;refine .inr (wpAny_call_entry PySem.F.slot_list_pop pl.is.typeIs PySem.F.entry_list_pop ?_ (PySem.F.args_list_pop_2 _ _));unfold Builtin.«list.pop»
     refine wpAny_bind ?_;show wpAny _ _ (pure (Value.ref l,[Value.int k t])) _ _ s;refine wpAny_pure ?_;show wpAny _ _ (asIndex (.int k t) >>= _) _ _ s;refine wpAny_bind (wpAny_of_eq (a:=k) rfl ?_);have pb:=zcO hj hz;show wpAny _ _ (if(!Builtin.List.listFitsIndex k)=true then _ else _) _ _ s;rw[if_neg (by unfold Builtin.List.listFitsIndex;rw[decide_eq_true pb.1,decide_eq_true pb.2];decide)]
     show wpAny _ _ (Builtin.List.listItems (.ref l) >>= _) _ _ s;refine wpAny_bind (wpAny_listItems ho hd ?_);have ne:xs≠[]:=fun q=>by subst q;simp at hx
     show wpAny _ _ (if(List.toArray xs).isEmpty=true then _ else _) _ _ s;rw[if_neg (by simpa using ne)]
     have ei:((seqIndex? k (List.toArray xs).size).bind fun k=>Option.map (fun x=>(k,x)) (List.toArray xs)[k]?)=some (j,w):=by
      rw[show(List.toArray xs).size=vs.length by simpa using hlen,zd0 hj]
      simp[hx]
     show wpAny _ _ (match ((seqIndex? k (List.toArray xs).size).bind fun k=>Option.map (fun x=>(k,x)) (List.toArray xs)[k]?) with|some (k,x)=>_|none=>_) _ _ s
     rw[ei];show wpAny _ _ (updateSeq l (·.eraseIdxIfInBounds j) >>= fun z_=>ret w) _ _ s;refine wpAny_bind ?_;refine wpAny_updateSeq ho hd (wpAny_pure ⟨w,rfl,?_⟩) (hz:=by rw[List.size_toArray,hlen];exact za7 hz) (_hz':=by exact Nat.le_trans (size_eraseIdxIfInBounds_le _ _) (by rw[List.size_toArray,hlen];exact Nat.le_succ_of_le (za7 hz)))
     have pl':=pl.update (·.eraseIdxIfInBounds j);have hp:=HR.put (tk:=s.toks) hr hi le (xs:=xs.eraseIdx j) (h':=s.heap.update l (Obj.mapSeq (·.eraseIdxIfInBounds j))) (fun b o h1 h2=>(Heap.SameBut.update ..).extBut b o h1 h2) (by simpa using pl') (hv.eraseIdx j)
     exact⟨v,_,π,rfl,hp.1,hp.2,hvw.step hp.1⟩
 |_=>exact .inl rfl
end
section
variable {am:Amb}{n:Nat}{q:Bool}{F:Fn}{c:Ck}
end
end Mine
namespace Mine
open PySem PySem.W PyProof.Rows PySem.MeetsSeq
open AutoSeq1 (wpAny_loadPart')
theorem zkw:∀ {xs:List Value}{is:List Int}{k:Int}{j:Nat},IntsAre xs is→(is.findIdx? fun i=>i == k)=some j→∃ (hj:j < xs.length),(∃ t,xs[j]=.int k t)∧∀ m (hm:m < xs.length),m < j→∃ i t,xs[m]=.int i t∧(i == k)=false:=by
 intro xs is k j h
 induction h generalizing j with
 |nil=>intro e;cases e
 |cons i t h ih =>
  intro e;rw[List.findIdx?_cons] at e
  by_cases hk:(i == k)=true
  ·rw[if_pos hk] at e
   cases e
   exact⟨Nat.succ_pos _,⟨t,by rw[←eq_of_beq hk];rfl⟩,fun m z_ hm=>absurd hm (Nat.not_lt_zero m)⟩
  ·rw[if_neg hk] at e
   obtain⟨j',e',rfl⟩:=Option.map_eq_some_iff.1 e;obtain⟨hj,h1,h2⟩:=ih e';refine⟨Nat.succ_lt_succ hj,h1,fun m hm hlt=>?_⟩
   cases m with
   |zero=>exact⟨i,t,rfl,Bool.eq_false_iff.2 hk⟩
   |succ m=>exact h2 m (Nat.lt_of_succ_lt_succ hm) (Nat.lt_of_succ_lt_succ hlt)
theorem znE (l:Addr) (c:Value) (dd:Option Addr) (sl:Array (Option Value)) (xs:List Value) (n:Nat) (k:Int) (t:Tok) (j:Nat) (hj:j < xs.length) (hit:∃ u,xs[j]=.int k u) (hno:∀ m (hm:m < xs.length),m < j→∃ i u,xs[m]=.int i u∧(i == k)=false) (hz:xs.length≤1000000) :
  ∀ (d i:Nat),i+d=j→Meets (Builtin.«list.remove.loop» ⟨[.ref l,.int k t,rawInt i],[]⟩) (fun z_ R s=>s.heap.get? l=some ⟨c,dd,.seq xs.toArray n,sl⟩∧R (.ok (.ret .none)) { s with heap:=s.heap.update l (Obj.mapSeq fun xs=>xs.eraseIdxIfInBounds j) }):=by
 have hs1:xs.toArray.size≤sizeLine:=by rw[List.size_toArray];exact za7 hz
 intro d
 induction d with
 |zero =>
  intro i hi prog w A R s h;obtain⟨hp,g,dr,tk,os⟩:=s;obtain⟨hl,h⟩:=h;rw[Nat.add_zero] at hi;subst hi;obtain⟨u,e⟩:=hit
  wp_walk using wpAny_loadPart' hl
  have h1:xs.toArray[((i:Nat):Int).toNat]?=some (.int k u):=by simp[hj,e]
  rw[h1];refine wpAny_bind (wpAny_eqBool_int ?_);rw[beq_self_eq_true];have hz':(xs.toArray.eraseIdxIfInBounds i).size≤sizeLine+1:=Nat.le_trans (size_eraseIdxIfInBounds_le _ _) (Nat.le_succ_of_le hs1)
  wp_walk using (wpAny_updateSeq hl rfl (hz:=hs1) (_hz':=hz')),wpAny_loadPart' hl
  simpa using h
 |succ d ih =>
  intro i hi prog w A R s h;obtain⟨hp,g,dr,tk,os⟩:=s;obtain⟨hl,h⟩:=h;have hlt:i < j:=hi ▸ Nat.lt_add_of_pos_right (Nat.succ_pos d);have hil:=Nat.lt_trans hlt hj;obtain⟨m,u,e,ne⟩:=hno i hil hlt
  wp_walk using wpAny_loadPart' hl
  have h1:xs.toArray[((i:Nat):Int).toNat]?=some (.int m u):=by simp[hil,e]
  have hc:((i:Int)+1)=((i+1:Nat):Int):=rfl;rw[h1];refine wpAny_bind (wpAny_eqBool_int ?_);rw[ne]
  wp_walk
  rw[hc];exact⟨plainId_quiet plain_remove_loop _,codeAny_builtin entry_remove_loop (by
   rw[Around.under_plainId plain_remove_loop _];exact ih (i+1) (by rw[Nat.add_assoc,Nat.add_comm 1 d];exact hi) prog w A R _ ⟨hl,h⟩)⟩
theorem zlx (l:Addr) (c:Value) (dd:Option Addr) (sl:Array (Option Value)) (xs:List Value) (n:Nat) (k:Int) (t:Tok) (j:Nat) (hj:j < xs.length) (hit:∃ u,xs[j]=.int k u) (hno:∀ m (hm:m < xs.length),m < j→∃ i u,xs[m]=.int i u∧(i == k)=false) (hz:xs.length≤1000000) :
  Meets (Builtin.«list.remove» ⟨[.ref l,.int k t],[]⟩) (fun z_ R s=>s.heap.get? l=some ⟨c,dd,.seq xs.toArray n,sl⟩∧R (.ok (.ret .none)) { s with heap:=s.heap.update l (Obj.mapSeq fun xs=>xs.eraseIdxIfInBounds j) }):=by
 intro prog w A R s h;obtain⟨hp,g,dr,tk,os⟩:=s;obtain⟨hl,h⟩:=h
 wp_walk using wpAny_loadPart' hl
 exact⟨plainId_quiet plain_remove_loop _,codeAny_builtin entry_remove_loop (by
  rw[Around.under_plainId plain_remove_loop _];exact znE l c dd sl xs n k t j hj hit hno hz j 0 (Nat.zero_add j) prog w A R _ ⟨hl,h⟩)⟩
section
variable {am:Amb}{stack:List Env}{A:Around}{π:List Addr}{s:Shared}{Hc:H}
theorem zj1 {a b:V}{x y:Value}(hr:HR am stack π Hc s.heap) (ha:VR am π s.heap a x) (hb:VR am π s.heap b y) :
  JAt am stack A (PySem.call (.builtin "list.remove") [x,y]) (onList Hc a fun vs=>rmvI b vs) (VR am) π s:=by
 cases hc:lcell Hc a with
 |false=>exact .inl (zbf hc)
 |true =>
  refine hold fun z_ k_=>?_;obtain⟨i,l,vs,xs,rfl,rfl,hi,hH,pl,hz,hv⟩:=zb7 hr ha hc;refine k_ ?_
  cases b with
  |int k =>
   obtain⟨t,rfl⟩:=hb;simp only[onList,hH,rmvI]
   cases h1:asInts vs with
   |none=>exact .inl rfl
   |some is =>
    have I:=zcE h1 hv
    cases h2:is.findIdx? fun i=>i == k with
    |none=>refine .inl ?_;rw[Option.bind_some,h2];rfl
    |some j =>
     obtain⟨hj,⟨u,e1⟩,e2⟩:=zkw I h2;have le:(vs.eraseIdx j).length≤1000000:=Nat.le_trans (List.length_eraseIdx_le ..) hz;rw[Option.bind_some,h2];simp only[Option.map_some,if_pos le];refine hold fun z_ k_=>?_;obtain⟨o,n,ho,hcl,hdi,hd⟩:=id pl;refine k_ ?_;obtain⟨cls,dd,data,sl⟩:=o;simp only at hcl hdi hd;subst hcl hdi hd;refine .inr (call_meets PySem.F.slot_list_remove pl.is.typeIs PySem.F.entry_list_remove (PySem.F.args_list_remove_2 _ _) (zlx l _ _ sl xs n k t j hj ⟨u,e1⟩ e2 (by rw[hv.len];exact hz)) ⟨ho,?_⟩)
     have pl':=pl.update (·.eraseIdxIfInBounds j);have hp:=HR.put (tk:=s.toks) hr hi le (xs:=xs.eraseIdx j) (h':=s.heap.update l (Obj.mapSeq (·.eraseIdxIfInBounds j))) (fun b o h1 h2=>(Heap.SameBut.update ..).extBut b o h1 h2) (by simpa using pl') (hv.eraseIdx j)
     exact⟨.none,_,π,rfl,hp.1,hp.2,rfl⟩
  |_=>refine .inl ?_;simp only[onList,hH,rmvI]
end
section
variable {am:Amb}{n:Nat}{q:Bool}{F:Fn}{c:Ck}
theorem zkR {o a:PE}{v y:Expr}{p p':Pos}(hb:okBase v=true) (hl:(p.endLine == p'.line)=true) (hy:isStar y=false) (ho:EJ am n q F c o v) (ha:EJ am n q F c a y) :
  EJ am n q F c (.remove o a) (.Call (.Attribute v "remove" p) [y] [] p') :=
 zdj (id:="list.remove") (g:=fun x y h=>onList h x fun vs=>rmvI y vs) hb hl hy PySem.F.slot_list_remove PySem.F.type_list_remove ho ha (fun z_ z_=>rfl) fun z_ hr h1 h2=>zj1 hr h1 h2
end
end Mine
namespace Mine
open PySem PySem.W PyProof.Rows
section
variable {am:Amb}{stack:List Env}{A:Around}{π:List Addr}{s:Shared}{Hc:H}
theorem znf {value slice:Expr}{a:V}{x:Value}{t:Tok}(hr:HR am stack π Hc s.heap) (ha:VR am π s.heap a x) :
  JT am stack (fun Q E s=>wpAny am.M A (newFields "slice" [.int 1 t,.none,.none]) (fun i s₁=>wpAny am.M A (subscriptTail value slice x i) Q E s₁) E s) (R.opt (tailOf a) Hc) (VR am) π s:=by
 cases a with
 |tup vs =>
  by_cases h0:0 < vs.length
  ·have ha':=ha
   simp only[VR] at ha';refine hold fun z_ k_=>?_;obtain⟨l,xs,rfl,_,h1,hz,hv⟩:=ha';refine k_ ?_;have e:tailOf (.tup vs)=some (.tup (vs.drop 1)):=if_pos h0;rw[e];have k:∀ b o,s.heap.get? b=some o→(s.heap.push { cls:=.type "slice",data:=.fields #[.int 1 t,.none,.none] }).get? b=some o:=fun b o q=>Heap.get?_push_of_some _ q;have h1t:IsTup s.heap l xs.toArray:=h1;have h1':IsTup (s.heap.push { cls:=.type "slice",data:=.fields #[.int 1 t,.none,.none] }) l xs.toArray:=h1t.keeps k
   refine .inr ?_;unfold newFields;refine wpAny_newObj_type ?_;refine zcY (s:={ s with heap:=s.heap.push { cls:=.type "slice",data:=.fields #[.int 1 t,.none,.none] } }) h1'.typeIs slot_tuple_getitem.lookup
    (getItem_tuple_from (a:=1) h1' (Heap.IsSliceOf.new ..) (Nat.le_refl 1) (by rw[List.size_toArray,hv.len];exact h0) ?_ (by rw[List.size_toArray,hv.len];exact za7 hz))
   refine OkP.step (Step.keeps (tk:=s.toks) k) ?_;exact OkP.tup (s:={ s with heap:=s.heap.push { cls:=.type "slice",data:=.fields #[.int 1 t,.none,.none] } }) (n:=0) (tk:=s.toks) (xs:=xs.drop 1) (hr.keeps k) ((hv.drop 1).keeps k) (by rw[List.length_drop];exact Nat.le_trans (Nat.sub_le ..) hz) rfl rfl
  ·refine .inl ?_
   have e:tailOf (.tup vs)=Option.none:=if_neg h0;rw[e];rfl
 |_=>exact .inl rfl
end
section
variable {am:Amb}{n:Nat}{q:Bool}{F:Fn}{c:Ck}
theorem zop {a:PE}{v:Expr}{k:Nat}{pc p p':Pos}(ha:EJ am n q F c a v):EJ am n q F c (.rev a) (.Subscript v (.Slice (some (.Constant (.int 1) k pc)) none none p') p):=fun {cx ρ A res π Hc s} B st=>by
 rw[zaB];refine JT.at (T:=fun Q E s=>wpAny am.M A (eval v cx.env) (fun x s₀=>wpAny am.M A (valueOrNone (evalOpt (some (.Constant (.int 1) k pc)) cx.env)) (fun a s₁=>wpAny am.M A (valueOrNone (evalOpt none cx.env)) (fun b s₂=>wpAny am.M A (newFields "slice" [a,b,.none]) (fun i s₃=>wpAny am.M A (subscriptTail v (.Slice (some (.Constant (.int 1) k pc)) none none p') x i) Q E s₃) E s₂) E s₁) E s₀) E s)
  (JT.bind (fun x=>PT.seq _ _ fun a=>PT.seq _ _ fun b=>PT.seq _ _ fun i=>PT.wp _ _) (ha B st) fun x v' H1 π1 s1 z_ hs1 hr1 hv1=>?_) fun Q E h=>?_
 ·have st1:=st.step hs1 hr1
  have hl:OptJ am n q F c (some (.int 1)) (some (.Constant (.int 1) k pc)):=zm6;have hu:OptJ am n q F c none none:=trivial;refine(JT.bind (r:=evO q F ρ (some (.int 1)) H1) (g:=fun l h=>(evO q F ρ none h).bind fun u h=>R.opt (tailOf v') h) (fun a=>PT.seq _ _ fun b=>PT.seq _ _ fun i=>PT.wp _ _) (hl.ev B st1) fun y w H2 π2 s2 e2 hs2 hr2 hv2=>?_);have st2:=st1.step hs2 hr2;refine JT.bind (fun a=>PT.seq _ _ fun i=>PT.wp _ _) (hu.ev B st2) fun z w2 H3 π3 s3 e3 hs3 hr3 hv3=>?_
  cases e2
  cases e3
  obtain⟨t,rfl⟩:∃ t,y=.int 1 t:=hv2
  cases hv3
  exact znf hr3 ((hv1.step hs2).step hs3)
 ·have e:eval (.Subscript v (.Slice (some (.Constant (.int 1) k pc)) none none p') p) cx.env=(eval v cx.env >>= fun o=>holding [o] (valueOrNone (evalOpt (some (.Constant (.int 1) k pc)) cx.env) >>= fun a=>holding [a] (valueOrNone (evalOpt none cx.env)) >>= fun b=>holding [a,b] (pure .none) >>= fun d=>newFields "slice" [a,b,d]) >>= fun i=>standAt p >>= fun z_=>subscriptTail v (.Slice (some (.Constant (.int 1) k pc)) none none p') o i):=rfl
  rw[e];exact wpAny_bind (wpAny_mono h (fun o s0 h0=>wpAny_bind (wpAny_holding (wpAny_bind (wpAny_mono h0 (fun a s1 h1=>wpAny_bind (wpAny_holding (wpAny_mono h1 (fun b s2 h2=>wpAny_bind (wpAny_holding (wpAny_pure (wpAny_mono h2 (fun i s3 h3=>wpAny_bind (wpAny_standAt h3)) fun z_ z_ x=>x)))) fun z_ z_ x=>x))) fun z_ z_ x=>x)))) fun z_ z_ x=>x)
end
noncomputable def popL (Hc:H) (a:V):R V:=onList Hc a fun vs=>(vs.getLast?).map fun v=>(v,vs.dropLast)
theorem zjV {n:Nat}(h:n - 1 < n):place n (-1)=some (n - 1):=by
 cases n with
 |zero=>exact absurd h (Nat.lt_irrefl 0)
 |succ m =>
  unfold place;rw[if_neg (by decide),zd9,if_pos (Int.natCast_nonneg m)];rfl
section
variable {am:Amb}{stack:List Env}{A:Around}{π:List Addr}{s:Shared}{Hc:H}
theorem zpr {a:V}{x:Value}(hr:HR am stack π Hc s.heap) (ha:VR am π s.heap a x):JAt am stack A (PySem.call (.builtin "list.pop") [x]) (popL Hc a) (VR am) π s:=by
 unfold popL
 cases hc:lcell Hc a with
 |false=>exact .inl (zbf hc)
 |true =>
  obtain⟨i,l,vs,xs,rfl,rfl,hi,hH,pl,hz,hv⟩:=zb7 hr ha hc;simp only[onList,hH]
  cases hw:vs.getLast? with
  |none=>exact .inl rfl
  |some v =>
   rw[List.getLast?_eq_getElem?] at hw;obtain⟨w,hx,hvw⟩:=hv.get _ v hw;have hlen:=hv.len;have hpos:vs.length - 1 < vs.length:=(List.getElem?_eq_some_iff.1 hw).1;have le:vs.dropLast.length≤1000000:=by rw[List.length_dropLast];exact Nat.le_trans (Nat.sub_le ..) hz
   simp only[Option.map_some,if_pos le];obtain⟨o,n,ho,hcl,hdi,hd⟩:=id pl;refine .inr (wpAny_call_entry PySem.F.slot_list_pop pl.is.typeIs PySem.F.entry_list_pop ?_ (PySem.F.args_list_pop_1 _));unfold Builtin.«list.pop»
   refine wpAny_bind ?_;show wpAny _ _ (pure (Value.ref l,[])) _ _ s;refine wpAny_pure ?_;show wpAny _ _ (Builtin.List.listItems (.ref l) >>= _) _ _ s;refine wpAny_bind (wpAny_listItems ho hd ?_);have ne:xs≠[]:=fun q=>by subst q;simp at hx
   show wpAny _ _ (if(List.toArray xs).isEmpty=true then _ else _) _ _ s;rw[if_neg (by simpa using ne)]
   have ei:((seqIndex? (-1) (List.toArray xs).size).bind fun k=>Option.map (fun x=>(k,x)) (List.toArray xs)[k]?)=some (vs.length - 1,w):=by
    rw[show(List.toArray xs).size=vs.length by simpa using hlen,zd0 (j:=vs.length - 1) (zjV hpos)]
    simp[hx]
   show wpAny _ _ (match ((seqIndex? (-1) (List.toArray xs).size).bind fun k=>Option.map (fun x=>(k,x)) (List.toArray xs)[k]?) with|some (k,x)=>_|none=>_) _ _ s
   rw[ei];show wpAny _ _ (updateSeq l (·.eraseIdxIfInBounds (vs.length - 1)) >>= fun z_=>ret w) _ _ s;refine wpAny_bind ?_;refine wpAny_updateSeq ho hd (wpAny_pure ⟨w,rfl,?_⟩) (hz:=by rw[List.size_toArray,hlen];exact za7 hz) (_hz':=by exact Nat.le_trans (size_eraseIdxIfInBounds_le _ _) (by rw[List.size_toArray,hlen];exact Nat.le_succ_of_le (za7 hz)))
   have pl':=pl.update (·.eraseIdxIfInBounds (vs.length - 1));have hp:=HR.put (tk:=s.toks) hr hi (vs:=vs.eraseIdx (vs.length - 1)) (Nat.le_trans (List.length_eraseIdx_le ..) hz) (xs:=xs.eraseIdx (vs.length - 1)) (h':=s.heap.update l (Obj.mapSeq (·.eraseIdxIfInBounds (vs.length - 1)))) (fun b o h1 h2=>(Heap.SameBut.update ..).extBut b o h1 h2) (by simpa using pl') (hv.eraseIdx _)
   rw[List.eraseIdx_length_sub_one] at hp;exact⟨v,_,π,rfl,hp.1,hp.2,hvw.step hp.1⟩
end
section
variable {am:Amb}{n:Nat}{q:Bool}{F:Fn}{c:Ck}
theorem zqf {o:PE}{v:Expr}{p p':Pos}(hb:okBase v=true) (hl:(p.endLine == p'.line)=true) (ho:EJ am n q F c o v):EJ am n q F c (.pop o) (.Call (.Attribute v "pop" p) [] [] p') :=
 zjc (id:="list.pop") (g:=fun x h=>popL h x) hb hl PySem.F.slot_list_pop PySem.F.type_list_pop ho (fun ρ Hc=>by
  rw[qE_34]
  congr 1
  funext x h
  cases hc:lcell h x with
  |true=>rfl
  |false=>exact zbf hc) fun z_ hr h1=>zpr hr h1
end
theorem zkN (l b:Addr) (d1 d2:Option Addr) (s1 s2:Array (Option Value)) (xs ys:Array Value) (n n2:Nat) (hz:xs.size+ys.size≤sizeLine):Meets (Builtin.«list.extend» ⟨[.ref l,.ref b],[]⟩)
  (fun z_ R s=>s.heap.get? l=some ⟨.type "list",d1,.seq xs n,s1⟩∧s.heap.get? b=some ⟨.type "list",d2,.seq ys n2,s2⟩∧R (.ok (.ret .none)) { s with heap:=s.heap.update l (Obj.mapSeq fun x=>x++ys),toks:=s.toks }):=by
 refine .of_wp fun prog w A R s h=>?_;obtain⟨hp,g,d,tk,os⟩:=s;obtain⟨hl,hb,h⟩:=h;have f3:=AutoSeq1.sub_list_list;have hd:=extend_door hz;have h1:xs.size≤sizeLine:=Nat.le_trans (Nat.le_add_right ..) hz;have h2:(xs++ys).size≤sizeLine+1:=by rw[Array.size_append];exact Nat.le_succ_of_le hz
 wp_walk using (wpAny_updateSeq hl rfl (hz:=h1) (_hz':=h2)),AutoSeq1.wpAny_loadPart' hl,AutoSeq1.wpAny_loadPart' hb
 exact⟨_,rfl,h⟩
section
variable {am:Amb}{stack:List Env}{A:Around}{π:List Addr}{s:Shared}{Hc:H}
set_option tactic.hygienic true in
theorem zj4 {a:V}{ws:List V}{x y:Value}(hr:HR am stack π Hc s.heap) (ha:VR am π s.heap a x) (hb:VR am π s.heap (.lst ws) y) :
  JAt am stack A (PySem.call (.builtin "list.extend") [x,y]) (onList Hc a fun vs=>some (.none,vs++ws)) (VR am) π s:=by
 cases hc:lcell Hc a with
 |false=>exact .inl (zbf hc)
 |true =>
  refine hold fun z_ k_=>?_;obtain⟨i,l,vs,xs,rfl,rfl,hi,hH,pl,hz,hv⟩:=zb7 hr ha hc;obtain⟨b,ys,rfl,⟨⟨k2,d2,u2,s2⟩,ho2,c2,n2,e2⟩,hz2,hv2⟩:=zaq hr hb rfl;refine k_ ?_;simp only at c2 e2;subst c2 e2;simp only[onList,hH]
  split
  ·rename_i hle
   refine hold fun z_ k_=>?_;obtain⟨⟨k1,d1,u1,s1⟩,n,ho,hcl,hdi,hd⟩:=id pl;refine k_ ?_;simp only at hcl hd;subst hcl hd;have hs:xs.toArray.size+ys.toArray.size≤sizeLine:=by
    rw[List.size_toArray,List.size_toArray,hv.len,hv2.len,← List.length_append];exact za7 hle
   refine .inr (call_meets PySem.F.slot_list_extend pl.is.typeIs PySem.F.entry_list_extend (PySem.F.args_list_extend_2 _ _) (zkN l b d1 d2 s1 s2 xs.toArray ys.toArray n n2 hs) ⟨ho,ho2,?_⟩);have pl':=pl.update (fun x=>x++ys.toArray);have hp:=HR.put (tk:=s.toks) hr hi hle (xs:=xs++ys) (h':=s.heap.update l (Obj.mapSeq fun x=>x++ys.toArray)) (fun b o h1 h2=>(Heap.SameBut.update ..).extBut b o h1 h2) (by simpa using pl') (hv.append hv2)
   exact⟨.none,_,π,rfl,hp.1,hp.2,rfl⟩
  ·exact .inl rfl
end
section
variable {am:Amb}{n:Nat}{q:Bool}{F:Fn}{c:Ck}
theorem zkT {o a:PE}{v y:Expr}{p p':Pos}(hb:okBase v=true) (hl:(p.endLine == p'.line)=true) (hy:isStar y=false) (ho:EJ am n q F c o v) (ha:EJ am n q F c a y) :
  EJ am n q F c (.extend o a) (.Call (.Attribute v "extend" p) [y] [] p') :=
 zdj (id:="list.extend") (g:=fun x y h=>match y with|.lst ws=>onList h x fun vs=>some (.none,vs++ws)|_=>.bad) hb hl hy PySem.F.slot_list_extend PySem.F.type_list_extend ho ha (fun ρ Hc=>zax ..) fun {res stack A π s Hc a b x y} _ hr h1 h2=>by
  cases b with
  |lst ws=>exact zj4 hr h1 h2
  |_=>exact .inl rfl
end
section
variable {am:Amb}{stack:List Env}{A:Around}{π:List Addr}{s:Shared}{Hc:H}
theorem HR.grow {l:Addr}{h':Heap}{tk:Nat}{c:Cell}(hr:HR am stack π Hc s.heap) (hl:s.heap.get? l=none) (k:∀ b o,s.heap.get? b=some o→h'.get? b=some o) (hc:CellAt am (π++[l]) h' c l) :
  OkP am stack (VR am) π s (.ok (.ref Hc.length) (Hc++[c])) (.ref l) { s with heap:=h',toks:=tk }:=by
 have hp:=zar hr hl;have hr':=hr.keeps k;have st:Step (Fs stack) π s (π++[l]) { s with heap:=h',toks:=tk } :=
  ⟨⟨h',tk,rfl⟩,Ext.of_keeps k,[l],rfl,fun a ha=>by rw[List.mem_singleton.mp ha];exact hl⟩
 refine⟨_,_,π++[l],rfl,st,⟨hr'.base,hr'.frames,by simp[hr.len],?_,hr'.res,fun a ha=>?_,fun i c' a hi ha=>?_⟩,?_⟩
 ·rw[List.nodup_append]
  exact⟨hr.nodup,by simp,fun a ha b hb=>by rw[List.mem_singleton.mp hb];exact fun q=>hp (q ▸ ha)⟩
 ·rcases List.mem_append.mp ha with ha|ha
  ·exact hr.off a ha
  ·rw[List.mem_singleton.mp ha];exact⟨zbj hr.base hl,za6 hr hl⟩
 ·by_cases hlt:i < Hc.length
  ·rw[List.getElem?_append_left hlt] at hi
   rw[List.getElem?_append_left (by rw[hr.len];exact hlt)] at ha
   exact(hr.cell i c' a hi ha).via st.via fun o e z_=>⟨o.slots,k a o e⟩
  ·have hi':i=Hc.length:=by
    have:=(List.getElem?_eq_some_iff.mp hi).1;rw[List.length_append] at this;exact Nat.le_antisymm (Nat.le_of_lt_succ this) (Nat.le_of_not_lt hlt)
   subst hi';simp only[List.getElem?_concat_length,Option.some.injEq] at hi;rw[←hr.len] at ha;simp only[List.getElem?_concat_length,Option.some.injEq] at ha;subst hi ha;exact hc
 ·simp only[VR]
  exact⟨l,rfl,by rw[←hr.len];simp⟩
theorem HR.putD {i:Nat}{d:Addr}{c:Cell}{h':Heap}{tk:Nat}(hr:HR am stack π Hc s.heap) (hi:π[i]?=some d) (k:∀ b o,b≠d→s.heap.get? b=some o→h'.get? b=some o) (ho:∃ o,h'.get? d=some o∧∀ us,o.data≠.fields us)
  (hc:Step (Fs stack) π s π { s with heap:=h',toks:=tk }→CellAt am π h' c d) :
  Step (Fs stack) π s π { s with heap:=h',toks:=tk }∧HR am stack π (Hc.set i c) h':=by
 have hl:=zcA hi;have st:Step (Fs stack) π s π { s with heap:=h',toks:=tk }:=by
  refine⟨⟨h',tk,rfl⟩,⟨fun a o e h1 z_=>k a o (fun q=>h1 (q ▸ hl)) e,fun a o e h1=>⟨o.slots,k a o (fun q=>h1 (q ▸ hl)) e⟩,fun a o e=>?_⟩,[],by simp,by simp⟩
  by_cases ha:a=d
  ·subst ha;obtain⟨o,ho,_⟩:=ho;exact⟨o,ho⟩
  ·exact⟨o,k a o ha e⟩
 refine⟨st,⟨fun a o e=>?_,zbw k ho hr.frames,by simp[hr.len],hr.nodup,fun a ha=>?_,hr.off,fun j c' a h1 h2=>?_⟩⟩
 ·exact k a o (fun q=>by subst q;rw[(hr.off a hl).1] at e;cases e) (hr.base a o e)
 ·by_cases hq:a=d
  ·subst hq;exact ho
  ·obtain⟨o,ho,hd⟩:=hr.res a ha
   exact⟨o,k a o hq ho,hd⟩
 ·by_cases hj:j=i
  ·subst hj
   have hlt:j < Hc.length:=by rw[←hr.len];exact(List.getElem?_eq_some_iff.mp hi).1
   rw[List.getElem?_set_self hlt] at h1
   cases h1
   rw[hi] at h2;cases h2
   exact hc st
  ·rw[List.getElem?_set_ne (Ne.symm hj)] at h1
   have hne:a≠d:=fun q=>hj (zmT hr.nodup (q ▸ h2) hi);exact(hr.cell j c' a h1 h2).via st.via fun o e z_=>⟨o.slots,k a o hne e⟩
set_option tactic.hygienic true in
theorem zdN {a:V}{x:Value}(ha:VR am π s.heap a x) (hc:dcell Hc a=true):∃ i d es,a=.ref i∧x=.ref d∧π[i]?=some d∧Hc[i]?=some (.dict es):=by
 cases a with
 |ref i =>
  simp only[dcell] at hc;simp only[VR] at ha;obtain⟨l,rfl,hl⟩:=ha
  split at hc
  ·rename_i es hv
   exact⟨i,l,es,rfl,rfl,hl,hv⟩
  ·cases hc
 |_=>simp[dcell] at hc
section
variable {es:List (V × V)}{d:Addr}{o:Obj}{arr:Array DictEntry}{ep:Nat}{xs:List Value}
theorem DC.line (D:DC am π s.heap es d o arr ep xs):arr.size≤sizeLine:=by
 rw[D.size];have:=D.len;rw[zca] at this;have:=zbB
 omega
theorem DC.push {i tk:Nat}{b c:V}{y z:Value}(D:DC am π s.heap es d o arr ep xs) (hr:HR am stack π Hc s.heap) (hi:π[i]?=some d) (hb:VR am π s.heap b y) (hz:VR am π s.heap c z) (hk:keyOk b=true) (hn:dfind b es=none) (hle:es.length≤1000) :
  Step (Fs stack) π s π { s with heap:=s.heap.update d (Obj.mapDictKeys (·.push ⟨hashV b,y,z⟩)),toks:=tk }∧HR am stack π (Hc.set i (.dict (es++[(b,c)]))) (s.heap.update d (Obj.mapDictKeys (·.push ⟨hashV b,y,z⟩))):=by
 have hd':=Obj.data_mapDictKeys D.data (·.push ⟨hashV b,y,z⟩);have hg':=Heap.get?_update_self (Obj.mapDictKeys (·.push ⟨hashV b,y,z⟩)) D.ho (Obj.isFreed_of_dict hd');have xl:xs.length=2 * es.length:=by rw[D.vr.len];exact zca es
 refine HR.putD (c:=.dict (es++[(b,c)])) hr hi (fun b o h1 h2=>(Heap.SameBut.update ..).extBut b o h1 h2) ⟨_,hg',fun us q=>by rw[hd'] at q;cases q⟩ fun st=>?_
 obtain⟨ne,ho,cls,di,da,ar,vr,gd,ag,ln⟩:=D;refine⟨_,xs++[y,z],hg',⟨ne_of_beq_false ne,_,_,?_,?_,hd',?_,zjd gd hk hn,by rw[List.length_append,ag];rfl⟩,?_,?_⟩
 ·obtain⟨c0,di,dt,sl⟩:=o;simp only at da;subst da;exact cls
 ·obtain⟨c0,di,dt,sl⟩:=o;simp only at da;subst da;assumption
 ·rw[Array.toList_push,ar,zgL es xs b c _ _ xl]
 ·show((es++[(b,c)]).flatMap fun e=>[e.1,e.2]).length≤_
  rw[zca,List.length_append,List.length_singleton];exact Nat.le_trans (Nat.mul_le_mul_left 2 (Nat.succ_le_succ hle)) (by decide)
 ·show VRs am π _ ((es++[(b,c)]).flatMap fun e=>[e.1,e.2]) _
  rw[List.flatMap_append];refine VRs.append (vr.step st) ?_;show VRs am π _ [b,c] [y,z];simp only[VRs];exact⟨_,_,rfl,hb.step st,_,_,rfl,hz.step st,rfl⟩
theorem DC.put {i j tk:Nat}{b c v0:V}{z:Value}(D:DC am π s.heap es d o arr ep xs) (hr:HR am stack π Hc s.heap) (hi:π[i]?=some d) (hz:VR am π s.heap c z) (hj:es[j]?=some (b,v0)) :
  Step (Fs stack) π s π { s with heap:=s.heap.update d (Obj.mapDict (·.modify j fun e=>{ e with val:=z })),toks:=tk }∧HR am stack π (Hc.set i (.dict (es.set j (b,c)))) (s.heap.update d (Obj.mapDict (·.modify j fun e=>{ e with val:=z }))):=by
 have hd':=Obj.data_mapDict D.data (·.modify j fun e=>{ e with val:=z })
 have hg':=Heap.get?_update_self (Obj.mapDict (·.modify j fun e=>{ e with val:=z })) D.ho (Obj.isFreed_of_dict hd')
 refine HR.putD (c:=.dict (es.set j (b,c))) hr hi (fun b o h1 h2=>(Heap.SameBut.update ..).extBut b o h1 h2) ⟨_,hg',fun us q=>by rw[hd'] at q;cases q⟩ fun st=>?_
 obtain⟨ne,ho,cls,di,da,ar,vr,gd,ag,ln⟩:=D;obtain⟨xs',r',e'⟩:=zik (hz.step st) (vr.step st) hj;have km:(es.set j (b,c)).map (·.1)=es.map (·.1):=by
  have e:(es.map (·.1))[j]?=some b:=by rw[List.getElem?_map,hj];rfl
  obtain⟨_,e⟩:=List.getElem?_eq_some_iff.1 e;rw[List.map_set];show(es.map (·.1)).set j b=_;rw[←e,List.set_getElem_self]
 refine⟨_,xs',hg',⟨ne_of_beq_false ne,_,_,?_,?_,hd',?_,⟨?_,fun e he=>?_⟩,by rw[List.length_set];exact ag⟩,?_,r'⟩
 ·obtain⟨c0,di,dt,sl⟩:=o;simp only at da;subst da;exact cls
 ·obtain⟨c0,di,dt,sl⟩:=o;simp only at da;subst da;assumption
 ·rw[Array.toList_modify,ar,e']
 ·rw[km];exact gd.1
 ·have:e.1∈es.map (·.1):=by rw[←km];exact List.mem_map.2 ⟨e,he,rfl⟩
  obtain⟨e0,h0,q⟩:=List.mem_map.1 this;rw[←q];exact gd.2 e0 h0
 ·show((es.set j (b,c)).flatMap fun e=>[e.1,e.2]).length≤_
  rw[zca,List.length_set,← zca];exact ln
theorem zeP {i:Nat}{b c:V}{y w:Value}{Q:PUnit→Shared→Prop}{E:Value→Shared→Prop}(hu:A.units < cLine) (hr:HR am stack π Hc s.heap) (hi:π[i]?=some d) (D:DC am π s.heap es d o arr ep xs) (hk:keyOk b=true) (hb:VR am π s.heap b y) (hc:VR am π s.heap c w) (hle:es.length≤1000)
  (h:∀ s',Step (Fs stack) π s π s'→HR am stack π (Hc.set i (.dict (dput b c es))) s'.heap→Q () s'):wpAny am.M A (dictSet d y w) Q E s:=by
 obtain⟨m,hh⟩:=zhr (A:=A) hk hb hu;unfold dictSet
 try with_reducible refine wpAny_holding ?_
 refine wpAny_bind (hh ?_);unfold dictSetHashed
 try with_reducible refine wpAny_holding ?_
 refine wpAny_bind (zhs (s:={ s with toks:=s.toks+m }) D hk hb hu (fun e=>?_) fun j v e=>?_)
 ·have p:=D.push (tk:=s.toks+m) hr hi hb hc hk e hle
  rw[←dput_new e] at p;exact wpAny_bind (wpAny_rule (wpAny_updateDictKeys (hz:=D.line) (s:={ s with toks:=s.toks+m }) D.ho D.data (h _ p.1 p.2)))
 ·have p:=D.put (tk:=s.toks+m) hr hi hc e
  rw[←zio D.good.1 e] at p;exact wpAny_bind (wpAny_rule (wpAny_bind (wpAny_updateDict (s:={ s with toks:=s.toks+m }) D.ho D.data (wpAny_point (h _ p.1 p.2)))))
theorem zng {n:Nat}{a b c:V}{x y w:Value}{H':H}{Q:Unit→Shared→Prop}{E:Value→Shared→Prop}(as:AS n stack A) (hr:HR am stack π Hc s.heap) (ha:VR am π s.heap a x) (hb:VR am π s.heap b y) (hc:VR am π s.heap c w) (he:dcell Hc a=true) (hs:seti Hc a b c=some H')
  (h:∀ s',Step (Fs stack) π s π s'→HR am stack π H' s'.heap→Q () s'):wpAny am.M A (setItem x y w) Q E s:=by
 obtain⟨i,d,es,rfl,rfl,hi,hH⟩:=zdN ha he;obtain⟨o,arr,ep,xs,D⟩:=(hr.cell i _ d hH hi).dict;have hu:A.in1.units < cLine:=as.uk (k:=1) (by decide)
 simp only[seti,hH] at hs
 cases hk:keyOk b with
 |false=>rw[hk] at hs;cases hs
 |true =>
  rw[hk,Bool.true_and] at hs
  by_cases hle:es.length≤1000
  ·rw[if_pos (decide_eq_true hle)] at hs
   cases hs
   unfold setItem
   try with_reducible refine wpAny_holding ?_
   refine wpAny_bind (wpAny_sequenceKey D.typeIs (by decide) ?_)
   refine wpAny_bind (wpAny_callSpecial?_slot (name:=Str.ofString "__setitem__") D.typeIs slot_dict_setitem
    (wpAny_call_entry slot_dict_setitem D.typeIs entry_dict_setitem ?_ (args_dict_setitem _ _ _)))
   show wpAny _ _ (Builtin.Dict.notOrdered "__setitem__" ⟨[.ref d,y,w],[]⟩ >>= _) _ _ s;refine wpAny_bind (wpAny_notOrdered_dict D.typeIs ?_);show wpAny _ _ (dictSet d y w >>= _) _ _ s;exact wpAny_bind (zeP hu hr hi D hk hb hc hle fun s' h1 h2=>wpAny_pure ⟨.none,rfl,wpAny_pure (h s' h1 h2)⟩)
  ·rw[if_neg fun q=>hle (of_decide_eq_true q)] at hs;cases hs
end
theorem zj0 {n:Nat}{a b c:V}{x y z:Value}(as:AS n stack A) (hr:HR am stack π Hc s.heap) (ha:VR am π s.heap a x) (hb:VR am π s.heap b y) (hz:VR am π s.heap c z) (hd:dcell Hc a=true) :
  JAt am stack A (PySem.call (.builtin "dict.setdefault") [x,y,z]) (setDef Hc a b c) (VR am) π s:=by
 obtain⟨i,d,es,rfl,rfl,hi,hc⟩:=zdN ha hd;unfold setDef onDict;simp only[hc]
 cases hk:keyOk b with
 |false=>exact .inl rfl
 |true =>
  rw[if_pos rfl];obtain⟨o,arr,ep,xs,D⟩:=(hr.cell i _ d hc hi).dict;have hu:A.in1.units < cLine:=as.uk (k:=1) (by decide)
  obtain⟨m,hh⟩:=zhr (A:=A.in1) hk hb hu;have go:∀ {Q:Value→Shared→Prop}{E:Value→Shared→Prop},(∀ v u,dfind b es=some v→VR am π s.heap v u→Q u { s with toks:=s.toks+m })→(dfind b es=none→Q z { s with heap:=s.heap.update d (Obj.mapDictKeys (·.push ⟨hashV b,y,z⟩)),toks:=s.toks+m })→wpAny am.M A (PySem.call (.builtin "dict.setdefault") [.ref d,y,z]) Q E s:=by
   intro Q E h1 h2;refine wpAny_call_entry PySem.F.slot_dict_setdefault D.typeIs PySem.F.entry_dict_setdefault ?_ (PySem.F.args_dict_setdefault_3 _ _ _);unfold Builtin.«dict.setdefault»
   refine wpAny_bind ?_;unfold Builtin.Dict.keyAndDefault;refine wpAny_bind (wpAny_notOrdered_dict D.typeIs ?_);show wpAny _ _ (pure (d,y,some z)) _ _ s;refine wpAny_pure ?_;show wpAny _ _ (if(d == sysModules)=true then _ else(dictSetDefault d y z >>= _)) _ _ s;rw[if_neg (by rw[D.ne];exact Bool.false_ne_true)]
   refine wpAny_bind ?_;unfold dictSetDefault
   try with_reducible refine wpAny_holding ?_
   refine wpAny_bind (hh (wpAny_bind (zhs (s:={ s with toks:=s.toks+m }) D hk hb hu (fun e=>?_) fun j v e=>?_)))
   ·exact wpAny_bind (wpAny_rule (wpAny_bind (wpAny_updateDictKeys (hz:=D.line) (s:={ s with toks:=s.toks+m }) D.ho D.data (wpAny_pure (wpAny_pure ⟨_,rfl,h2 e⟩)))))
   ·obtain⟨x',u,e1,_,hu'⟩:=D.at e
    refine wpAny_bind (wpAny_dictEntries (s:={ s with toks:=s.toks+m }) D.ho D.data ?_)
    rw[e1];exact wpAny_bind (wpAny_rule (wpAny_pure (wpAny_pure ⟨_,rfl,h1 v u (zfV D.good.1 e) hu'⟩)))
  cases hf:dfind b es with
  |none =>
   by_cases hle:es.length≤1000
   ·simp only[if_pos hle]
    refine .inr (go (fun v u e=>by rw[hf] at e;cases e) fun e=>?_)
    have p:=D.push (tk:=s.toks+m) hr hi hb hz hk e hle;exact⟨c,_,π,rfl,p.1,p.2,hz.step p.1⟩
   ·simp only[if_neg hle];exact .inl rfl
  |some v=>exact .inr (go (fun v' u e hv=>by rw[hf] at e;cases e;exact OkP.tok hr hv) fun e=>by rw[hf] at e;cases e)
end
section
variable {am:Amb}{n:Nat}{q:Bool}{F:Fn}{c:Ck}
theorem zjb {p:Pos}:EJ am n q F c (.newDict []) (.Dict [] [] p):=fun {cx ρ A res π Hc s} B st=>by
 show JAt _ _ _ _ (R.ok (V.ref Hc.length) (Hc++[Cell.dict []])) _ _ _;refine .inr (wpAny_Dict_empty ?_);have k:∀ b o',s.heap.get? b=some o'→(s.heap.push { cls:=.type "dict",data:=.dict #[] }).get? b=some o':=fun z_ z_ e=>Heap.get?_push_of_some _ e;have lt:mainGlobals < s.heap.objs.size:=(HR.gns B.ok st.hr).lt;refine HR.grow (tk:=s.toks) st.hr (zai _) k ⟨_,[],Heap.get?_push_size _ rfl,⟨?_,_,_,rfl,rfl,rfl,rfl,⟨.nil,fun z_ h=>nomatch h⟩,rfl⟩,by decide,rfl⟩
 exact Nat.ne_of_gt (Nat.lt_of_le_of_lt (by decide) lt)
theorem zdx {h:H}{x y:V}{f:Nat→List (V × V)→R V}(hc:dcell h x=false):onDict h x y f=.bad:=by
 cases x with
 |ref i =>
  simp only[dcell] at hc;unfold onDict
  cases hq:h[i]? with
  |none=>simp only[hq]
  |some cc=>cases cc with
   |list vs=>simp only[hq]
   |dict es=>rw[hq] at hc;cases hc
 |_=>rfl
set_option tactic.hygienic true in
theorem zin {e o k d:PE}{v y z:Expr}{name:Str}{id:String}{p p':Pos}{g:H→V→V→V→R V}(hb:okBase v=true) (hl:(p.endLine == p'.line)=true) (hy:isStar y=false) (hz:isStar z=false) (slot:Slot "dict" name id) (hty:typeOf (.builtin id)=pure (.type "method_descriptor"))
  (ho:EJ am n q F c o v) (hk:EJ am n q F c k y) (hd:EJ am n q F c d z) (he:∀ ρ Hc,evE q F ρ e Hc=(evE q F ρ o Hc).bind fun x h=>if dcell h x then(evE q F ρ k h).bind fun y h=>(evE q F ρ d h).bind fun z h=>g h x y z else .bad)
  (hg:∀ h x y z,dcell h x=false→g h x y z=.bad)
  (op:∀ {res:List Addr}{stack:List Env}{A:Around}{π:List Addr}{s:Shared}{Hc:H}{a b c:V}{x y z:Value},AS n stack A→HR (am.at res) stack π Hc s.heap→VR (am.at res) π s.heap a x→VR (am.at res) π s.heap b y→VR (am.at res) π s.heap c z→dcell Hc a=true→JAt (am.at res) stack A (PySem.call (.builtin id) [x,y,z]) (g Hc a b c) (VR (am.at res)) π s) :
  EJ am n q F c e (.Call (.Attribute v name p) [y,z] [] p'):=fun {cx ρ A res π Hc s} B st=>by
 rw[he];have hst:∀ u∈[y,z],isStar u=false:=by
  intro u hu
  rcases List.mem_cons.1 hu with rfl|hu
  ·exact hy
  ·rw[List.mem_singleton.1 hu];exact hz
 refine JT.at (T:=fun Q E s=>wpAny am.M A (eval v cx.env) (fun ov s₁=>(s₁.TypeIs ov "dict"∧(∀ a,ov=.ref a→∃ ob,s₁.heap.get? a=some ob∧ob.dict=none))∧wpAny am.M A (eval y cx.env) (fun w s₂=>wpAny am.M A (eval z cx.env) (fun u s₃=>wpAny am.M A (PySem.call (.builtin id) [ov,w,u]) Q E s₃) E s₂) E s₁) E s)
  (JT.bind (fun z_=>PT.and (PT.seq _ _ fun z_=>PT.seq _ _ fun z_=>PT.wp _ _)) (ho B st) fun x u H1 π1 s1 z_ hs1 hr1 hv1=>?_) fun Q E h=>?_
 ·split
  ·rename_i hc
   obtain⟨i,l,es,rfl,rfl,hi,hH⟩:=zdN hv1 hc;obtain⟨o,arr,ep,xs,D⟩:=(hr1.cell i _ l hH hi).dict;have J:JT (am.at res) cx.stack (fun Q E s=>wpAny am.M A (eval y cx.env) (fun w s₂=>wpAny am.M A (eval z cx.env) (fun u s₃=>wpAny am.M A (PySem.call (.builtin id) [.ref l,w,u]) Q E s₃) E s₂) E s) ((evE q F ρ k H1).bind fun y h=>(evE q F ρ d h).bind fun z h=>g h (.ref i) y z) (VR (am.at res)) π1 s1 :=
    JT.bind (fun z_=>PT.seq _ _ fun z_=>PT.wp _ _) (hk B (st.step hs1 hr1)) fun w u H2 π2 s2 z_ hs2 hr2 hv2 =>
     JT.bind (fun z_=>PT.wp _ _) (hd B ((st.step hs1 hr1).step hs2 hr2)) fun w' u' H3 π3 s3 z_ hs3 hr3 hv3=>by
      cases hc3:dcell H3 (.ref i) with
      |true=>exact JAt.pt (op B.as hr3 ((hv1.step hs2).step hs3) (hv2.step hs3) hv3 hc3)
      |false=>exact .inl (hg _ _ _ _ hc3)
   exact J.rule fun Q E h=>⟨⟨D.typeIs,fun a e=>by cases e;exact⟨_,D.ho,D.dict⟩⟩,h⟩
  ·exact .inl rfl
 ·refine wpAny_Call_method (T:="dict") (id:=id) (zhD hb) (by rw[zad _ hst];rfl) hl PySem.F.plainAttrs_dict slot hty (wpAny_mono h (fun ov s₁ h₁=>⟨h₁.1.1,h₁.1.2,?_⟩) fun z_ z_ x=>x)
  rw[zad _ hst];exact Calls.callWith_builtin rfl (Calls.evalArgs_plain (spl2 h₁.2))
theorem zkQ {o k d:PE}{v y z:Expr}{p p':Pos}(hb:okBase v=true) (hl:(p.endLine == p'.line)=true) (hy:isStar y=false) (hz:isStar z=false) (ho:EJ am n q F c o v) (hk:EJ am n q F c k y) (hd:EJ am n q F c d z) :
  EJ am n q F c (.setdef o k d) (.Call (.Attribute v "setdefault" p) [y,z] [] p') :=
 zin (g:=setDef) hb hl hy hz PySem.F.slot_dict_setdefault PySem.F.type_dict_setdefault ho hk hd (fun z_ z_=>rfl) (fun z_ z_ z_ z_ h=>zdx h) fun as hr h1 h2 h3 hc=>zj0 as hr h1 h2 h3 hc
end
section
variable {am:Amb}{stack:List Env}{A:Around}{π:List Addr}{s:Shared}{Hc:H}
theorem zpB {n:Nat}{a b c:V}{x y z:Value}(as:AS n stack A) (hr:HR am stack π Hc s.heap) (ha:VR am π s.heap a x) (hb:VR am π s.heap b y) (hz:VR am π s.heap c z) (hd:dcell Hc a=true) :
  JAt am stack A (PySem.call (.builtin "dict.get") [x,y,z]) (getDef Hc a b c) (VR am) π s:=by
 obtain⟨i,d,es,rfl,rfl,hi,hc⟩:=zdN ha hd;unfold getDef onDict;simp only[hc]
 cases hk:keyOk b with
 |false=>exact .inl rfl
 |true =>
  rw[if_pos rfl];obtain⟨o,arr,ep,xs,D⟩:=(hr.cell i _ d hc hi).dict;have hu:A.in1.units < cLine:=as.uk (k:=1) (by decide)
  refine .inr (wpAny_call_entry PySem.F.slot_dict_get D.typeIs PySem.F.entry_dict_get ?_ (PySem.F.args_dict_get_3 _ _ _));show wpAny _ _ (dictGet d y >>= _) _ _ s;refine wpAny_bind (D.get hk hb hu (fun m e=>?_) fun m v w e hv=>?_)
  ·rw[e]
   show wpAny _ _ (Builtin.Dict.missed d y >>= _) _ _ _;exact wpAny_bind (wpAny_missed_other D.ne (wpAny_pure ⟨z,rfl,OkP.tok hr hz⟩))
  ·rw[e]
   exact wpAny_pure ⟨w,rfl,OkP.tok hr hv⟩
end
section
variable {am:Amb}{n:Nat}{q:Bool}{F:Fn}{c:Ck}
theorem zqk {o k d:PE}{v y z:Expr}{p p':Pos}(hb:okBase v=true) (hl:(p.endLine == p'.line)=true) (hy:isStar y=false) (hz:isStar z=false) (ho:EJ am n q F c o v) (hk:EJ am n q F c k y) (hd:EJ am n q F c d z) :
  EJ am n q F c (.get o k d) (.Call (.Attribute v "get" p) [y,z] [] p') :=
 zin (g:=getDef) hb hl hy hz PySem.F.slot_dict_get PySem.F.type_dict_get ho hk hd (fun z_ z_=>rfl) (fun z_ z_ z_ z_ h=>zdx h) fun as hr h1 h2 h3 hc=>zpB as hr h1 h2 h3 hc
theorem PT.wpd {α γ:Type}{A:Around}(M:Model) (m:Sem α) (f:α→γ):PT.Mono (fun(Q:γ→Shared→Prop) E s=>wpAny M A m (fun a s₁=>Q (f a) s₁) E s):=fun z_ z_ z_ z_ z_ h1 h2 h=>wpAny_mono h (fun z_ z_ x=>h1 _ _ x) h2
theorem zmn {a b:PE}{ky vy:Expr}{p:Pos}(hk:EJ am n q F c a ky) (hv:EJ am n q F c b vy):EJ am n q F c (.dict1 a b) (.Dict [some ky] [vy] p):=fun {cx ρ A res π Hc s} B st=>by
 rw[zav];have k:∀ b o',s.heap.get? b=some o'→(s.heap.push { cls:=.type "dict",data:=.dict #[] }).get? b=some o':=fun z_ z_ e=>Heap.get?_push_of_some _ e;have lt:mainGlobals < s.heap.objs.size:=(HR.gns B.ok st.hr).lt;obtain⟨v0,H0,π0,e0,hs0,hr0,hv0⟩:=HR.grow (tk:=s.toks) (c:=.dict []) st.hr (zai _) k ⟨_,[],Heap.get?_push_size _ rfl,⟨Nat.ne_of_gt (Nat.lt_of_le_of_lt (by decide) lt),_,_,rfl,rfl,rfl,rfl,⟨.nil,fun z_ h=>nomatch h⟩,rfl⟩,by decide,rfl⟩
 cases e0
 have hu:A.units < cLine:=B.as.uk (k:=0) (by decide)
 have J:JT (am.at res) cx.stack (fun Q E s1=>wpAny am.M A (eval ky cx.env) (fun kv s₁=>wpAny am.M A (eval vy cx.env) (fun vv s₂=>wpAny am.M A (dictSet s.heap.objs.size kv vv) (fun z_ s₃=>Q (.ref s.heap.objs.size) s₃) E s₂) E s₁) E s1)
   ((evE q F ρ a (Hc++[.dict []])).bind fun k h'=>(evE q F ρ b h').bind fun v h'=>match setiD h' Hc.length k v with|some h'=>R.ok (V.ref Hc.length) h'|Option.none=>.bad) (VR (am.at res)) π0 { s with heap:=s.heap.push { cls:=.type "dict",data:=.dict #[] } } :=
  JT.bind (fun z_=>PT.seq _ _ fun z_=>PT.wpd _ _ _) (hk B (st.step hs0 hr0)) fun kv kb H1 π1 s1 z_ hs1 hr1 hv1 =>
   JT.bind (fun z_=>PT.wpd _ _ _) (hv B ((st.step hs0 hr0).step hs1 hr1)) fun vv vb H2 π2 s2 z_ hs2 hr2 hv2=>by
    have hd:=(hv0.step hs1).step hs2;have hd':=hd;simp only[VR] at hd';obtain⟨_,e,hi⟩:=hd'
    cases e
    cases hq:H2[Hc.length]? with
    |none=>refine .inl ?_;simp only[setiD,hq]
    |some cc =>
     cases cc with
     |list vs=>refine .inl ?_;simp only[setiD,hq]
     |dict es =>
      simp only[setiD,hq];obtain⟨o,arr,ep,xs,D⟩:=(hr2.cell _ _ _ hq hi).dict
      cases hk':keyOk kb with
      |false=>exact .inl rfl
      |true =>
       by_cases hle:es.length≤1000
       ·rw[Bool.true_and,if_pos (decide_eq_true hle)]
        exact .inr (zeP (am:=am.at res) hu hr2 hi D hk' (hv1.step hs2) hv2 hle fun s' h1 h2=>⟨_,_,π2,rfl,h1,h2,hd.step h1⟩)
       ·rw[Bool.true_and,if_neg fun q=>hle (of_decide_eq_true q)];exact .inl rfl
 rcases J with j|j
 ·exact .inl j
 ·refine .inr (wpAny_Dict_any rfl rfl (by simp) (by simp) (pairTrees_cons_walk (wpAny_mono j (fun kv s₁ j=>wpAny_mono j (fun vv s₂ j=>pairTrees_nil_walk ?_) fun z_ z_ e=>e.step hs0) fun z_ z_ e=>e.step hs0)))
  unfold storeAll;rw[List.forIn_cons];refine wpAny_bind (wpAny_bind (wpAny_mono j (fun z_ s₃ q=>wpAny_pure ?_) fun z_ z_ e=>e.step hs0));dsimp only;rw[List.forIn_nil];exact wpAny_pure (q.step hs0)
end
noncomputable def ItR (am:Amb) (stack:List Env) (A:Around) (h₀:Heap) (π:List Addr) (h:Heap) (b:List V × Watch) (x:Value):Prop :=
 ∃ I,x=.ref I∧h₀.get? I=none∧am.B.get? I=none∧(∃ Sx,Iter am stack A I b.2 b.1 Sx∧Sx 0 π h) ∧
  ∀ R h',(∀ a∈R,a∈am.res∨h.get? a=none)→(∀ b o,h.get? b=some o→h'.get? b=some o)→∃ Sx,Iter (am.at R) stack A I b.2 b.1 Sx∧Sx 0 π h'
section
variable {am:Amb}{stack:List Env}{A:Around}{π:List Addr}{s:Shared}{Hc:H}
theorem zbU (hr:HR am stack π Hc s.heap){a:Addr}(h:s.heap.get? a=none):am.B.get? a=none:=zbj hr.base h
theorem zeY {h:Heap}{a b:Addr}{o:Obj}(h1:h.get? a=none) (h2:h.get? b=some o):b≠a:=fun q=>by subst q;rw[h1] at h2;cases h2
theorem zi4 {am:Amb}{R:List Addr}{h:Heap}{a:Addr}{o:Obj}(hR:∀ a∈R,a∈am.res∨h.get? a=none) (ho:h.get? a=some o) (ha:a ∉ am.res):a ∉ R:=fun q=>by
 rcases hR a q with z|z
 ·exact ha z
 ·rw[ho] at z;cases z
theorem zqO {am:Amb}{R π:List Addr}{h:Heap}(hR:∀ a∈R,a∈am.res∨h.get? a=none):Via am (am.at R) π π h h:=⟨fun a o ho z_ h1 h2=>⟨⟨o.slots,ho⟩,h1,zi4 hR ho h2⟩,fun z_ z_ e=>e⟩
theorem zo6 {T T':String}{l:Addr}{vs:List V}{xs:List Value}(It:∀ {am:Amb}{I:Addr},Iter am stack A I none vs (SqS am stack I l vs T T')) (hr:HR am stack π Hc s.heap) (hl:l ∉ π∧l ∉ am.res) (h1:IsSq T s.heap l xs) (hv:VRs am π s.heap vs xs) :
  OkP am stack (ItR am stack A s.heap) π s (.ok (vs,none) Hc) (.ref s.heap.objs.size) { s with heap:=s.heap.push { cls:=.type T',data:=.fields #[.ref l,.int 0 0] } }:=by
 have hI:=zai s.heap;have k:∀ b o,s.heap.get? b=some o→(s.heap.push { cls:=.type T',data:=.fields #[.ref l,.int 0 0] }).get? b=some o:=fun b o q=>Heap.get?_push_of_some _ q;have hp:(s.heap.push { cls:=.type T',data:=.fields #[.ref l,.int 0 0] }).get? s.heap.objs.size=some _:=Heap.get?_push_size _ rfl;obtain⟨o,ho,r⟩:=h1;refine OkP.keeps (tk:=s.toks) hr k ⟨_,rfl,hI,zbU hr hI,⟨_,It,⟨zar hr hI,za6 hr hI,⟨_,hp,rfl,rfl⟩,⟨hl.1,zal hr hI,hl.2⟩,xs,⟨o,k _ _ ho,r⟩,hv.keeps k⟩⟩,fun R h' hR kk =>
  ⟨_,It,⟨zar hr hI,za6 hr hI,⟨_,kk _ _ hp,rfl,rfl⟩,⟨hl.1,zi4 hR hp (zal hr hI),zi4 hR (k _ _ ho) hl.2⟩,xs,⟨o,kk _ _ (k _ _ ho),r⟩,((hv.keeps k).via (zqO hR)).keeps kk⟩⟩⟩
theorem znU {a:V}{x:Value}(hh:A.handled=none) (hr:HR am stack π Hc s.heap) (ha:VR am π s.heap a x) :
  JAt am stack A (pyIter x) (R.opt (iterOf Hc a) Hc) (ItR am stack A s.heap) π s:=by
 have hI:=zai s.heap
 cases a with
 |lst vs =>
  simp only[VR] at ha;refine hold fun z_ k_=>?_;obtain⟨l,xs,rfl,hl,h1,hz,hv⟩:=ha;refine k_ ?_;exact .inr (wpAny_pyIter_list h1 (zo6 (Iter.lst hh) hr hl h1 hv))
 |tup vs =>
  simp only[VR] at ha;refine hold fun z_ k_=>?_;obtain⟨l,xs,rfl,hl,h1,hz,hv⟩:=ha;refine k_ ?_;exact .inr (wpAny_pyIter_tuple h1 (zo6 (Iter.tup hh) hr hl h1 hv))
 |ref i =>
  simp only[VR] at ha;obtain⟨l,rfl,hi⟩:=ha;simp only[iterOf]
  cases hH:Hc[i]? with
  |none=>exact .inl rfl
  |some cc =>
   have hc:=hr.cell i cc l hH hi
   cases cc with
   |dict es =>
    obtain⟨o,arr,ep,xs,D⟩:=hc.dict;refine .inr (D.raw.iter D.ho ?_);rw[D.size];have k:∀ b o,s.heap.get? b=some o→(s.heap.push { cls:=.type "dict_keyiterator",data:=.fields #[.ref l,.int 0 0,.int es.length 0,.int es.length 0] }).get? b=some o:=fun b o q=>Heap.get?_push_of_some _ q;have hp:(s.heap.push { cls:=.type "dict_keyiterator",data:=.fields #[.ref l,.int 0 0,.int es.length 0,.int es.length 0] }).get? s.heap.objs.size=some _:=Heap.get?_push_size _ rfl
    refine OkP.keeps (tk:=s.toks) hr k ⟨_,rfl,hI,zbU hr hI,⟨_,Iter.dict hh,⟨zar hr hI,⟨za6 hr hI,zal hr hI⟩,l,hi,⟨_,hp,rfl,rfl⟩⟩⟩,fun R h' hR kk =>
     ⟨_,Iter.dict hh,⟨zar hr hI,⟨za6 hr hI,zi4 hR hp (zal hr hI)⟩,l,hi,⟨_,kk _ _ hp,rfl,rfl⟩⟩⟩⟩
   |list vs =>
    refine hold fun z_ k_=>?_;obtain⟨xs,h1,hz,hv⟩:=hc.list;refine k_ ?_;refine .inr (wpAny_pyIter_list h1.is ?_);have k:∀ b o,s.heap.get? b=some o→(s.heap.push { cls:=.type "list_iterator",data:=.fields #[.ref l,.int 0 0] }).get? b=some o:=fun b o q=>Heap.get?_push_of_some _ q;have hp:(s.heap.push { cls:=.type "list_iterator",data:=.fields #[.ref l,.int 0 0] }).get? s.heap.objs.size=some _:=Heap.get?_push_size _ rfl
    refine OkP.keeps (tk:=s.toks) hr k ⟨_,rfl,hI,zbU hr hI,⟨_,Iter.cell hh,⟨zar hr hI,⟨za6 hr hI,zal hr hI⟩,l,hi,⟨_,hp,rfl,rfl⟩⟩⟩,fun R h' hR kk =>
     ⟨_,Iter.cell hh,⟨zar hr hI,⟨za6 hr hI,zi4 hR hp (zal hr hI)⟩,l,hi,⟨_,kk _ _ hp,rfl,rfl⟩⟩⟩⟩
 |_=>exact .inl rfl
theorem zni (n:Int):upto n=(List.range n.toNat).map fun(i:Nat)=>V.int (0+(i:Int) * 1):=by
 unfold upto;congr 1;funext i;rw[Int.mul_one,Int.zero_add]
theorem zkH (a b:Int):fromTo a b=(List.range (b - a).toNat).map fun(i:Nat)=>V.int (a+(i:Int) * 1):=by
 unfold fromTo;congr 1;funext i;rw[Int.mul_one]
theorem range_at {a c:Int}{k:Nat}(hh:A.handled=none) (hr:HR am stack π Hc s.heap){o:Obj}(ho:o={ cls:=.type "range_iterator",data:=.fields #[rawInt a,rawInt (k:Int),rawInt c] }){tk:Nat} :
  OkP am stack (ItR am stack A s.heap) π s (.ok ((List.range k).map (fun(i:Nat)=>V.int (a+(i:Int) * c)),none) Hc) (.ref s.heap.objs.size) { s with heap:=s.heap.push o,toks:=tk }:=by
 have hI:=zai s.heap;subst ho;have e1:(a+((0:Nat):Int) * c)=a:=by simp
 have e2:((k:Int) - ((0:Nat):Int))=(k:Int):=by simp
 have hp:(s.heap.push { cls:=.type "range_iterator",data:=.fields #[rawInt a,rawInt (k:Int),rawInt c] }).get? s.heap.objs.size=some { cls:=.type "range_iterator",data:=.fields #[rawInt (a+((0:Nat):Int) * c),rawInt ((k:Int) - ((0:Nat):Int)),rawInt c] }:=by
  rw[e1,e2];exact Heap.get?_push_size _ rfl
 exact OkP.keeps hr (fun b o q=>Heap.get?_push_of_some _ q) ⟨_,rfl,hI,zbU hr hI,⟨_,Iter.range hh a c k,⟨zar hr hI,⟨za6 hr hI,zal hr hI⟩,hp⟩⟩,fun R h' hR kk =>
  ⟨_,Iter.range hh a c k,⟨zar hr hI,⟨za6 hr hI,zi4 hR hp (zal hr hI)⟩,kk _ _ hp⟩⟩⟩
theorem ItR.less {h₀ h₁:Heap}(k:∀ b o,h₀.get? b=some o→∃ o',h₁.get? b=some o'){h:Heap}{b:List V × Watch}{x:Value}(e:ItR am stack A h₁ π h b x):ItR am stack A h₀ π h b x:=by
 refine hold fun z_ k_=>?_;obtain⟨I,h1,h2,r⟩:=e;refine k_ ?_;refine⟨I,h1,?_,r⟩
 cases hq:h₀.get? I with
 |none=>rfl
 |some o=>obtain⟨o',h6⟩:=k I o hq;rw[h2] at h6;cases h6
theorem OkP.itLess {h₀ h₁:Heap}(k:∀ b o,h₀.get? b=some o→∃ o',h₁.get? b=some o'){r:R (List V × Watch)}{x:Value}{s':Shared}(e:OkP am stack (ItR am stack A h₁) π s r x s'):OkP am stack (ItR am stack A h₀) π s r x s':=by
 refine hold fun z_ k_=>?_;obtain⟨b,H',π',h1,h2,h3,h4⟩:=e;refine k_ ?_;exact⟨b,H',π',h1,h2,h3,h4.less k⟩
theorem zjm {k:Int}{t:Tok}(hh:A.handled=none) (hr:HR am stack π Hc s.heap) (hk:-1000000≤k∧k≤1000000){E:Value→Shared→Prop} :
  wpAny am.M A (PySem.call (.type "range") [.int k t]) (fun x s₁=>wpAny am.M A (pyIter x) (OkP am stack (ItR am stack A s.heap) π s (.ok (upto k,none) Hc)) E s₁) E s:=by
 refine call_range_1 ?_;refine wpAny_pyIter_range (IsRange.new ..) (small_one (by decide) (by decide) (Int.le_trans (by decide) hk.1) (Int.lt_of_le_of_lt hk.2 (by decide))) ?_
 have hsz:Builtin.Range.rangeSize 0 k 1=(k.toNat:Int):=by rw[rangeSize_nat,Int.sub_zero]
 rw[zni];have k1:∀ b o,s.heap.get? b=some o→(s.heap.push { cls:=.type "range",data:=.fields #[.int 0 s.toks,.int k t,.int 1 (s.toks+1)] }).get? b=some o:=fun b o q=>Heap.get?_push_of_some _ q;refine OkP.step (Step.keeps (tk:=s.toks+1+1) k1) (OkP.itLess (fun b o q=>⟨o,k1 b o q⟩) (range_at (s:={ s with heap:=s.heap.push { cls:=.type "range",data:=.fields #[.int 0 s.toks,.int k t,.int 1 (s.toks+1)] },toks:=s.toks+1+1 }) (tk:=s.toks+1+1) hh (hr.keeps k1) ?_))
 rw[hsz]
theorem zjl {j k:Int}{t u:Tok}(hh:A.handled=none) (hr:HR am stack π Hc s.heap) (hk:-1000000≤j∧j≤1000000∧-1000000≤k∧k≤1000000){E:Value→Shared→Prop} :
  wpAny am.M A (PySem.call (.type "range") [.int j t,.int k u]) (fun x s₁=>wpAny am.M A (pyIter x) (OkP am stack (ItR am stack A s.heap) π s (.ok (fromTo j k,none) Hc)) E s₁) E s:=by
 refine call_range_2 ?_;refine wpAny_pyIter_range (IsRange.new ..) (small_one (Int.le_trans (by decide) hk.1) (Int.lt_of_le_of_lt hk.2.1 (by decide)) (Int.le_trans (by decide) hk.2.2.1) (Int.lt_of_le_of_lt hk.2.2.2 (by decide))) ?_
 have hsz:Builtin.Range.rangeSize j k 1=((k - j).toNat:Int):=rangeSize_nat j k;rw[zkH];have k1:∀ b o,s.heap.get? b=some o→(s.heap.push { cls:=.type "range",data:=.fields #[.int j t,.int k u,.int 1 s.toks] }).get? b=some o:=fun b o q=>Heap.get?_push_of_some _ q;refine OkP.step (Step.keeps (tk:=s.toks+1) k1) (OkP.itLess (fun b o q=>⟨o,k1 b o q⟩) (range_at (s:={ s with heap:=s.heap.push { cls:=.type "range",data:=.fields #[.int j t,.int k u,.int 1 s.toks] },toks:=s.toks+1 }) (tk:=s.toks+1) hh (hr.keeps k1) ?_))
 rw[hsz]
end
section
variable {am:Amb}{n:Nat}{F:Fn}{c:Ck}
noncomputable def ItJ (am:Amb) (n:Nat) (F:Fn) (c:Ck) (it:PIt) (x:Expr):Prop:=∀ {cx:Cx}{ρ:List V}{A:Around}{res π:List Addr}{Hc:H}{s:Shared},Base am n true F c cx ρ A→St (am.at res) true cx ρ π Hc A s →
 JT (am.at res) cx.stack (fun Q E s=>wpAny am.M A (eval x cx.env) (fun xv s₁=>wpAny am.M A (pyIter xv) Q E s₁) E s) (evIt true F ρ it Hc) (ItR (am.at res) cx.stack A s.heap) π s
theorem zp1 {e:PE}{x:Expr}(h:EJ am n true F c e x):ItJ am n F c (.seq e) x:=fun {cx ρ A res π Hc s} B st=>by
 simp only[zpo,zqG,zpn,zpm,zqF];exact JT.bind (fun z_=>PT.wp _ _) (h B st) fun y v H1 π1 s1 z_ hs1 hr1 hv1=>JAt.pt ((znU (Hd.quiet st.hd) hr1 hv1).mono fun z_ z_ z_ z_ e=>e.less hs1.ext.alive)
set_option tactic.hygienic true in
theorem zkr {e:PE}{y:Expr}{p p':Pos}(hx:c.glob "range"=true) (hy:isStar y=false) (h:EJ am n true F c e y):ItJ am n F c (.range1 e) (.Call (.Name "range" p) [y] [] p'):=fun {cx ρ A res π Hc s} B st=>by
 simp only[zpo,zqG,zpn,zpm,zqF];refine JT.rule (T:=fun Q E s=>wpAny am.M A (eval y cx.env) (fun v s₁=>wpAny am.M A (PySem.call (.type "range") [v]) (fun xv s₂=>wpAny am.M A (pyIter xv) Q E s₂) E s₁) E s)
  (JT.bind (fun z_=>PT.seq _ _ fun z_=>PT.wp _ _) (h B st) fun z v H1 π1 s1 z_ hs1 hr1 hv1=>?_) fun Q E h=>zaF B st.hr hx (zc8 (by kernel_rfl)) (by simpa using hy) (spl1 h)
 cases v with
 |int k =>
  simp only[VR] at hv1;obtain⟨t,rfl⟩:=hv1;dsimp only
  split
  ·rename_i hk;exact .inr (wpAny_mono (zjm (Hd.quiet st.hd) hr1 hk) (fun z_ z_ h=>wpAny_mono h (fun z_ z_ h=>h.itLess hs1.ext.alive) fun z_ z_ h=>h) fun z_ z_ h=>h)
  ·exact .inl rfl
 |_=>exact .inl rfl
set_option tactic.hygienic true in
theorem zkq {e f:PE}{y z:Expr}{p p':Pos}(hx:c.glob "range"=true) (hy:isStar y=false) (hz:isStar z=false) (h:EJ am n true F c e y) (h':EJ am n true F c f z):ItJ am n F c (.range2 e f) (.Call (.Name "range" p) [y,z] [] p'):=fun {cx ρ A res π Hc s} B st=>by
 simp only[zpo,zqG,zpn,zpm,zqF];refine JT.rule (T:=fun Q E s=>wpAny am.M A (eval y cx.env) (fun v s₁=>wpAny am.M A (eval z cx.env) (fun w s₁=>wpAny am.M A (PySem.call (.type "range") [v,w]) (fun xv s₂=>wpAny am.M A (pyIter xv) Q E s₂) E s₁) E s₁) E s)
  (JT.bind (fun z_=>PT.seq _ _ fun z_=>PT.seq _ _ fun z_=>PT.wp _ _) (h B st) fun u v H1 π1 s1 z_ hs1 hr1 hv1=>JT.bind (fun z_=>PT.seq _ _ fun z_=>PT.wp _ _) (h' B (st.step hs1 hr1)) fun u2 v2 H2 π2 s2 z_ hs2 hr2 hv2=>?_)
  fun Q E h=>zaF B st.hr hx (zc8 (by kernel_rfl)) (by intro a ha;rcases List.mem_cons.mp ha with rfl|ha;exact hy;rw[List.mem_singleton.mp ha];exact hz) (spl2 h)
 have hv1':=hv1.step hs2
 cases v with
 |int j=>cases v2 with
  |int k =>
   simp only[VR] at hv1' hv2;obtain⟨t,rfl⟩:=hv1';obtain⟨t2,rfl⟩:=hv2;dsimp only
   split
   ·rename_i hk;exact .inr (wpAny_mono (zjl (Hd.quiet st.hd) hr2 hk) (fun z_ z_ h=>wpAny_mono h (fun z_ z_ h=>h.itLess (hs1.trans hs2).ext.alive) fun z_ z_ h=>h) fun z_ z_ h=>h)
   ·exact .inl rfl
  |_=>exact .inl rfl
 |_=>exact .inl rfl
end
section
variable {am:Amb}{stack:List Env}{A:Around}{π:List Addr}{s:Shared}{Hc:H}
theorem zhL {h:Heap}:∀ {n b:Nat}{xs:List Value},xs.length=n→(∀ i v,xs[i]?=some v→∃ t,v=Value.int (((b+i:Nat):Int)) t)→VRs am π h ((List.range' b n).map fun i:Nat=>V.int (i:Int)) xs
 |0,b,xs,e,_=>List.eq_nil_of_length_eq_zero e
 |n+1,b,[],e,_=>nomatch e
 |n+1,b,x::xs,e,hx=>by
  rw[List.range'_succ,List.map_cons];refine⟨x,xs,rfl,hx 0 x rfl,zhL (Nat.succ.inj e) fun i v hv=>?_⟩;rw[Nat.add_assoc,Nat.add_comm 1 i];exact hx (i+1) v hv
theorem zf8 {k:Int}{t:Tok}{Q:Value→Shared→Prop}{E:Value→Shared→Prop}(hh:A.handled=none) (hk:-1000000≤k∧k≤1000000) (h:∀ y s',NewL am π s (upto k) y s'→Q y s') :
  wpAny am.M A (call (.type "range") [.int k t]) (fun y s'=>wpAny am.M A (call (.type "list") [y]) Q E s') E s:=by
 refine call_range_1 ?_;have hsz:Builtin.Range.rangeSize 0 k 1=(k.toNat:Int):=by rw[rangeSize_nat,Int.sub_zero]
 have hkn:k.toNat≤1000000:=Int.toNat_le.2 hk.2;refine call_list_range (s:={ s with heap:=s.heap.push { cls:=.type "range",data:=.fields #[.int 0 s.toks,.int k t,.int 1 (s.toks+1)] },toks:=s.toks+1+1 }) hh (IsRange.new ..) (small_one (by decide) (by decide) (Int.le_trans (by decide) hk.1) (Int.lt_of_le_of_lt hk.2 (by decide))) hsz (Nat.le_trans hkn (by decide)) fun h' tk acc' c' kp hn hacc=>?_
 have k':∀ b o,s.heap.get? b=some o→h'.get? b=some o:=fun b o q=>kp b o (Heap.get?_push_of_some _ q);have hnew:s.heap.get? (s.heap.push { cls:=.type "range",data:=.fields #[.int 0 s.toks,.int k t,.int 1 (s.toks+1)] }).objs.size=none:=by
  cases q:s.heap.get? (s.heap.push { cls:=.type "range",data:=.fields #[.int 0 s.toks,.int k t,.int 1 (s.toks+1)] }).objs.size with
  |none=>rfl
  |some o =>
   have h5:=Heap.lt_size q;simp only[Heap.size_push] at h5;exact absurd h5 (Nat.not_lt.mpr (Nat.le_succ _))
 have hv:VRs am π s.heap (upto k) acc'.toList:=by
  unfold upto;rw[List.range_eq_range'];refine zhL (by rw[Array.length_toList];exact hacc.1) fun i v hv=>?_
  obtain⟨t',e⟩:=hacc.2 i v (by rw[←Array.getElem?_toList];exact hv)
  exact⟨t',by rw[e,Int.zero_add,Int.mul_one,Nat.zero_add]⟩
 exact h _ _ ⟨_,acc'.toList,h',tk,rfl,rfl,k',hnew,⟨_,c',by rw[Array.toArray_toList];exact hn,rfl,rfl,rfl⟩,(hv.held hnew).keeps k'⟩
end
section
variable {am:Amb}{n:Nat}{q:Bool}{F:Fn}{c:Ck}
set_option tactic.hygienic true in
theorem zmi {a:PE}{y:Expr}{p p' p2 p2':Pos}(hx:c.glob (bfName .list)=true) (hx2:c.glob "range"=true) (hy:isStar y=false) (ha:EJ am n q F c a y) :
  FJ am n q F c (.bf .listRange a) (.Call (.Name (bfName .listRange) p) [.Call (.Name "range" p2) [y] [] p2'] [] p'):=fun {cx ρ A res π Hc s} B st=>by
 rw[zaA]
 split
 ·exact .inl rfl
 ·rename_i hq
  have hq':q=true:=by cases q<;>simp[Bf.walks] at hq ⊢
  subst hq';have hh:=Hd.quiet st.hd;refine JF.rule (T:=fun Q E s=>wpAny am.M A (eval y cx.env) (fun v s₁=>wpAny am.M A (PySem.call (.type "range") [v]) (fun i s₂=>wpAny am.M A (PySem.call (.type "list") [i]) Q E s₂) E s₁) E s)
   (JF.bind (fun z_=>PT.seq _ _ fun z_=>PT.wp _ _) (ha B st) fun x v H1 π1 s1 z_ hs1 hr1 hv1=>?_)
   fun Q E h=>zaF B st.hr hx (ziB .listRange) (fun z hz=>by rw[List.mem_singleton.mp hz];rfl) (spl1 (zaF B st.hr hx2 (zc8 (by kernel_rfl)) (by simpa using hy) (spl1 h)))
  unfold bf;dsimp only
  cases v with
  |int k =>
   simp only[VR] at hv1;obtain⟨t,rfl⟩:=hv1;dsimp only
   split
   ·rename_i hk
    exact .inr (zf8 (am:=am.at res) hh hk fun y s' h=>FrP.new rfl (.refl ..) hr1 (by unfold upto;rw[List.length_map,List.length_range];exact Int.toNat_le.2 hk.2) h)
   ·exact .inl rfl
  |_=>exact .inl rfl
end
section
variable {am:Amb}{stack:List Env}{A:Around}{π:List Addr}{Hc:H}{s:Shared}
theorem zkX (a b:Int):downTo a b=(List.range (a - b).toNat).map fun(i:Nat)=>V.int (a+(i:Int) * (-1)):=by
 unfold downTo;congr 1;funext i;rw[Int.mul_neg,Int.mul_one];rfl
theorem zjk {j k:Int}{t u v:Tok}(hh:A.handled=none) (hr:HR am stack π Hc s.heap) (hk:-1000000≤j∧j≤1000000∧-1000000≤k∧k≤1000000){E:Value→Shared→Prop} :
  wpAny am.M A (PySem.call (.type "range") [.int j t,.int k u,.int (-1) v]) (fun x s₁=>wpAny am.M A (pyIter x) (OkP am stack (ItR am stack A s.heap) π s (.ok (downTo j k,none) Hc)) E s₁) E s:=by
 refine call_range_3 (by decide) ?_ (.inl (PyProof.noPylong_small (by decide)))
 refine wpAny_pyIter_range (IsRange.new ..) (small_down (Int.le_trans (by decide) hk.1) (Int.lt_of_le_of_lt hk.2.1 (by decide)) (Int.le_trans (by decide) hk.2.2.1) (Int.lt_of_le_of_lt hk.2.2.2 (by decide))) ?_
 rw[zkX];have k1:∀ b o,s.heap.get? b=some o→(s.heap.push { cls:=.type "range",data:=.fields #[.int j t,.int k u,.int (-1) v] }).get? b=some o:=fun b o q=>Heap.get?_push_of_some _ q;refine OkP.step (Step.keeps (tk:=s.toks) k1) (OkP.itLess (fun b o q=>⟨o,k1 b o q⟩) (range_at (s:={ s with heap:=s.heap.push { cls:=.type "range",data:=.fields #[.int j t,.int k u,.int (-1) v] } }) (tk:=s.toks) hh (hr.keeps k1) ?_))
 rw[rangeSize_downNat]
end
section
variable {am:Amb}{n:Nat}{F:Fn}{c:Ck}
theorem spl3 {M:Model}{A:Around}{env:Env}{y z w:Expr}{Q:List Value→Shared→Prop}{E:Value→Shared→Prop}{s:Shared}(h:wpAny M A (eval y env) (fun v s₁=>wpAny M A (eval z env) (fun u s₂=>wpAny M A (eval w env) (fun x s₃=>Q [v,u,x] s₃) E s₂) E s₁) E s):wpAny M A (spliced (zap [y,z,w] env)) Q E s :=
 Calls.spliced_cons (wpAny_mono h (fun z_ z_ h=>Calls.spliced_cons (wpAny_mono h (fun z_ z_ h=>Calls.spliced_cons (wpAny_mono h (fun z_ z_ h=>Calls.spliced_nil h) fun z_ z_ x=>x)) fun z_ z_ x=>x)) fun z_ z_ x=>x)
set_option tactic.hygienic true in
theorem zkp {e f g:PE}{y z w:Expr}{p p':Pos}(hx:c.glob "range"=true) (hs:∀ a∈[y,z,w],isStar a=false) (h:EJ am n true F c e y) (h':EJ am n true F c f z) (h'':EJ am n true F c g w):ItJ am n F c (.range3 e f g) (.Call (.Name "range" p) [y,z,w] [] p'):=fun {cx ρ A res π Hc s} B st=>by
 simp only[zpo,zqG,zpn,zpm,zqF];refine JT.rule (T:=fun Q E s=>wpAny am.M A (eval y cx.env) (fun v s₁=>wpAny am.M A (eval z cx.env) (fun w' s₁=>wpAny am.M A (eval w cx.env) (fun u s₁=>wpAny am.M A (PySem.call (.type "range") [v,w',u]) (fun xv s₂=>wpAny am.M A (pyIter xv) Q E s₂) E s₁) E s₁) E s₁) E s)
  (JT.bind (fun z_=>PT.seq _ _ fun z_=>PT.seq _ _ fun z_=>PT.seq _ _ fun z_=>PT.wp _ _) (h B st) fun u v H1 π1 s1 z_ hs1 hr1 hv1=>JT.bind (fun z_=>PT.seq _ _ fun z_=>PT.seq _ _ fun z_=>PT.wp _ _) (h' B (st.step hs1 hr1)) fun u2 v2 H2 π2 s2 z_ hs2 hr2 hv2 =>
   JT.bind (fun z_=>PT.seq _ _ fun z_=>PT.wp _ _) (h'' B ((st.step hs1 hr1).step hs2 hr2)) fun u3 v3 H3 π3 s3 z_ hs3 hr3 hv3=>?_)
  fun Q E h=>zaF B st.hr hx (zc8 (by kernel_rfl)) hs (spl3 h)
 have hv1':=(hv1.step hs2).step hs3;have hv2':=hv2.step hs3
 cases v with
 |int j=>cases v2 with
  |int k=>cases v3 with
   |int d =>
    simp only[VR] at hv1' hv2' hv3;obtain⟨t,rfl⟩:=hv1';obtain⟨t2,rfl⟩:=hv2';obtain⟨t3,rfl⟩:=hv3;dsimp only
    split
    ·rename_i hk
     unfold rng3
     by_cases hd:d=-1
     ·subst hd
      rw[if_pos rfl];exact .inr (wpAny_mono (zjk (Hd.quiet st.hd) hr3 hk) (fun z_ z_ h=>wpAny_mono h (fun z_ z_ h=>h.itLess ((hs1.trans hs2).trans hs3).ext.alive) fun z_ z_ h=>h) fun z_ z_ h=>h)
     ·rw[if_neg hd];exact .inl rfl
    ·exact .inl rfl
   |_=>exact .inl rfl
  |_=>exact .inl rfl
 |_=>exact .inl rfl
end
theorem zci (outer:List (Str × NameKind)):∀ (names:List (Str × NameKind)) (y:Str),(relab outer names).lookup y=(names.lookup y).map fun k=>if(k == .free&&outer.lookup y == some .cell)=true then .cell else k
 |[],y=>rfl
 |(n,k)::r,y=>by
  have ih:=zci outer r y;unfold relab at ih ⊢
  rw[List.map_cons];show List.lookup y ((if(k == NameKind.free&&outer.lookup n == some .cell)=true then(n,NameKind.cell) else(n,k))::_)=_
  by_cases hy:y=n
  ·subst hy
   by_cases hc:(k == .free&&outer.lookup y == some .cell)=true
   ·rw[if_pos hc];simp only[List.lookup_cons,beq_self_eq_true,Option.map_some];rw[if_pos hc]
   ·rw[if_neg hc];simp only[List.lookup_cons,beq_self_eq_true,Option.map_some];rw[if_neg hc]
  ·have hb:(y == n)=false:=beq_eq_false_iff_ne.mpr hy
   by_cases hc:(k == .free&&outer.lookup n == some .cell)=true
   ·rw[if_pos hc];simp only[List.lookup_cons,hb];exact ih
   ·rw[if_neg hc];simp only[List.lookup_cons,hb];exact ih
theorem zaZ {α β:Type} [BEq α] [LawfulBEq α]:∀ {l:List (α × β)}{x:α}{v:β},l.lookup x=some v→(x,v)∈l
 |[],_,_,h=>by simp at h
 |(a,b)::l,x,v,h=>by
  rw[List.lookup_cons] at h
  cases hx:x == a with
  |true=>rw[hx] at h;cases h;rw[eq_of_beq hx];exact List.mem_cons_self
  |false=>rw[hx] at h;exact List.mem_cons_of_mem _ (zaZ h)
theorem zb4 {scope:Scope}{env:Env}(hk:env.scope.kind=.function):(relabel scope env).names=relab env.scope.names scope.names:=by
 unfold relabel relab;simp only
 congr 1
 funext p
 obtain⟨n,k⟩:=p;simp only[hk,Env.kindOf,beq_self_eq_true,Bool.and_true]
theorem zdk {env:Env}:∀ (names:List (Str × NameKind)) (acc:List (Str × Addr)),(∀ p∈names,p.2=.free→∃ c,env.cells.lookup p.1=some c)→(∀ y c,acc.lookup y=some c→env.cells.lookup y=some c) →
  ∃ cl,(forIn names acc fun(p:Str × NameKind) (cs:List (Str × Addr))=>(if p.2 == .free then do let c ← cellOf env p.1;pure (ForInStep.yield ((p.1,c)::cs)) else pure (ForInStep.yield cs):Sem (ForInStep (List (Str × Addr)))))=(pure cl:Sem (List (Str × Addr))) ∧
   (∀ y c,cl.lookup y=some c→env.cells.lookup y=some c)∧(∀ p∈names,p.2=.free→∃ c,cl.lookup p.1=some c)∧(∀ y c,acc.lookup y=some c→∃ c',cl.lookup y=some c')
 |[],acc,_,h2=>⟨acc,rfl,h2,by simp,fun y c h=>⟨c,h⟩⟩
 |p::names,acc,h1,h2=>by
  rw[List.forIn_cons]
  by_cases hp:p.2=.free
  ·obtain⟨c,hc⟩:=h1 p List.mem_cons_self hp
   have hcell:cellOf env p.1=pure c:=by unfold cellOf;rw[hc]
   have hb:(p.2 == NameKind.free)=true:=by simp[hp]
   simp only[hb,if_true,hcell,pure_bind];obtain⟨cl,e1,e2,e3,e4⟩:=zdk names ((p.1,c)::acc) (fun q hq=>h1 q (List.mem_cons_of_mem _ hq)) (fun y c' h=>by
    rw[List.lookup_cons] at h
    cases hx:y == p.1 with
    |true=>rw[hx] at h;cases h;rw[eq_of_beq hx];exact hc
    |false=>rw[hx] at h;exact h2 y c' h)
   refine⟨cl,e1,e2,fun q hq hqf=>?_,fun y c' h=>?_⟩
   ·rcases List.mem_cons.mp hq with rfl|hq
    ·exact e4 q.1 c (by simp[List.lookup_cons])
    ·exact e3 q hq hqf
   ·cases hx:y == p.1 with
    |true=>exact e4 y c (by rw[List.lookup_cons,hx])
    |false=>exact e4 y c' (by rw[List.lookup_cons,hx];exact h)
  ·have hb:(p.2 == NameKind.free)=false:=by simpa using hp
   simp only[hb,Bool.false_eq_true,if_false,pure_bind];refine hold fun z_ k_=>?_;obtain⟨cl,e1,e2,e3,e4⟩:=zdk names acc (fun q hq=>h1 q (List.mem_cons_of_mem _ hq)) h2;refine k_ ?_;refine⟨cl,e1,e2,fun q hq hqf=>?_,e4⟩
   rcases List.mem_cons.mp hq with rfl|hq
   ·exact absurd hqf hp
   ·exact e3 q hq hqf
theorem zhy {scope:Scope}{env:Env}(h:∀ p∈scope.names,p.2=.free→∃ c,env.cells.lookup p.1=some c) :
  ∃ cl,closureFor scope env=pure cl∧(∀ y c,cl.lookup y=some c→env.cells.lookup y=some c)∧∀ p∈scope.names,p.2=.free→∃ c,cl.lookup p.1=some c:=by
 refine hold fun z_ k_=>?_;obtain⟨cl,e1,e2,e3,_⟩:=zdk scope.names [] h (by simp)
 refine k_ ?_;refine⟨cl,?_,e2,e3⟩;exact(congrArg (fun t:Sem (List (Str × Addr))=>t >>= fun cs=>pure cs) e1).trans (pure_bind _ _)
section
variable {am:Amb}{π:List Addr}{h:Heap}
theorem SR.held {v:V}{x:Value}{l:Addr}(hl:h.get? l=none) (e:SR am π h v x):SR (am.hold l) π h v x:=VR.held hl e
theorem ER.held {cx:Cx}{ρ:List V}{l:Addr}(hl:h.get? l=none) (e:ER am cx ρ π h):ER (am.hold l) cx ρ π h :=
 ⟨e.ns,e.locOff,e.cellOff,e.apart,fun x i v h1 h2 h3 h4=>let ⟨v',h5,h6⟩:=e.var x i v h1 h2 h3 h4;⟨v',h5,h6.held hl⟩⟩
theorem HR.freed {stack:List Env}{Hc:H}{h':Heap}{C:Addr}(hr:HR am stack π Hc h) (hC:C∈am.res) (hB:am.B.get? C=none) (hπ:C ∉ π) (p:Poke C h h') (ho:∃ o,h'.get? C=some o∧∀ us,o.data≠.fields us):HR am stack π Hc h':=by
 refine⟨fun b o e=>p b o (fun q=>by subst q;rw[hB] at e;cases e) (hr.base b o e),zbw (fun b o h1 h2=>p b o h1 h2) ho hr.frames,hr.len,hr.nodup,fun a ha=>?_,hr.off,fun i c a h1 h2=>?_⟩
 ·by_cases hq:a=C
  ·subst hq;exact ho
  ·obtain⟨o,h1,h2⟩:=hr.res a ha
   exact⟨o,p a o hq h1,h2⟩
 ·have hne:a≠C:=fun q=>hπ (q ▸ zcA h2)
  obtain⟨o,xs,e0,e1,e2,e3⟩:=hr.cell i c a h1 h2;exact⟨o,xs,p _ _ hne e0,e1,e2,e3.free fun b o hb e=>p b o (fun q=>hb (q ▸ hC)) e⟩
theorem HR.out {stack:List Env}{Hc:H}{h':Heap}{C:Addr}(hr:HR (am.hold C) stack π Hc h) (hC:C ∉ am.res) (hB:am.B.get? C=none) (hπ:C ∉ π) (hF:C ∉ Fs stack) (p:Poke C h h'):HR am stack π Hc h':=by
 have fr:∀ {st:List Env},h.FunFrames am.B st→(∀ a∈Fs st,a≠C)→h'.FunFrames am.B st:=by
  intro st
  induction st with
  |nil=>intro _ _;trivial
  |cons e st ih =>
   rintro⟨h1,⟨L,o,h2,h3,h4,h5⟩,h6⟩ hn
   refine⟨h1,⟨L,o,h2,h3,p L o (hn L ?_) h4,h5⟩,ih h6 fun a ha=>hn a ?_⟩
   ·simp[h2]
   ·simp only[Fs,List.filterMap_cons,h2,List.mem_cons];exact .inr ha
 refine⟨fun b o e=>p b o (fun q=>by subst q;have e':am.B.get? b=some o:=e;rw[hB] at e';cases e') (hr.base b o e),fr hr.frames (fun a ha q=>hF (q ▸ ha)),hr.len,hr.nodup,fun a ha=>?_,hr.off,fun i c a h1 h2=>?_⟩
 ·obtain⟨o,h1,h2⟩:=hr.res a (List.mem_cons_of_mem _ ha)
  exact⟨o,p a o (fun q=>hC (q ▸ ha)) h1,h2⟩
 ·have hne:a≠C:=fun q=>hπ (q ▸ zcA h2)
  obtain⟨o,xs,e0,e1,e2,e3⟩:=hr.cell i c a h1 h2;exact⟨o,xs,p _ _ hne e0,e1,e2,(e3.free fun b o hb e=>p b o (fun q=>hb (q ▸ List.mem_cons_self)) e).reserve.2⟩
theorem PL.at {l:Addr}{xs:List Value}{h':Heap}(pl:PL h l xs) (k:∀ o,h.get? l=some o→h'.get? l=some o):PL h' l xs:=let ⟨o,n,ho,r⟩:=pl;⟨o,n,k o ho,r⟩
theorem Ns.at {l:Addr}{m:Str→Option Value}{h':Heap}(hn:h.Ns l m) (k:∀ o,h.get? l=some o→h'.get? l=some o):h'.Ns l m:=let ⟨o,es,ep,ho,r⟩:=hn;⟨o,es,ep,k o ho,r⟩
theorem Ns.nf {l:Addr}{m:Str→Option Value}(hn:h.Ns l m):∃ o,h.get? l=some o∧∀ us,o.data≠.fields us:=let ⟨o,es,ep,ho,hd,_⟩:=hn;⟨o,ho,fun us q=>by rw[hd] at q;cases q⟩
theorem PL.nf {l:Addr}{xs:List Value}(pl:PL h l xs):∃ o,h.get? l=some o∧∀ us,o.data≠.fields us:=let ⟨o,n,ho,_,_,hd⟩:=pl;⟨o,ho,fun us q=>by rw[hd] at q;cases q⟩
structure ScC (c:Ck) (x:Str) (scope:Scope):Prop where
 kind:scope.kind=.function
 cell:∀ p∈scope.names,p.2≠.cell
 loc:∀ p∈scope.names,p.2=.local→(p.1=x∨p.1=(".0":Str))∧scope.names.lookup p.1=some .local
 free:∀ p∈scope.names,p.2=.free→c.names.lookup p.1=some .cell∨c.names.lookup p.1=some .free
 xl:scope.names.lookup x=some .local
 ctx:c.ctx.lookup (".0":Str)=none
theorem nor {α:Type} [BEq α] [LawfulBEq α] {a b:α}{c:Bool}(h:(a != b||c)=true) (e:a=b):c=true:=(Bool.or_eq_true_iff.mp h).resolve_left fun z=>bne_iff_ne.mp z e
theorem or2 {α:Type} [BEq α] [LawfulBEq α] {x y a b:α}(h:(x == a||y == b)=true):x=a∨y=b:=(Bool.or_eq_true_iff.mp h).imp eq_of_beq eq_of_beq
theorem zjN {c:Ck}{x:Str}{scope:Scope}(h:zd1 c x scope=true):ScC c x scope :=
 have a:=List.all_eq_true.mp (ar (al (al (al h))))
 ⟨eq_of_beq (al (al (al (al h)))),fun p hp=>bne_iff_ne.mp (ar (a p hp)),fun p hp e=>have z:=nor (al (al (a p hp))) e;⟨or2 (al z),eq_of_beq (ar z)⟩,
  fun p hp e=>or2 (nor (by rw[←Bool.or_assoc];exact ar (al (a p hp))) e),eq_of_beq (ar (al (al h))),eq_of_beq (ar h)⟩
theorem zoo {c:Ck}{cx:Cx}{ρ:List V}{x:Str}{i:Nat}{scope:Scope}{cl:List (Str × Addr)}{C:Addr}{m:Str→Option Value}{v:V}{v':Value}(e:ER am cx ρ π h) (hkf:cx.env.scope.kind=.function) (hnames:cx.env.scope.names=c.names) (hctx:cx.ctx=c.ctx) (hs:ScC c x scope)
  (hi:c.ctx.all (fun p=>p.2 != i)=true) (hcl1:∀ y d,cl.lookup y=some d→cx.env.cells.lookup y=some d) (hcl2:∀ p∈scope.names,p.2=.free→∃ d,cl.lookup p.1=some d) (hC:C ∉ π) (hn:h.Ns C m) (hm:m x=some v') (hv:VR am π h v v') :
  ER am ⟨compEnvC scope cl C cx.env,cx.stack,(x,i)::cx.ctx⟩ (ρ.set i v) π h:=by
 refine⟨⟨m,hn⟩,hC,fun y d hd=>?_,fun y z d h1 h2=>e.apart y z d (hcl1 _ _ h1) (hcl1 _ _ h2),fun y j w h1 h2 h3 h4=>?_⟩
 ·refine hold fun z_ k_=>?_
  obtain⟨a1,_,u,a3⟩:=e.cellOff y d (hcl1 y d hd);refine k_ ?_;refine⟨a1,fun q=>?_,u,a3⟩;have hq:d=C:=q;subst hq;refine hold fun z_ k_=>?_;obtain⟨o,es,ep,ho,hd',_⟩:=hn;refine k_ ?_;obtain⟨o2,ho2,hd2⟩:=a3;rw[ho] at ho2;cases ho2;rw[hd'] at hd2;cases hd2
 ·have hkind:∀ y,Env.kindOf (compEnvC scope cl C cx.env) y=(scope.names.lookup y).map fun k=>if(k == .free&&c.names.lookup y == some .cell)=true then .cell else k:=by
   intro y;show(relabel scope cx.env).names.lookup y=_;rw[zb4 hkf,zci,hnames]
  by_cases hy:y=x
  ·subst hy
   rw[List.lookup_cons] at h1;simp only[beq_self_eq_true,Option.some.injEq] at h1;subst h1;have hlt:i < ρ.length:=by have:=(List.getElem?_eq_some_iff.mp h2).1;simpa using this
   rw[List.getElem?_set_self hlt] at h2
   cases h2
   exact⟨v',.inl ⟨by rw[hkind,hs.xl];rfl,m,hn,hm⟩,hv⟩
  ·have hb:(y == x)=false:=beq_eq_false_iff_ne.mpr hy
   have h1':c.ctx.lookup y=some j:=by rw[List.lookup_cons,hb] at h1;rw[←hctx];exact h1
   have hj:j≠i:=by
    have:=zaZ h1';simp only[List.all_eq_true,bne_iff_ne,ne_eq] at hi;exact hi _ this
   rw[List.getElem?_set_ne (Ne.symm hj)] at h2;unfold Vis at h4;simp only[hkind] at h4
   cases hl:scope.names.lookup y with
   |none=>rw[hl] at h4;simp at h4
   |some k =>
    have hmem:=zaZ hl
    by_cases hkl:k=.local
    ·subst hkl
     rcases(hs.loc _ hmem rfl).1 with q|q
     ·exact absurd q hy
     ·simp only at q;rw[q,hs.ctx] at h1';cases h1'
    ·by_cases hkf':k=.free
     ·subst hkf'
      obtain⟨d,hd⟩:=hcl2 _ hmem rfl;have hcell:=hcl1 y d hd;have hout:cx.env.kindOf y=some .cell∨cx.env.kindOf y=some .free:=by
       unfold Env.kindOf;rw[hnames];exact hs.free _ hmem rfl
      obtain⟨u,h5,h6⟩:=e.var y j w (by rw[hctx];exact h1') h2 h3 (by unfold Vis;rcases hout with q|q;exact .inr (.inl q);exact .inr (.inr q))
      refine⟨u,.inr ⟨?_,d,hd,?_⟩,h6⟩
      ·rw[hkind,hl];simp only[Option.map_some];split<;>simp
      ·rcases h5 with⟨q,_⟩|⟨_,d',h7,h8⟩
       ·rcases hout with q'|q'<;>rw[q'] at q<;>cases q
       ·rw[hcell] at h7;cases h7;exact h8
     ·rw[hl] at h4
      have hkc:k≠.cell:=hs.cell _ hmem;have hb2:(k == NameKind.free)=false:=by simpa using hkf'
      simp only[Option.map_some,hb2,Bool.false_and,Bool.false_eq_true,if_false,Option.some.injEq] at h4
      rcases h4 with q|q|q
      ·exact absurd q hkl
      ·exact absurd q hkc
      ·exact absurd q hkf'
end
structure LoopEnd (am:Amb) (stack:List Env) (π:List Addr) (s:Shared) (rs:List V) (Hf:H) (D C:Addr) (s':Shared):Prop where
 freshD:s.heap.get? D=none
 freshC:s.heap.get? C=none
 ne:D≠C
 resD:D ∉ am.res
 resC:C ∉ am.res
 baseD:am.B.get? D=none
 baseC:am.B.get? C=none
 fsD:D ∉ Fs stack
 fsC:C ∉ Fs stack
 rest:∃ π' xs m,Step (Fs stack) π s π' s'∧HR ((am.hold D).hold C) stack π' Hf s'.heap∧PL s'.heap D xs∧VRs ((am.hold D).hold C) π' s'.heap rs xs∧s'.heap.Ns C m∧D ∉ π'∧C ∉ π'
section
variable {am:Amb}{n:Nat}{F:Fn}{c:Ck}
noncomputable def CJ (am:Amb) (n:Nat) (F:Fn) (c:Ck) (cond:Option PE) (ifs:List Expr):Prop:=∀ {cx:Cx}{ρ:List V}{A:Around}{res π:List Addr}{Hc:H}{s:Shared},Base am n true F c cx ρ A→St (am.at res) true cx ρ π Hc A s →
 JAt (am.at res) cx.stack A (forIn ifs true fun c r=>if r=true then do let ok ← isTrue c cx.env (eval c cx.env);pure (ForInStep.yield ok) else pure (ForInStep.yield r)) (tr (evC true F ρ cond Hc)) BR π s
theorem zoz:CJ am n F c none []:=fun {cx ρ A res π Hc s} B st=>by
 simp only[zrt,zrs];exact .inr (wpAny_tests_nil (OkP.here st.hr rfl))
theorem zoy {e:PE}{x:Expr}(h:TJ am n true F c e x):CJ am n F c (some e) [x]:=fun {cx ρ A res π Hc s} B st=>by
 simp only[zrt,zrs];exact(h B st).rule fun Q E h=>wpAny_tests_one h
theorem noErr {am:Amb}{stack:List Env}{β:Type}{π:List Addr}{s:Shared}{b:β}{Hc:H}{x:Value}{s':Shared}{P:Prop}(h:ErP am stack π s (.ok b Hc) x s'):P:=False.elim h
theorem JAt.okAt {am:Amb}{stack:List Env}{A:Around}{α β:Type}{Rel:List Addr→Heap→β→α→Prop}{π:List Addr}{s:Shared}{m:Sem α}{r:R β}{b:β}{Hc:H}{Q:α→Shared→Prop}{E:Value→Shared→Prop}(h:JAt am stack A m r Rel π s) (hr:r=.ok b Hc)
  (k:∀ a π' s',Step (Fs stack) π s π' s'→HR am stack π' Hc s'.heap→Rel π' s'.heap b a→Q a s'):wpAny am.M A m Q E s:=by
 subst hr
 rcases h with h|h
 ·cases h
 ·refine wpAny_mono h (fun a s' h=>?_) fun e s' h=>noErr h
  refine hold fun z_ k_=>?_;obtain⟨b',H',π',h1,h2,h3,h4⟩:=h;refine k_ ?_
  cases h1
  exact k a π' s' h2 h3 h4
theorem zpJ {h:Heap}{a I:Addr}{o:Obj}{us:Array Value}(h1:∃ o,h.get? a=some o∧∀ us,o.data≠.fields us) (h2:h.get? I=some o) (h3:o.data=.fields us):a≠I:=fun q=>by
 subst q;obtain⟨o',h4,h5⟩:=h1;rw[h2] at h4;cases h4
 exact h5 us h3
theorem zjp {am:Amb}{A:Around}{s:Shared}{l:Addr}{xs:List Value}{y:Value}{Q:Value→Shared→Prop}{E:Value→Shared→Prop}(pl:PL s.heap l xs) (hz:xs.length≤1000000)
  (h:PL (s.heap.update l (Obj.mapSeq (·.push y))) l (xs++[y])→Poke l s.heap (s.heap.update l (Obj.mapSeq (·.push y)))→Q .none { s with heap:=s.heap.update l (Obj.mapSeq (·.push y)) }) :
  wpAny am.M A (PySem.call (.builtin "list.append") [.ref l,y]) Q E s:=by
 refine hold fun z_ k_=>?_;obtain⟨o,n,ho,hcl,hdi,hd⟩:=id pl;refine k_ ?_;refine wpAny_call_entry slot_list_append pl.is.typeIs entry_list_append ?_ (args_list_append _ _);show wpAny _ _ (updateSeq l (·.push y) >>= fun z_=>ret .none) _ _ s;refine wpAny_bind ?_;refine wpAny_updateSeq ho hd (wpAny_pure ⟨.none,rfl,?_⟩) (hz:=by rw[List.size_toArray];exact za7 hz)
 have pl':=pl.update (·.push y);exact h (by simpa using pl') fun b o h1 h2=>(Heap.SameBut.update ..).extBut b o h1 h2
theorem zfX {w:Watch}{fe fc:V→H→R V}{h Hf:H}{ws:List V}(e:compL w fe fc [] h=.ok ws Hf):w.ok h=true∧ws=[]∧h=Hf:=by
 simp only[zhw,zhx] at e
 split at e
 ·cases e;exact⟨by assumption,rfl,rfl⟩
 ·cases e
theorem zeO {w:Watch}{fe fc:V→H→R V}{v:V}{vs:List V}{h Hf:H}{ws:List V}(e:compL w fe fc (v::vs) h=.ok ws Hf) :
  w.ok h=true∧∃ tb h3,tr (fc v h)=.ok tb h3∧(tb=false→compL w fe fc vs h3=.ok ws Hf)∧(tb=true→∃ x h4 ws',fe v h3=.ok x h4∧compL w fe fc vs h4=.ok ws' Hf∧ws=x::ws'):=by
 simp only[zhw,zhx] at e
 split at e
 ·refine⟨by assumption,?_⟩
  cases hcd:fc v h with
  |bad=>rw[hcd] at e;cases e
  |err _ _=>rw[hcd] at e;cases e
  |ok bv h3 =>
   rw[hcd] at e;simp only[R.bind_ok] at e
   cases htb:truthy bv with
   |none=>rw[htb] at e;cases e
   |some tb =>
    rw[htb] at e;refine⟨tb,h3,by simp[tr,htb],?_⟩
    cases tb with
    |false=>exact⟨fun z_=>e,fun q=>absurd q (by simp)⟩
    |true =>
     refine⟨fun q=>absurd q (by simp),fun z_=>?_⟩
     dsimp only at e
     cases hel:fe v h3 with
     |bad=>rw[hel] at e;cases e
     |err _ _=>rw[hel] at e;cases e
     |ok x h4 =>
      rw[hel] at e;simp only[R.bind_ok] at e
      cases hrest:compL w fe fc vs h4 with
      |bad=>rw[hrest] at e;cases e
      |err _ _=>rw[hrest] at e;cases e
      |ok ws' h5=>rw[hrest] at e;simp only[R.bind_ok] at e;cases e;exact⟨x,h4,ws',rfl,hrest,rfl⟩
 ·cases e
structure CS (am:Amb) (stack:List Env) (π:List Addr) (s:Shared) (Sx:Nat→List Addr→Heap→Prop) (D C:Addr) (j:Nat) (π':List Addr) (H':H) (us:List V) (xs:List Value) (m:Str→Option Value) (s':Shared):Prop where
 st:Step (Fs stack) π s π' s'
 hr:HR am stack π' H' s'.heap
 sx:Sx j π' s'.heap
 pl:PL s'.heap D xs
 vr:VRs am π' s'.heap us xs
 ns:s'.heap.Ns C m
 dp:D ∉ π'
 cp:C ∉ π'
theorem CS.step {am:Amb}{stack:List Env}{A:Around}{I:Addr}{wt:Watch}{vs:List V}{π:List Addr}{s:Shared}{Sx:Nat→List Addr→Heap→Prop}{D C:Addr}{j:Nat}{π':List Addr}{H':H}{us:List V}{xs:List Value}{m:Str→Option Value}{s':Shared}(x:CS am stack π s Sx D C j π' H' us xs m s') (It:Iter am stack A I wt vs Sx) (fsD:D ∉ Fs stack) (fsC:C ∉ Fs stack)
  {π2:List Addr}{H2:H}{s2:Shared}(h:Step (Fs stack) π' s' π2 s2) (hr:HR am stack π2 H2 s2.heap):CS am stack π s Sx D C j π2 H2 us xs m s2 :=
 ⟨x.st.trans h,hr,It.stable _ _ _ _ _ x.sx h,x.pl.at fun o e=>h.ext.keep D o e x.dp fsD,x.vr.step h,Ns.at x.ns fun o e=>h.ext.keep C o e x.cp fsC,by obtain⟨o,ho,_⟩:=x.pl.nf;exact h.notin ho x.dp,by obtain⟨o,ho,_⟩:=Ns.nf x.ns;exact h.notin ho x.cp⟩
inductive CompInv (am:Amb) (stack:List Env) (π:List Addr) (s:Shared) (Sx:Nat→List Addr→Heap→Prop) (D C:Addr) (wt:Watch) (fe fc:V→H→R V) (vs rs:List V) (Hf:H) (k:Nat) (s':Shared):Prop
 |mk (j:Nat) (π':List Addr) (H':H) (us:List V) (xsD:List Value) (m:Str→Option Value) (ws:List V) (e:k=vs.length+1 - j) (hj:j≤vs.length) (cs:CS am stack π s Sx D C j π' H' us xsD m s') (hc:compL wt fe fc (vs.drop j) H'=.ok ws Hf) (hrs:us++ws=rs)
theorem zk3 {elt:PE}{i:Nat}{cond:Option PE}{e iter:Expr}{x:Str}{px pos:Pos}{ifs:List Expr}{scope:Scope}{cl:List (Str × Addr)}{cx:Cx}{ρ:List V}{A:Around}{res π π1:List Addr}{Hc H1 Hf:H}{s s1:Shared}{vs rs:List V}{wt:Watch}{itv:Value}
  {RR:Value→Addr→Result→Shared→Prop}{E:Value→Shared→Prop}
  (B:Base am n true F c cx ρ A) (st:St (am.at res) true cx ρ π Hc A s) (hs1:Step (Fs cx.stack) π s π1 s1) (hr1:HR (am.at res) cx.stack π1 H1 s1.heap) (hit:ItR (am.at res) cx.stack A s.heap π1 s1.heap (vs,wt) itv)
  (hsc:ScC c x scope) (hi:c.ctx.all (fun p=>p.2 != i)=true) (helt:EJ am n true F (c.inner x i scope) elt e) (hcond:CJ am n F (c.inner x i scope) cond ifs)
  (hcl1:∀ y d,cl.lookup y=some d→cx.env.cells.lookup y=some d) (hcl2:∀ p∈scope.names,p.2=.free→∃ d,cl.lookup p.1=some d)
  (hcomp:compL wt (fun v h=>evE true F (ρ.set i v) elt h) (fun v h=>evC true F (ρ.set i v) cond h) vs H1=.ok rs Hf) (hlen:rs.length≤1000000)
  (hRR:∀ D C s',LoopEnd (am.at res) cx.stack π s rs Hf D C s'→RR (.ref D) C (.ok .next) s') :
  wpAny am.M A (newList []) (fun acc s₃=>wpAny am.M A (newFunctionEnv scope cx.env.globals cl [] cx.env.qual none .none (some cx.env)) (fun cenv s₄ =>
   codeAny am.M A (.compStart (.ListComp e [⟨.Name x px,iter,ifs,0⟩] scope pos) 0 itv acc { cenv with scope:=relabel scope cx.env }) (RR acc cenv.locals) s₄) E s₃) E s1:=by
 refine hold fun z_ k_=>?_;obtain⟨I,rfl,hI0,hIB,_,hItD⟩:=hit;refine k_ ?_;have hcell:=hsc.cell;refine wpAny_newObj_type (wpAny_newFunctionEnv hcell (by intro y hy;simp at hy) (fun h₁ hns₁ hsb₁=>?_) hsc.kind)
 dsimp only at hns₁ hsb₁ ⊢
 generalize hH2:s1.heap.push { cls:=.type "list",dict:=none,data:=.seq ([]:List Value).toArray }=H2 at hns₁ hsb₁ ⊢
 generalize hD:s1.heap.objs.size=D at *
 generalize hC:H2.objs.size=C at *
 have hCD:C=D+1:=by rw[←hC,← hH2,Heap.size_push,hD]
 have hDC:D≠C:=by rw[hCD];exact Nat.ne_of_lt (Nat.lt_succ_self D)
 have freshD1:s1.heap.get? D=none:=by rw[←hD];exact zai _
 have freshC1:s1.heap.get? C=none:=by
  cases hq:s1.heap.get? C with
  |none=>rfl
  |some o=>have h3:C < s1.heap.objs.size:=Heap.lt_size hq;rw[hD,hCD] at h3;exact absurd h3 (Nat.not_lt.mpr (Nat.le_succ _))
 have k1:∀ b o,s1.heap.get? b=some o→h₁.get? b=some o:=fun b o hb =>
  hsb₁.extBut b o (zeY freshC1 hb) (Heap.get?_push_of_some _ (hH2 ▸ Heap.get?_push_of_some _ hb))
 have fresh0:∀ a,s1.heap.get? a=none→s.heap.get? a=none:=fun a ha=>by
  cases hq:s.heap.get? a with
  |none=>rfl
  |some o=>obtain⟨o',h6⟩:=hs1.ext.alive a o hq;rw[ha] at h6;cases h6
 have plD:PL h₁ D []:=by
  have h2:H2.get? D=some { cls:=.type "list",dict:=none,data:=.seq ([]:List Value).toArray }:=by rw[←hH2,← hD];exact Heap.get?_push_size _ rfl
  exact⟨_,0,hsb₁.extBut D _ hDC (Heap.get?_push_of_some _ h2),rfl,rfl,rfl⟩
 let am':Amb:=((am.at res).hold D).hold C
 have hr2:HR am' cx.stack π1 H1 h₁:=(hr1.held (h':=h₁) freshD1 k1 plD.nf |> fun z_=>by
  have a1:HR ((am.at res).hold D) cx.stack π1 H1 H2:=hr1.held freshD1 (fun b o hb=>hH2 ▸ Heap.get?_push_of_some _ hb) (by
   have h2:H2.get? D=some { cls:=.type "list",dict:=none,data:=.seq ([]:List Value).toArray }:=by rw[←hH2,← hD];exact Heap.get?_push_size _ rfl
   exact⟨_,h2,fun us q=>by cases q⟩)
  have hCn:H2.get? C=none:=by rw[←hC];exact zai _
  exact a1.held hCn (fun b o hb=>hsb₁.extBut b o (zeY hCn hb) (Heap.get?_push_of_some _ hb)) (Ns.nf hns₁))
 obtain⟨Sx,It,hSx⟩:=hItD (C::D::res) h₁ (fun a ha=>by
  rcases List.mem_cons.mp ha with rfl|ha
  ·exact .inr freshC1
  ·rcases List.mem_cons.mp ha with rfl|ha
   ·exact .inr freshD1
   ·exact .inl ha) k1
 refine hold fun z_ k_=>?_;obtain⟨hI1,hI2,oI,usI,hIo,hId⟩:=It.own 0 π1 h₁ hSx;refine k_ ?_;have cellsOk:∀ v,(∀ c,v≠.exc c)→Base am n true F (c.inner x i scope) ⟨compEnvC scope cl C cx.env,cx.stack,(x,i)::cx.ctx⟩ (ρ.set i v) A:=fun v hv =>
  ⟨B.ok,B.fn,⟨by show(x,i)::cx.ctx=(x,i)::c.ctx;rw[B.ck.ctx],by show(relabel scope cx.env).names=relab c.names scope.names;rw[zb4 B.cxk.kind,B.ck.names],B.ck.fns,B.ck.nums⟩,
   ⟨fun y hy=>by
     have hk:Env.kindOf (compEnvC scope cl C cx.env) y=(scope.names.lookup y).map fun k=>if(k == .free&&c.names.lookup y == some .cell)=true then .cell else k:=by
      show(relabel scope cx.env).names.lookup y=_;rw[zb4 B.cxk.kind,zci,B.ck.names]
     rw[hk] at hy
     cases hl:scope.names.lookup y with
     |none=>rw[hl] at hy;simp at hy
     |some k =>
      by_cases hf:k=.free
      ·subst hf;exact hcl2 _ (zaZ hl) rfl
      ·have hb2:(k == NameKind.free)=false:=by simpa using hf
       rw[hl] at hy;simp only[Option.map_some,hb2,Bool.false_and,Bool.false_eq_true,if_false,Option.some.injEq] at hy
       rcases hy with q|q
       ·exact absurd q (hcell _ (zaZ hl))
       ·exact absurd q hf,
    hsc.kind,B.cxk.globals,B.cxk.builtins,B.cxk.top⟩,B.as,fun z_=>(B.ne rfl).set hv⟩
 have resD:D ∉ (am.at res).res:=zal hr1 freshD1;have resC:C ∉ (am.at res).res:=zal hr1 freshC1;have fsD:D ∉ Fs cx.stack:=za6 hr1 freshD1;have fsC:C ∉ Fs cx.stack:=za6 hr1 freshC1;have baseD:(am.at res).B.get? D=none:=zbU hr1 freshD1;have baseC:(am.at res).B.get? C=none:=zbU hr1 freshC1;have er0:ER am' cx ρ π s.heap:=(st.er.held (fresh0 D freshD1)).held (fresh0 C freshC1);have hxk:Env.kindOf (compEnvC scope cl C cx.env) x=some .local:=lookup_relabel_local hsc.xl
 have hp:((compEnvC scope cl C cx.env).scope.kind == .class||((compEnvC scope cl C cx.env).scope.kind == .module&&(compEnvC scope cl C cx.env).locals != (compEnvC scope cl C cx.env).globals))=false:=by
  simp[compEnvC,relabel,hsc.kind]
 have loop:∀ s₃:Shared,s₃={ s1 with heap:=h₁,toks:=s1.toks+([]:List (Str × Value)).length } →
   codeAny am.M A (.compLoop (.ListComp e [⟨.Name x px,iter,ifs,0⟩] scope pos) 0 (.ref I) (.ref D) (compEnvC scope cl C cx.env)) (RR (.ref D) C) s₃:=by
  rintro s₃ rfl
  refine hold fun z_ k_=>?_;obtain⟨Inv,toInv,ofInv⟩:∃ Inv:Nat→Shared→Prop,(∀ k s',CompInv am' cx.stack π s Sx D C wt (fun v h=>evE true F (ρ.set i v) elt h) (fun v h=>evC true F (ρ.set i v) cond h) vs rs Hf k s'→Inv k s')∧(∀ k s',Inv k s'→CompInv am' cx.stack π s Sx D C wt (fun v h=>evE true F (ρ.set i v) elt h) (fun v h=>evC true F (ρ.set i v) cond h) vs rs Hf k s'):=⟨_,fun z_ z_ h=>h,fun z_ z_ h=>h⟩
  refine k_ ?_;refine codeAny_compLoop_tests Inv ?_ (vs.length+1)
   (toInv _ _ ⟨0,π1,H1,[],[],_,rs,rfl,Nat.zero_le _,⟨hs1.trans (Step.keeps k1),hr2,hSx,plD,by simp[VRs],hns₁,zar hr1 freshD1,zar hr1 freshC1⟩,by simpa using hcomp,rfl⟩)
  intro k s' hi_;refine hold fun z_ k_=>?_;obtain⟨j,π',H',us,xsD,m,ws,rfl,hj,⟨hS,hR,hX,hP,hV,hN,hDπ,hCπ⟩,hc,hrs⟩:=ofInv k s' hi_;refine k_ ?_;refine hold fun z_ k_=>?_;obtain⟨i1,i2,oJ,uJ,hoJ,hdJ⟩:=It.own j π' s'.heap hX;refine k_ ?_;have hDI:D≠I:=zpJ hP.nf hoJ hdJ;have hCI:C≠I:=zpJ (Ns.nf hN) hoJ hdJ;refine hold fun z_ k_=>?_
  cases hv:vs[j]? with
  |none =>
   refine k_ ?_;have hjl:vs.length≤j:=by simpa using hv
   have hj':j=vs.length:=Nat.le_antisymm hj hjl;rw[List.drop_of_length_le hjl] at hc;refine hold fun z_ k_=>?_;obtain⟨hw,e1,e2⟩:=zfX hc;refine k_ ?_;refine It.done π' _ s' _ _ (hj' ▸ hX) hR hw fun h' tk p=>?_;refine hRR D C _ ⟨fresh0 D freshD1,fresh0 C freshC1,hDC,resD,resC,baseD,baseC,fsD,fsC,π',xsD,m,hS.poke hI0 p,e2 ▸ hR.poke p hoJ hdJ hIB,hP.at fun o e=>p D o hDI e,?_,Ns.at hN fun o e=>p C o hCI e,hDπ,hCπ⟩
   rw[←hrs,e1,List.append_nil];exact hV.upto (p.slots hoJ hdJ)
  |some v =>
   refine k_ ?_;have hjl:j < vs.length:=(List.getElem?_eq_some_iff.mp hv).1;have hdrop:vs.drop j=v::vs.drop (j+1):=by
    rw[List.drop_eq_getElem_cons hjl]
    congr 1
    exact(List.getElem?_eq_some_iff.mp hv).2
   rw[hdrop] at hc;refine hold fun z_ k_=>?_;obtain⟨hw,tb,h3,htr,hc0,hc1⟩:=zeO hc;refine k_ ?_;refine It.item j π' H' s' v _ _ hX hR hw hv fun x' h' tk p hvx hX'=>?_;dsimp only;have hN':h'.Ns C m:=Ns.at hN fun o e=>p C o hCI e;refine wpAny_assign_Name (wpAny_storeName_local hxk hN' (fun h₂ hn₂ hs₂=>?_) hp);have p2:Poke C h' h₂:=fun b o hb e=>hs₂.extBut b o hb e;have hCr:C∈am'.res:=List.mem_cons_self
   have hDr:D∈am'.res:=List.mem_cons_of_mem _ List.mem_cons_self;have f2:∀ b o,b ∉ am'.res→h'.get? b=some o→h₂.get? b=some o:=fun b o hb e=>p2 b o (fun q=>hb (q ▸ hCr)) e;have hR2:HR am' cx.stack π' H' h₂:=(hR.poke p hoJ hdJ hIB).freed hCr baseC hCπ p2 (Ns.nf hn₂);have c2:CS am' cx.stack π s Sx D C (j+1) π' H' us xsD _ { s' with heap:=h₂,toks:=tk+1 }:=⟨(hS.poke (tk:=tk) hI0 p).poke (fresh0 C freshC1) p2,hR2,It.free _ _ _ _ hX' f2,(hP.at fun o e=>p D o hDI e).at fun o e=>p2 D o hDC e,(hV.upto (p.slots hoJ hdJ)).free f2,hn₂,hDπ,hCπ⟩
   have hvx2:VR am' π' h₂ v x':=hvx.free f2;have er:ER am' ⟨compEnvC scope cl C cx.env,cx.stack,(x,i)::cx.ctx⟩ (ρ.set i v) π' h₂ :=
    zoo (er0.step c2.st) B.cxk.kind B.ck.names B.ck.ctx hsc hi hcl1 hcl2 hCπ hn₂ (by simp) hvx2
   have stI:St am' true ⟨compEnvC scope cl C cx.env,cx.stack,(x,i)::cx.ctx⟩ (ρ.set i v) π' H' A { s' with heap:=h₂,toks:=tk+1 }:=⟨hR2,er,st.hd⟩
   have BI:=cellsOk v hvx.noexc;refine JAt.okAt (am:=am') (hcond (res:=C::D::res) BI stI) htr fun a π2 s3 hS3 hR3 hb=>?_;unfold BR at hb;subst hb;have c3:=c2.step It fsD fsC hS3 hR3
   cases tb with
   |false =>
    rw[if_neg (by simp)]
    exact⟨_,Nat.sub_lt_sub_left (Nat.lt_succ_of_lt hjl) (Nat.lt_succ_self j),toInv _ _ ⟨j+1,π2,h3,us,xsD,_,ws,rfl,hjl,c3,hc0 rfl,hrs⟩⟩
   |true =>
    rw[if_pos rfl];obtain⟨w,h4,ws',hel,hrest,rfl⟩:=hc1 rfl;refine JAt.okAt (am:=am') (helt (res:=C::D::res) BI (stI.step hS3 hR3)) hel fun y π3 s4 hS4 hR4 hvy=>?_;have c4:=c3.step It fsD fsC hS4 hR4;have hxl2:xsD.length≤1000000:=by
     rw[c4.vr.len];refine Nat.le_trans ?_ hlen;rw[←hrs,List.length_append];exact Nat.le_add_right ..
    refine zjp c4.pl hxl2 fun pl' p5=>?_;have f5:∀ b o,b ∉ am'.res→s4.heap.get? b=some o→(s4.heap.update D (Obj.mapSeq (·.push y))).get? b=some o:=fun b o hb e=>p5 b o (fun q=>hb (q ▸ hDr)) e;exact⟨_,Nat.sub_lt_sub_left (Nat.lt_succ_of_lt hjl) (Nat.lt_succ_self j),toInv _ _ ⟨j+1,π3,h4,us++[w],xsD++[y],_,ws',rfl,hjl,⟨c4.st.poke (tk:=s4.toks) (fresh0 D freshD1) p5,c4.hr.freed hDr baseD c4.dp p5 pl'.nf,It.free _ _ _ _ c4.sx f5,pl',(c4.vr.append (.single hvy)).free f5,Ns.at c4.ns fun o e=>p5 C o (Ne.symm hDC) e,c4.dp,c4.cp⟩,hrest,by rw[←hrs];simp⟩⟩
 exact codeAny_compStart_list (loop _ rfl) (It.self 0 π1 _ _ _ hSx (loop _ rfl))
end
theorem LoopEnd.fr {am:Amb}{stack:List Env}{π:List Addr}{s:Shared}{rs:List V}{Hf:H}{D C:Addr}{s':Shared}(e:LoopEnd am stack π s rs Hf D C s') (hlen:rs.length≤1000000){h':Heap}{tk:Nat}(p:Poke C s'.heap h') :
  FrP am stack π s (.ok (.lst rs) Hf) (.ref D) { s' with heap:=h',toks:=tk }:=by
 refine hold fun z_ k_=>?_;obtain⟨π',xs,m,h1,h2,h3,h4,h5,h6,h7⟩:=e.rest;refine k_ ?_;have hCr:C∈((am.hold D).hold C).res:=List.mem_cons_self;refine⟨rs,Hf,π',D,xs,rfl,rfl,hlen,e.freshD,⟨h6,e.fsD,e.resD,e.baseD⟩,h1.poke e.freshC p,?_,h3.at fun o q=>p D o e.ne q,?_⟩
 ·refine h2.out ?_ e.baseC h7 e.fsC p
  simp only[Amb.hold,List.mem_cons,not_or];exact⟨Ne.symm e.ne,e.resC⟩
 ·exact(h4.free fun b o hb q=>p b o (fun z=>hb (z ▸ hCr)) q).reserve.2
theorem zhT {iter:Expr}(h:isSet iter=false) (env:Env) (x:Value):foldedSetIterable iter env x=pure x:=by
 cases iter<;>first|rfl|exact noB h.symm
section
variable {am:Amb}{n:Nat}{q:Bool}{F:Fn}{c:Ck}
noncomputable def itemsR (F:Fn) (ρ:List V) (elt:PE) (i:Nat) (it:PIt) (cond:Option PE) (Hc:H):R (List V):=(evIt true F ρ it Hc).bind fun vs h =>
 match compL vs.2 (fun v h=>evE true F (ρ.set i v) elt h) (fun v h=>evC true F (ρ.set i v) cond h) vs.1 h with
 |.ok r h=>if r.length≤1000000 then .ok r h else .bad
 |_=>.bad
theorem zl8 {ρ:List V}{elt:PE}{i:Nat}{it:PIt}{cond:Option PE}{Hc H1:H}{vs:List V}{wt:Watch}(hb:itemsR F ρ elt i it cond Hc≠.bad) (e:evIt true F ρ it Hc=.ok (vs,wt) H1) :
  ∃ rs Hf,compL wt (fun v h=>evE true F (ρ.set i v) elt h) (fun v h=>evC true F (ρ.set i v) cond h) vs H1=.ok rs Hf∧rs.length≤1000000∧itemsR F ρ elt i it cond Hc=.ok rs Hf:=by
 have sh:itemsR F ρ elt i it cond Hc=match compL wt (fun v h=>evE true F (ρ.set i v) elt h) (fun v h=>evC true F (ρ.set i v) cond h) vs H1 with
  |.ok r h=>if r.length≤1000000 then .ok r h else .bad
  |_=>.bad:=by unfold itemsR;rw[e];rfl
 rw[sh] at hb ⊢
 cases hc:compL wt (fun v h=>evE true F (ρ.set i v) elt h) (fun v h=>evC true F (ρ.set i v) cond h) vs H1 with
 |bad=>rw[hc] at hb;exact absurd rfl hb
 |err _ _=>rw[hc] at hb;exact absurd rfl hb
 |ok rs Hf =>
  rw[hc] at hb;dsimp only at *
  by_cases hl:rs.length≤1000000
  ·exact⟨rs,Hf,rfl,hl,if_pos hl⟩
  ·rw[if_neg hl] at hb;exact absurd rfl hb
theorem zbT {ρ:List V}{elt:PE}{i:Nat}{it:PIt}{cond:Option PE}{Hc:H}:evE true F ρ (.comp elt i it cond) Hc=(itemsR F ρ elt i it cond Hc).bind fun rs h=>.ok (.lst rs) h:=by
 rw[zaz,if_neg (by decide)]
 unfold itemsR
 cases evIt true F ρ it Hc with
 |ok b h =>
  rw[R.bind_ok,R.bind_ok]
  cases compL b.2 (fun v h=>evE true F (ρ.set i v) elt h) (fun v h=>evC true F (ρ.set i v) cond h) b.1 h with
  |ok r h =>
   dsimp only;unfold mkL
   by_cases hl:r.length≤1000000
   ·rw[if_pos hl,if_pos hl];rfl
   ·rw[if_neg hl,if_neg hl];rfl
  |_=>rfl
 |_=>rfl
theorem ziu {elt:PE}{i:Nat}{it:PIt}{cond:Option PE}{e iter:Expr}{x:Str}{px pos pos':Pos}{ifs:List Expr}{scope:Scope}(hset:isSet iter=false) (hsc:zd1 c x scope=true) (hi:c.ctx.all (fun p=>p.2 != i)=true)
  (hit:ItJ am n F c it iter) (helt:EJ am n true F (c.inner x i scope) elt e) (hcond:CJ am n F (c.inner x i scope) cond ifs)
  {cx:Cx}{ρ:List V}{A:Around}{res π:List Addr}{Hc:H}{s:Shared}(B:Base am n true F c cx ρ A) (st:St (am.at res) true cx ρ π Hc A s) :
  itemsR F ρ elt i it cond Hc=.bad∨∀ {use:Option (Value→Sem Unit)}{Q:Value→Shared→Prop}{E:Value→Shared→Prop},
   (∀ c' H' y s',itemsR F ρ elt i it cond Hc=.err c' H'→ErP (am.at res) cx.stack π s (.err c' H':R V) y s'→E y s') →
   (∀ rs Hf D C s',itemsR F ρ elt i it cond Hc=.ok rs Hf→rs.length≤1000000→LoopEnd (am.at res) cx.stack π s rs Hf D C s'→compPost am.M A E use Q (.ref D) C (.ok .next) s') →
   wpAny am.M A (comprehension (.ListComp e [⟨.Name x px,iter,ifs,0⟩] scope pos) scope cx.env pos' (newList []) false (eval iter cx.env) use) Q E s:=by
 by_cases hb:itemsR F ρ elt i it cond Hc=.bad
 ·exact .inl hb
 refine .inr fun {use Q E} he hq=>?_;have hs:=zjN hsc;refine hold fun z_ k_=>?_;obtain⟨cl,hclos,hcl1,hcl2⟩:=zhy (scope:=scope) (env:=cx.env) (fun p hp hf=>B.cxk.clos p.1 (by
  unfold Env.kindOf;rw[B.ck.names];exact hs.free p hp hf))
 refine k_ ?_;have erp:∀ y s',ErP (am.at res) cx.stack π s (evIt true F ρ it Hc) y s'→E y s':=fun y s' h=>False.elim h
 rcases hit B st with hI|hI
 ·exact absurd (by unfold itemsR;rw[hI];rfl) hb
 refine wpAny_comprehension_free (use:=use) rfl (zhT hset cx.env) hclos hs.kind (fun y hy hl=>(hs.loc y hy hl).2) (wpAny_mono hI (fun xv s₁ h₁=>wpAny_mono h₁ (fun itv s₂ h₂=>?_) erp) erp);refine hold fun z_ k_=>?_;obtain⟨⟨vs,wt⟩,H1,π1,e1,e2,e3,e4⟩:=h₂;obtain⟨rs,Hf,e5,e6,e7⟩:=zl8 hb e1;refine k_ ?_;exact zk3 (RR:=fun acc C=>compPost am.M A E use Q acc C) B st e2 e3 e4 hs hi helt hcond hcl1 hcl2 e5 e6 fun D C s' le=>hq rs Hf D C s' e7 e6 le
theorem zon {elt:PE}{i:Nat}{it:PIt}{cond:Option PE}{e iter:Expr}{x:Str}{px pos:Pos}{ifs:List Expr}{scope:Scope}(hset:isSet iter=false) (hsc:zd1 c x scope=true) (hi:c.ctx.all (fun p=>p.2 != i)=true)
  (hit:q=true→ItJ am n F c it iter) (helt:q=true→EJ am n true F (c.inner x i scope) elt e) (hcond:q=true→CJ am n F (c.inner x i scope) cond ifs) :
  FJ am n q F c (.comp elt i it cond) (.ListComp e [⟨.Name x px,iter,ifs,0⟩] scope pos):=fun {cx ρ A res π Hc s} B st=>by
 cases q with
 |false=>exact .inl (by rw[zaz,if_pos (by decide)])
 |true =>
  rcases ziu (px:=px) (pos:=pos) (pos':=firstIterPos [⟨.Name x px,iter,ifs,0⟩] pos) hset hsc hi (fun B st=>hit rfl B st) (fun B st=>helt rfl B st) (fun B st=>hcond rfl B st) B st with h|h
  ·exact .inl (by rw[zbT,h];rfl)
  ·refine .inr (h (use:=none) (fun c' H' y s' e z=>by rw[zbT,e];exact z) fun rs Hf D C s' e hl le=>?_)
   refine hold fun z_ k_=>?_;obtain⟨π',xs,m,_,_,_,_,h5,_⟩:=le.rest;refine k_ ?_;refine⟨m,h5,fun h' sb=>?_⟩;rw[zbT,e];exact le.fr hl (tk:=s'.toks) fun b o hb q=>sb.extBut b o hb q
end
section
variable {am:Amb}{n:Nat}{F:Fn}
noncomputable def PJ (am:Amb) (n:Nat) (q:Bool) (F:Fn) (c:Ck) (e:PE) (x:Expr):Prop:=EJ am n q F c e x∧TJ am n q F c e x
theorem EJ.both {q:Bool}{c:Ck}{e:PE}{x:Expr}(h:EJ am n q F c e x) (hp:zc2 x=true):PJ am n q F c e x:=⟨h,h.test hp⟩
noncomputable def OJ (am:Amb) (n:Nat) (q:Bool) (F:Fn) (c:Ck) (e:PE) (x:Expr):Prop:=freshE e=true→EJ am n q F c (.own e) x∧zc2 x=true
theorem zid {f:Bf}{a:PE}(h:freshE (.bf f a)=true):f=.list∨f=.listRev:=by
 cases f<;>first|exact .inl rfl|exact .inr rfl|exact noB h
noncomputable def XJ (am:Amb) (n:Nat) (q:Bool) (F:Fn) (c:Ck) (e:PE) (x:Expr):Prop:=PJ am n q F c e x∧OJ am n q F c e x
theorem zpU {q:Bool}{c:Ck}  {x:Expr}  (h:ckE c (.none) x=true):XJ am n q F c (.none) x:=by
 refine zbS (G:=XJ am n q F c (.none)) h fun k p z_=>?_;exact⟨EJ.both zoq rfl,fun z=>by cases z⟩
theorem zp0 {q:Bool}{c:Ck}{b:Bool}{x:Expr}  (h:ckE c (.bool b) x=true):XJ am n q F c (.bool b) x:=by
 refine zbS (G:=XJ am n q F c (.bool b)) h fun k p z_=>?_;exact⟨EJ.both zou rfl,fun z=>by cases z⟩
theorem zrf {q:Bool}{c:Ck}{i:Int}{x:Expr}  (h:ckE c (.int i) x=true):XJ am n q F c (.int i) x:=by
 refine zbS (G:=XJ am n q F c (.int i)) h fun k p z_=>?_;exact⟨EJ.both zm6 rfl,fun z=>by cases z⟩
theorem zra {q:Bool}{c:Ck}{t:String}{x:Expr}  (h:ckE c (.str t) x=true):XJ am n q F c (.str t) x:=by
 refine zbS (G:=XJ am n q F c (.str t)) h fun k p z_=>?_;exact⟨EJ.both zqe rfl,fun z=>by cases z⟩
theorem zq8 {q:Bool}{c:Ck}{i:Nat}{x:Expr}  (h:ckE c (.var i) x=true):XJ am n q F c (.var i) x:=by
 refine zc3 (G:=XJ am n q F c (.var i)) h fun y p hh=>?_;exact⟨EJ.both (zqc hh) rfl,fun z=>by cases z⟩
theorem zpW {q:Bool}{c:Ck}{g:String}{i:Int}{x:Expr}  (h:ckE c (.glob g i) x=true):XJ am n q F c (.glob g i) x:=by
 refine zdg (G:=XJ am n q F c (.glob g i)) (al h) fun p z_=>?_;exact⟨EJ.both (zor (al (ar h)) (by simpa using ar (ar h))) rfl,fun z=>by cases z⟩
theorem zrj {q:Bool}{c:Ck}{op:Bop}{a b:PE}{x:Expr}(Ia:∀ y,ckE c a y=true→XJ am n q F c a y) (Ib:∀ y,ckE c b y=true→XJ am n q F c b y) (h:ckE c (.bin op a b) x=true):XJ am n q F c (.bin op a b) x:=by
 refine zoF (G:=XJ am n q F c (.bin op a b)) h fun l r p hh=>?_;have ha:=(Ia _ (al hh)).1;have hb:=(Ib _ (ar hh)).1;refine⟨EJ.both (zqm (decide_eq_true rfl) ha.1 hb.1) rfl,fun z=>?_⟩
 cases op with
 |add=>exact⟨znR ha.1 hb.1,rfl⟩
 |_=>cases z
theorem zre {q:Bool}{c:Ck}{i:Int}{x:Expr}  (h:ckE c (.neg i) x=true):XJ am n q F c (.neg i) x:=by
 refine zmF (G:=XJ am n q F c (.neg i)) h fun y p hh=>?_;refine zbS (G:=fun y=>XJ am n q F c (.neg i) (.UnaryOp .USub y p)) hh fun k p' z_=>?_;exact⟨EJ.both zqi rfl,fun z=>by cases z⟩
theorem zrd {q:Bool}{c:Ck}{a:PE}{x:Expr}(Ia:∀ y,ckE c a y=true→XJ am n q F c a y) (h:ckE c (.not a) x=true):XJ am n q F c (.not a) x:=by
 refine zmF (G:=XJ am n q F c (.not a)) h fun y p hh=>?_;have ha:=(Ia _ hh).1;exact⟨⟨zqh ha.1,zo1 ha.2⟩,fun z=>by cases z⟩
theorem zrk {q:Bool}{c:Ck}{es:List PE}{x:Expr}(Ies:∀ ys,ckEs c es ys=true→AllJ am n q F c es ys) (h:ckE c (.and es) x=true):XJ am n q F c (.and es) x:=by
 refine ziA (G:=XJ am n q F c (.and es)) h fun ys p hh=>?_;have ha:=Ies _ hh;exact⟨⟨zm7 ha,zmH ha⟩,fun z=>by cases z⟩
theorem zrz {q:Bool}{c:Ck}{es:List PE}{x:Expr}(Ies:∀ ys,ckEs c es ys=true→AllJ am n q F c es ys) (h:ckE c (.or es) x=true):XJ am n q F c (.or es) x:=by
 refine ziA (G:=XJ am n q F c (.or es)) h fun ys p hh=>?_;have ha:=Ies _ hh;exact⟨⟨zqg ha,zo0 ha⟩,fun z=>by cases z⟩
theorem zri {q:Bool}{c:Ck}{op:Cop}{a b:PE}{x:Expr}(Ia:∀ y,ckE c a y=true→XJ am n q F c a y) (Ib:∀ y,ckE c b y=true→XJ am n q F c b y) (h:ckE c (.cmp op a b) x=true):XJ am n q F c (.cmp op a b) x:=by
 refine zk5 (G:=XJ am n q F c (.cmp op a b)) h fun l os rs p hh=>?_;refine zaW (G:=fun os=>XJ am n q F c (.cmp op a b) (.Compare l os rs p)) hh fun o hh=>?_;refine zaW (G:=fun rs=>XJ am n q F c (.cmp op a b) (.Compare l [o] rs p)) hh fun r hh=>?_;have ha:=(Ia _ (al (ar hh))).1;have hb:=(Ib _ (al (ar (ar hh)))).1;have hs:=nt (ar (ar (ar hh)));exact⟨⟨zql (al hh) hs ha.1 hb.1,zo2 (al hh) hs ha.1 hb.1⟩,fun z=>by cases z⟩
theorem zpY {q:Bool}{c:Ck}{o1 o2:Cop}{a b d:PE}{x:Expr}(Ia:∀ y,ckE c a y=true→XJ am n q F c a y) (Ib:∀ y,ckE c b y=true→XJ am n q F c b y) (Id:∀ y,ckE c d y=true→XJ am n q F c d y) (h:ckE c (.cmp2 o1 o2 a b d) x=true):XJ am n q F c (.cmp2 o1 o2 a b d) x:=by
 refine zk5 (G:=XJ am n q F c (.cmp2 o1 o2 a b d)) h fun l os rs p hh=>?_;refine zcM (G:=fun os=>XJ am n q F c (.cmp2 o1 o2 a b d) (.Compare l os rs p)) hh fun u1 u2 hh=>?_;refine zcM (G:=fun rs=>XJ am n q F c (.cmp2 o1 o2 a b d) (.Compare l [u1,u2] rs p)) hh fun r1 r2 hh=>?_;have g1:=al hh;have hh:=ar hh;have g2:=al hh;have hh:=ar hh;have ha:=(Ia _ (al hh)).1;have hh:=ar hh;have hb:=(Ib _ (al hh)).1
 have hh:=ar hh;have hd:=(Id _ (al hh)).1;have hs:=nt (ar hh);exact⟨⟨zos g1 g2 hs ha.1 hb.1 hd.1,znp g1 g2 hs ha.1 hb.1 hd.1⟩,fun z=>by cases z⟩
theorem zpV {q:Bool}{c:Ck}{es:List PE}{x:Expr}(Ies:∀ ys,ckEs c es ys=true→AllJ am n q F c es ys) (h:ckE c (.list es) x=true):XJ am n q F c (.list es) x:=by
 refine zlY (G:=XJ am n q F c (.list es)) h fun xs p hh=>?_;have ha:=Ies _ hh;exact⟨EJ.both (FJ.ej (zkL ha)) rfl,fun z_=>⟨FJ.own (zkL ha),rfl⟩⟩
theorem zq9 {q:Bool}{c:Ck}{es:List PE}{x:Expr}(Ies:∀ ys,ckEs c es ys=true→AllJ am n q F c es ys) (h:ckE c (.tup es) x=true):XJ am n q F c (.tup es) x:=by
 refine zjy (G:=XJ am n q F c (.tup es)) h fun xs k p hh=>?_;exact⟨EJ.both (zqd (Ies _ hh)) rfl,fun z=>by cases z⟩
theorem zn7 {q:Bool}{c:Ck}  {x:Expr}  (h:ckE c (.dict0) x=true):XJ am n q F c (.dict0) x:=by
 refine zfU (G:=XJ am n q F c (.dict0)) h fun ks vs p hh=>?_;refine zbc (G:=fun ks=>XJ am n q F c .dict0 (.Dict ks vs p)) (al hh) ?_;refine zbc (G:=fun vs=>XJ am n q F c .dict0 (.Dict [] vs p)) (ar hh) ?_;exact⟨EJ.both zmo rfl,fun z=>by cases z⟩
theorem zrg {q:Bool}{c:Ck}{a i:PE}{x:Expr}(Ia:∀ y,ckE c a y=true→XJ am n q F c a y) (Ii:∀ y,ckE c i y=true→XJ am n q F c i y) (h:ckE c (.idx a i) x=true):XJ am n q F c (.idx a i) x:=by
 refine zfj (G:=XJ am n q F c (.idx a i)) h fun v s p hh=>?_;exact⟨EJ.both (zqj (Ia _ (al hh)).1.1 (Ii _ (ar hh)).1.1) rfl,fun z=>by cases z⟩
theorem zrb {q:Bool}{c:Ck}{a:PE}{x:Expr}(Ia:∀ y,ckE c a y=true→XJ am n q F c a y) (h:ckE c (.rev a) x=true):XJ am n q F c (.rev a) x:=by
 refine zfj (G:=XJ am n q F c (.rev a)) h fun v s p hh=>?_;refine zgg (G:=fun s=>XJ am n q F c (.rev a) (.Subscript v s p)) hh fun l u d p' hh=>?_;refine zdH (G:=fun d=>XJ am n q F c (.rev a) (.Subscript v (.Slice l u d p') p)) (al hh) ?_;refine zdH (G:=fun u=>XJ am n q F c (.rev a) (.Subscript v (.Slice l u none p') p)) (al (ar hh)) ?_;refine zdG (G:=fun l=>XJ am n q F c (.rev a) (.Subscript v (.Slice l none none p') p)) (ar (ar (ar hh))) fun e he=>?_
 refine zbS (G:=fun e=>XJ am n q F c (.rev a) (.Subscript v (.Slice (some e) none none p') p)) he fun k pc z_=>?_;exact⟨EJ.both (zop (Ia _ (al (ar (ar hh)))).1.1) rfl,fun z=>by cases z⟩
theorem zn5 {q:Bool}{c:Ck}{a:PE}{lo hi:Option PE}{x:Expr}(Ia:∀ y,ckE c a y=true→XJ am n q F c a y) (Ilo:∀ y,ckO c lo y=true→OptJ am n q F c lo y) (Ihi:∀ y,ckO c hi y=true→OptJ am n q F c hi y) (h:ckE c (.slice a lo hi) x=true):XJ am n q F c (.slice a lo hi) x:=by
 refine zfj (G:=XJ am n q F c (.slice a lo hi)) h fun v s p hh=>?_;refine zgg (G:=fun s=>XJ am n q F c (.slice a lo hi) (.Subscript v s p)) hh fun l u d p' hh=>?_;refine zdH (G:=fun d=>XJ am n q F c (.slice a lo hi) (.Subscript v (.Slice l u d p') p)) (al hh) ?_;have ha:=(Ia _ (al (ar hh))).1;have hl:=Ilo _ (al (ar (ar hh)));have hu:=Ihi _ (ar (ar (ar hh)));exact⟨EJ.both (FJ.ej (zig ha.1 hl hu)) rfl,fun z_=>⟨FJ.own (zig ha.1 hl hu),rfl⟩⟩
theorem zl5 {q:Bool}{c:Ck}{a:PE}{ts:List Ty}{x:Expr}(Ia:∀ y,ckE c a y=true→XJ am n q F c a y) (h:ckE c (.isinst a ts) x=true):XJ am n q F c (.isinst a ts) x:=by
 refine zbo (G:=XJ am n q F c (.isinst a ts)) h fun xs p p' hh=>?_;refine zcM (G:=fun xs=>XJ am n q F c (.isinst a ts) (.Call (.Name "isinstance" p) xs [] p')) hh fun y t hh=>?_;have h1:=al hh;have h2:=al (ar hh);have ha:=(Ia _ h2).1;have h3:=al (ar (ar hh));refine⟨EJ.both ?_ rfl,fun z=>by cases z⟩
 refine zaW (G:=fun ts=>ts.all tyPl=true→EJ am n q F c (.isinst a ts) (.Call (.Name "isinstance" p) [y,t] [] p')) (ar (ar (ar hh))) (fun u h4 h3=>?_) h3;exact zkS h1 (al h3) h4 (zaX h2) ha.1
theorem zrA {q:Bool}{c:Ck}{f:Bf}{a:PE}{x:Expr}(Ia:∀ y,ckE c a y=true→XJ am n q F c a y) (h:ckE c (.bf f a) x=true):XJ am n q F c (.bf f a) x:=by
 refine zbo (G:=XJ am n q F c (.bf f a)) h fun xs p p' hh=>?_;refine zaW (G:=fun xs=>XJ am n q F c (.bf f a) (.Call (.Name (bfName f) p) xs [] p')) hh fun y hh=>?_;have h1:=al hh;have h2:=ar hh
 by_cases hr:f=.listRev
 ·subst hr
  refine zbo (G:=fun y=>XJ am n q F c (.bf .listRev a) (.Call (.Name (bfName .listRev) p) [y] [] p')) h2 fun xs p2 p2' hh=>?_;refine zaW (G:=fun xs=>XJ am n q F c (.bf .listRev a) (.Call (.Name (bfName .listRev) p) [.Call (.Name "reversed" p2) xs [] p2'] [] p')) hh fun y' hh=>?_;have ha:=(Ia _ (ar hh)).1;exact⟨EJ.both (FJ.ej (zm5 h1 (al hh) (zaX (ar hh)) ha.1)) rfl,fun z_=>⟨FJ.own (zm5 h1 (al hh) (zaX (ar hh)) ha.1),rfl⟩⟩
 by_cases hr2:f=.listRange
 ·subst hr2
  refine zbo (G:=fun y=>XJ am n q F c (.bf .listRange a) (.Call (.Name (bfName .listRange) p) [y] [] p')) h2 fun xs p2 p2' hh=>?_;refine zaW (G:=fun xs=>XJ am n q F c (.bf .listRange a) (.Call (.Name (bfName .listRange) p) [.Call (.Name "range" p2) xs [] p2'] [] p')) hh fun y' hh=>?_;exact⟨EJ.both (FJ.ej (zmi h1 (al hh) (zaX (ar hh)) (Ia _ (ar hh)).1.1)) rfl,fun z=>(zid z).elim (fun e=>by cases e) fun e=>by cases e⟩
 ·have h2':ckE c a y=true:=by cases f<;>first|exact h2|(exact absurd rfl hr)|(exact absurd rfl hr2)
  have ha:=(Ia _ h2').1;refine⟨EJ.both (zrn ⟨hr,hr2⟩ h1 (zaX h2') ha.1) rfl,fun z=>?_⟩
  rcases zid z with hf|hf
  ·subst hf
   exact⟨FJ.own (zkM h1 (zaX h2') ha.1),rfl⟩
  ·exact(hr hf).elim
theorem zpX {q:Bool}{c:Ck}{elt:PE}{i:Nat}{it:PIt}{cond:Option PE}{x:Expr}(Ielt:∀ c y,ckE c elt y=true→XJ am n true F c elt y) (Iit:∀ y,ckIt c it y=true→ItJ am n F c it y) (Icond:∀ c ys,ckC c cond ys=true→CJ am n F c cond ys) (h:ckE c (.comp elt i it cond) x=true):XJ am n q F c (.comp elt i it cond) x:=by
 refine zmZ (G:=XJ am n q F c (.comp elt i it cond)) h fun e gs sc p hh=>?_;refine zkE (G:=fun gs=>XJ am n q F c (.comp elt i it cond) (.ListComp e gs sc p)) hh fun y iter ifs p' hh=>?_;have f:FJ am n q F c (.comp elt i it cond) (.ListComp e [⟨.Name y p',iter,ifs,0⟩] sc p):=fun {cx ρ A res π Hc s}=>by
  have h1:=al hh;have hh:=ar hh;have h2:=nt (al hh);have hh:=ar hh;have h3:=al hh;have hh:=ar hh;have h4:=al hh;have hh:=ar hh;exact zon (q:=q) h2 h3 h4 (fun z_=>Iit _ h1) (fun z_=>(Ielt _ _ (al hh)).1.1) (fun z_=>Icond _ _ (ar hh))
 exact⟨EJ.both (FJ.ej (fun {cx ρ A res π Hc s}=>f)) rfl,fun z_=>⟨FJ.own (fun {cx ρ A res π Hc s}=>f),rfl⟩⟩
theorem zpZ {q:Bool}{c:Ck}{k:Bool}{f:String}{args:List PE}{x:Expr}(Iargs:∀ ys,ckEs c args ys=true→AllJ am n q F c args ys) (h:ckE c (.call k f args) x=true):XJ am n q F c (.call k f args) x:=by
 refine zbo (G:=XJ am n q F c (.call k f args)) h fun xs p p' hh=>?_;have ha:=Iargs _ (al (ar (ar hh)))
 cases xs with
 |nil=>cases args with
  |nil=>exact noB (ar (ar (ar hh)))
  |cons _ _=>exact ha.elim
 |cons y ys=>exact⟨EJ.both (zot (al hh) (List.contains_iff_mem.mp (al (ar hh))) ha) rfl,fun z=>by cases z⟩
theorem zl7 {q:Bool}{c:Ck}{o a:PE}{x:Expr}(Io:∀ y,ckE c o y=true→XJ am n q F c o y) (Ia:∀ y,ckE c a y=true→XJ am n q F c a y) (h:ckE c (.append o a) x=true):XJ am n q F c (.append o a) x:=by
 refine zcz (G:=XJ am n q F c (.append o a)) h fun v xs p p' h2 hh=>?_;refine zaW (G:=fun xs=>XJ am n q F c (.append o a) (.Call (.Attribute v "append" p) xs [] p')) hh fun y hh=>?_;exact⟨EJ.both (zkU (al hh) h2 (nt (ar (ar (ar hh)))) (Io _ (al (ar hh))).1.1 (Ia _ (al (ar (ar hh)))).1.1) rfl,fun z=>by cases z⟩
theorem zl6 {q:Bool}{c:Ck}{o a:PE}{x:Expr}(Io:∀ y,ckE c o y=true→XJ am n q F c o y) (Ia:∀ y,ckE c a y=true→XJ am n q F c a y) (h:ckE c (.extend o a) x=true):XJ am n q F c (.extend o a) x:=by
 refine zcz (G:=XJ am n q F c (.extend o a)) h fun v xs p p' h2 hh=>?_;refine zaW (G:=fun xs=>XJ am n q F c (.extend o a) (.Call (.Attribute v "extend" p) xs [] p')) hh fun y hh=>?_;exact⟨EJ.both (zkT (al hh) h2 (nt (ar (ar (ar hh)))) (Io _ (al (ar hh))).1.1 (Ia _ (al (ar (ar hh)))).1.1) rfl,fun z=>by cases z⟩
theorem zl4 {q:Bool}{c:Ck}{o a:PE}{x:Expr}(Io:∀ y,ckE c o y=true→XJ am n q F c o y) (Ia:∀ y,ckE c a y=true→XJ am n q F c a y) (h:ckE c (.remove o a) x=true):XJ am n q F c (.remove o a) x:=by
 refine zcz (G:=XJ am n q F c (.remove o a)) h fun v xs p p' h2 hh=>?_;refine zaW (G:=fun xs=>XJ am n q F c (.remove o a) (.Call (.Attribute v "remove" p) xs [] p')) hh fun y hh=>?_;have h3:=ar hh;exact⟨EJ.both (zkR (al hh) h2 (nt (ar (ar h3))) (Io _ (al h3)).1.1 (Ia _ (al (ar h3))).1.1) rfl,fun z=>by cases z⟩
theorem zl3 {q:Bool}{c:Ck}{o a d:PE}{x:Expr}(Io:∀ y,ckE c o y=true→XJ am n q F c o y) (Ia:∀ y,ckE c a y=true→XJ am n q F c a y) (Id:∀ y,ckE c d y=true→XJ am n q F c d y) (h:ckE c (.setdef o a d) x=true):XJ am n q F c (.setdef o a d) x:=by
 refine zcz (G:=XJ am n q F c (.setdef o a d)) h fun v xs p p' h2 hh=>?_;refine zcM (G:=fun xs=>XJ am n q F c (.setdef o a d) (.Call (.Attribute v "setdefault" p) xs [] p')) hh fun y z hh=>?_;exact⟨EJ.both (zkQ (al hh) h2 (nt (al (ar (ar (ar (ar hh)))))) (nt (ar (ar (ar (ar (ar hh)))))) (Io _ (al (ar hh))).1.1 (Ia _ (al (ar (ar hh)))).1.1 (Id _ (al (ar (ar (ar hh))))).1.1) rfl,fun z=>by cases z⟩
theorem zrc {q:Bool}{c:Ck}{o:PE}{x:Expr}(Io:∀ y,ckE c o y=true→XJ am n q F c o y) (h:ckE c (.pop o) x=true):XJ am n q F c (.pop o) x:=by
 refine zcz (G:=XJ am n q F c (.pop o)) h fun v xs p p' h2 hh=>?_;refine zbc (G:=fun xs=>XJ am n q F c (.pop o) (.Call (.Attribute v "pop" p) xs [] p')) (ar (ar hh)) ?_;exact⟨EJ.both (zqf (al hh) h2 (Io _ (al (ar hh))).1.1) rfl,fun z=>by cases z⟩
theorem zrh {q:Bool}{c:Ck}{o a d:PE}{x:Expr}(Io:∀ y,ckE c o y=true→XJ am n q F c o y) (Ia:∀ y,ckE c a y=true→XJ am n q F c a y) (Id:∀ y,ckE c d y=true→XJ am n q F c d y) (h:ckE c (.get o a d) x=true):XJ am n q F c (.get o a d) x:=by
 refine zcz (G:=XJ am n q F c (.get o a d)) h fun v xs p p' h2 hh=>?_;refine zcM (G:=fun xs=>XJ am n q F c (.get o a d) (.Call (.Attribute v "get" p) xs [] p')) hh fun y z hh=>?_;exact⟨EJ.both (zqk (al hh) h2 (nt (al (ar (ar (ar (ar hh)))))) (nt (ar (ar (ar (ar (ar hh)))))) (Io _ (al (ar hh))).1.1 (Ia _ (al (ar (ar hh)))).1.1 (Id _ (al (ar (ar (ar hh))))).1.1) rfl,fun z=>by cases z⟩
theorem zn6 {q:Bool}{c:Ck}{a b:PE}{x:Expr}(Ia:∀ y,ckE c a y=true→XJ am n q F c a y) (Ib:∀ y,ckE c b y=true→XJ am n q F c b y) (h:ckE c (.dict1 a b) x=true):XJ am n q F c (.dict1 a b) x:=by
 refine zfU (G:=XJ am n q F c (.dict1 a b)) h fun ks vs p hh=>?_;refine zaW (G:=fun ks=>XJ am n q F c (.dict1 a b) (.Dict ks vs p)) hh fun k hh=>?_;refine zdG (G:=fun k=>XJ am n q F c (.dict1 a b) (.Dict [k] vs p)) hh fun k hh=>?_;refine zaW (G:=fun vs=>XJ am n q F c (.dict1 a b) (.Dict [some k] vs p)) hh fun v hh=>?_;exact⟨EJ.both (zmn (Ia _ (al hh)).1.1 (Ib _ (ar hh)).1.1) rfl,fun z=>by cases z⟩
theorem zkl {q:Bool}{c:Ck}{es:List (PE × PE)}{x:Expr}(h:ckE c (.newDict es) x=true):XJ am n q F c (.newDict es) x:=by
 refine zfU (G:=XJ am n q F c (.newDict es)) h fun ks vs p hh=>?_;refine zbc (G:=fun ks=>XJ am n q F c (.newDict es) (.Dict ks vs p)) (al hh) ?_;refine zbc (G:=fun vs=>XJ am n q F c (.newDict es) (.Dict [] vs p)) (al (ar hh)) ?_;refine zbc (G:=fun es=>XJ am n q F c (.newDict es) (.Dict [] [] p)) (ar (ar hh)) ?_;exact⟨EJ.both zjb rfl,fun z=>by cases z⟩
mutual
theorem zab (q:Bool):∀ (c:Ck) (e:PE) (x:Expr),ckE c e x=true→XJ am n q F c e x
 |c,.none,x,h=>zpU  h
 |c,.bool b,x,h=>zp0  h
 |c,.int i,x,h=>zrf  h
 |c,.str t,x,h=>zra  h
 |c,.var i,x,h=>zq8  h
 |c,.glob g i,x,h=>zpW  h
 |c,.bin op a b,x,h=>zrj (zab q c a) (zab q c b) h
 |c,.neg i,x,h=>zre  h
 |c,.not a,x,h=>zrd (zab q c a) h
 |c,.and es,x,h=>zrk (zdm q c es) h
 |c,.or es,x,h=>zrz (zdm q c es) h
 |c,.ite ..,x,h=>by cases h
 |c,.cmp op a b,x,h=>zri (zab q c a) (zab q c b) h
 |c,.cmp2 o1 o2 a b d,x,h=>zpY (zab q c a) (zab q c b) (zab q c d) h
 |c,.list es,x,h=>zpV (zdm q c es) h
 |c,.tup es,x,h=>zq9 (zdm q c es) h
 |c,.dict0,x,h=>zn7  h
 |c,.idx a i,x,h=>zrg (zab q c a) (zab q c i) h
 |c,.slice a lo hi,x,h=>zn5 (zab q c a) (zna q c lo) (zna q c hi) h
 |c,.rev a,x,h=>zrb (zab q c a) h
 |c,.isinst a ts,x,h=>zl5 (zab q c a) h
 |c,.isexc _ _,x,h=>by cases h
 |c,.callX _ _,x,h=>by cases h
 |c,.bf f a,x,h=>zrA (zab q c a) h
 |c,.join0 ..,x,h=>by cases h
 |c,.comp elt i it cond,x,h=>zpX (fun c=>zab true c elt) (zhz c it) (fun c=>znb c cond) h
 |c,.call k f args,x,h=>zpZ (zdm q c args) h
 |c,.own a,x,h=>by
  obtain⟨h0,h⟩:=Bool.and_eq_true_iff.mp h;obtain⟨h1,h2⟩:=(zab q c a x h).2 h0;exact⟨h1.both h2,fun z=>by cases z⟩
 |c,.newDict es,x,h=>zkl h
 |c,.append o a,x,h=>zl7 (zab q c o) (zab q c a) h
 |c,.extend o a,x,h=>zl6 (zab q c o) (zab q c a) h
 |c,.clear ..,x,h=>by cases h
 |c,.remove o a,x,h=>zl4 (zab q c o) (zab q c a) h
 |c,.pop o,x,h=>zrc (zab q c o) h
 |c,.popAt ..,x,h=>by cases h
 |c,.get o a d,x,h=>zrh (zab q c o) (zab q c a) (zab q c d) h
 |c,.setdef o a d,x,h=>zl3 (zab q c o) (zab q c a) (zab q c d) h
 |c,.dict1 a b,x,h=>zn6 (zab q c a) (zab q c b) h
theorem zdm (q:Bool):∀ (c:Ck) (es:List PE) (xs:List Expr),ckEs c es xs=true→AllJ am n q F c es xs
 |c,[],xs,h=>zbc (G:=fun xs=>AllJ am n q F c [] xs) h trivial
 |c,e::es,xs,h=>by
  cases xs with
  |nil=>cases h
  |cons x xs =>
   have h:(!isStar x&&(ckE c e x&&ckEs c es xs))=true:=h;exact⟨⟨nt (al h),(zab q c e x (al (ar h))).1⟩,zdm q c es xs (ar (ar h))⟩
theorem zna (q:Bool):∀ (c:Ck) (e:Option PE) (x:Option Expr),ckO c e x=true→OptJ am n q F c e x
 |c,none,x,h=>zdH (G:=fun x=>OptJ am n q F c none x) h trivial
 |c,some e,x,h=>zdG (G:=fun x=>OptJ am n q F c (some e) x) h fun x h=>show EJ am n q F c e x from fun {cx ρ A res π Hc s}=>(zab q c e x h).1.1
theorem znb:∀ (c:Ck) (e:Option PE) (xs:List Expr),ckC c e xs=true→CJ am n F c e xs
 |c,none,xs,h=>zbc (G:=fun xs=>CJ am n F c none xs) h zoz
 |c,some e,xs,h=>zaW (G:=fun xs=>CJ am n F c (some e) xs) h fun y h=>zoy (zab true c e _ h).1.2
theorem zhz:∀ (c:Ck) (it:PIt) (x:Expr),ckIt c it x=true→ItJ am n F c it x
 |c,.seq e,x,h=>by
  have hp:=(zab true c e _ h).1;exact zp1 hp.1
 |c,.range1 a,x,h=>by
  refine zbo (G:=ItJ am n F c (.range1 a)) h fun xs p p' hh=>?_;refine zaW (G:=fun xs=>ItJ am n F c (.range1 a) (.Call (.Name "range" p) xs [] p')) hh fun y hh=>?_;have hp:=(zab true c a _ (ar hh)).1;exact fun {cx ρ A res π Hc s}=>zkr (al hh) (zaX (ar hh)) hp.1
 |c,.range2 a b,x,h=>by
  refine zbo (G:=ItJ am n F c (.range2 a b)) h fun xs p p' hh=>?_;refine zcM (G:=fun xs=>ItJ am n F c (.range2 a b) (.Call (.Name "range" p) xs [] p')) hh fun y y' hh=>?_;have hp:=(zab true c a _ (al (ar hh))).1;have hp2:=(zab true c b _ (ar (ar hh))).1;exact fun {cx ρ A res π Hc s}=>zkq (al hh) (zaX (al (ar hh))) (zaX (ar (ar hh))) hp.1 hp2.1
 |c,.range3 a b d,x,h=>by
  refine zbo (G:=ItJ am n F c (.range3 a b d)) h fun xs p p' hh=>?_;refine zjA (G:=fun xs=>ItJ am n F c (.range3 a b d) (.Call (.Name "range" p) xs [] p')) hh fun y z w hh=>?_;have ha:=(zab true c a _ (al (ar hh))).1;have hb:=(zab true c b _ (al (ar (ar hh)))).1;have hd:=(zab true c d _ (ar (ar (ar hh)))).1;have hs:∀ e∈[y,z,w],isStar e=false:=List.forall_mem_cons.mpr ⟨zaX (al (ar hh)),List.forall_mem_cons.mpr ⟨zaX (al (ar (ar hh))),List.forall_mem_cons.mpr ⟨zaX (ar (ar (ar hh))),fun z_ h=>by cases h⟩⟩⟩
  exact fun {cx ρ A res π Hc s}=>zkp (al hh) hs ha.1 hb.1 hd.1
 |c,.enum ..,x,h=>by cases h
end
end
structure Frm (am:Amb) (cx:Cx) (outer:List Env) (s₀:Shared):Prop where
 top:cx.stack=cx.env::outer∧cx.env.frame=some cx.env.locals
 res:cx.env.locals∈am.res
 base:am.B.get? cx.env.locals=none
 fresh:s₀.heap.get? cx.env.locals=none
 cell:∀ y c,cx.env.cells.lookup y=some c→c∈am.res∧am.B.get? c=none∧s₀.heap.get? c=none
theorem Frm.fs {am:Amb}{cx:Cx}{outer:List Env}{s₀:Shared}(f:Frm am cx outer s₀):Fs cx.stack=cx.env.locals::Fs outer:=by
 obtain⟨h1,h2⟩:=f.top;rw[h1];simp[Fs,h2]
theorem Step.inn {am:Amb}{cx:Cx}{outer:List Env}{s₀:Shared}(f:Frm am cx outer s₀){π₀ π π':List Addr}{s s':Shared}(x:Step (Fs outer) π₀ s₀ π s) (y:Step (Fs cx.stack) π s π' s'):Step (Fs outer) π₀ s₀ π' s':=by
 rw[f.fs] at y;refine⟨?_,⟨fun a o e h1 h2=>?_,fun a o e h1=>?_,fun a o e=>?_⟩,?_⟩
 ·obtain⟨h',tk,e⟩:=x.same
  obtain⟨h'',tk',e'⟩:=y.same;exact⟨h'',tk',by rw[e',e]⟩
 ·refine y.ext.keep a o (x.ext.keep a o e h1 h2) (x.notin e h1) ?_
  rw[List.mem_cons,not_or];exact⟨(fun q=>by subst q;rw[f.fresh] at e;cases e),h2⟩
 ·obtain⟨sl,h3⟩:=x.ext.slots a o e h1
  obtain⟨sl',h4⟩:=y.ext.slots a _ h3 (x.notin e h1);exact⟨sl',h4⟩
 ·obtain⟨o',h3⟩:=x.ext.alive a o e
  exact y.ext.alive a o' h3
 ·obtain⟨δ,rfl,hδ⟩:=x.grow
  obtain⟨δ',rfl,hδ'⟩:=y.grow;refine⟨δ++δ',by simp,fun a ha=>?_⟩
  rcases List.mem_append.mp ha with h1|h1
  ·exact hδ a h1
  ·cases hq:s₀.heap.get? a with
   |none=>rfl
   |some o =>
    obtain⟨o',h3⟩:=x.ext.alive a o hq;have:=hδ' a h1;rw[h3] at this;cases this
noncomputable def FlR (am:Amb) (π:List Addr) (h:Heap):Fl→Flow→Prop
 |.next,f=>f=.next
 |.ret v,f=>∃ x,f=.ret x∧VR am π h v x
inductive SOk (am:Amb) (cx:Cx) (outer:List Env) (q:Bool) (A:Around) (π₀:List Addr) (s₀:Shared) (G:List Addr→Shared→Prop) (r:RS) (f:Flow) (s':Shared):Prop
 |mk (fl:Fl) (ρ':List V) (H':H) (π':List Addr) (h1:r=.ok fl ρ' H') (h2:Step (Fs outer) π₀ s₀ π' s') (h3:St am q cx ρ' π' H' A s') (h4:q=true→NoExc ρ') (h5:FlR am π' s'.heap fl f) (h6:G π' s')
noncomputable def SEr (am:Amb) (cx:Cx) (outer:List Env) (q:Bool) (A:Around) (π₀:List Addr) (s₀:Shared) (r:RS) (x:Value) (s':Shared):Prop:=False
noncomputable def SP (am:Amb) (cx:Cx) (outer:List Env) (q:Bool) (A:Around) (π₀:List Addr) (s₀:Shared) (G:List Addr→Shared→Prop) (T:PT Flow) (r:RS) (s:Shared):Prop :=
 r=.bad∨T (SOk am cx outer q A π₀ s₀ G r) (SEr am cx outer q A π₀ s₀ r) s
section
variable {am:Amb}{n:Nat}{q:Bool}{F:Fn}{c:Ck}{cx:Cx}{ρ:List V}{A:Around}{res:List Addr}{outer:List Env}{π₀:List Addr}{s₀:Shared}{G:List Addr→Shared→Prop}{π:List Addr}{Hc:H}{s:Shared}
structure Stm (am:Amb) (n:Nat) (q:Bool) (F:Fn) (c:Ck) (cx:Cx) (A:Around) (res:List Addr) (outer:List Env) (π₀:List Addr) (s₀:Shared) (G:List Addr→Shared→Prop) (ρ:List V) (π:List Addr) (Hc:H) (s:Shared):Prop where
 b:Base am n q F c cx ρ A
 f:Frm (am.at res) cx outer s₀
 go:Step (Fs outer) π₀ s₀ π s
 st:St (am.at res) q cx ρ π Hc A s
 low:True
 g:G π s
 gk:∀ π s π' s',G π s→Mv res (Fs cx.stack) π s π' s'→G π' s'
theorem Base.set {ρ':List V}(b:Base am n q F c cx ρ A) (h:q=true→NoExc ρ'):Base am n q F c cx ρ' A:=⟨b.ok,b.fn,b.ck,b.cxk,b.as,h⟩
theorem Stm.step (x:Stm am n q F c cx A res outer π₀ s₀ G ρ π Hc s){π':List Addr}{H':H}{s':Shared}(y:Step (Fs cx.stack) π s π' s') (hr:HR (am.at res) cx.stack π' H' s'.heap):Stm am n q F c cx A res outer π₀ s₀ G ρ π' H' s' :=
 ⟨x.b,x.f,x.go.inn x.f y,x.st.step y hr,x.low,x.gk _ _ _ _ x.g (.of y),x.gk⟩
theorem sbindT {α β:Type}{T0:PT α}(hT0:PT.Mono T0){r:R β}{Rel:List Addr→Heap→β→α→Prop}{g:β→H→RS}{T:α→PT Flow}(x:Stm am n q F c cx A res outer π₀ s₀ G ρ π Hc s) (h1:JT (am.at res) cx.stack T0 r Rel π s)
  (h2:∀ a b H' π' s',r=.ok b H'→Stm am n q F c cx A res outer π₀ s₀ G ρ π' H' s'→Rel π' s'.heap b a→SP (am.at res) cx outer q A π₀ s₀ G (T a) (g b H') s') :
  SP (am.at res) cx outer q A π₀ s₀ G (fun Q E s=>T0 (fun a s₁=>T a Q E s₁) E s) (r.st ρ g) s:=by
 by_cases hb:r.st ρ g=.bad
 ·exact .inl hb
 rcases h1 with rfl|h1
 ·exact absurd rfl hb
 refine .inr (hT0 _ _ _ _ _ (fun a s' h=>?_) (fun z_ z_ h=>False.elim h) h1);refine hold fun z_ k_=>?_;obtain⟨b,H',π',h,h3,h4,h5⟩:=h;refine k_ ?_;subst h;exact(h2 a b H' π' s' rfl (x.step h3 h4) h5).resolve_left hb
theorem sbind {α β:Type}{m:Sem α}{r:R β}{Rel:List Addr→Heap→β→α→Prop}{g:β→H→RS}{T:α→PT Flow}(x:Stm am n q F c cx A res outer π₀ s₀ G ρ π Hc s) (h1:JAt (am.at res) cx.stack A m r Rel π s)
  (h2:∀ a b H' π' s',r=.ok b H'→Stm am n q F c cx A res outer π₀ s₀ G ρ π' H' s'→Rel π' s'.heap b a→SP (am.at res) cx outer q A π₀ s₀ G (T a) (g b H') s') :
  SP (am.at res) cx outer q A π₀ s₀ G (fun Q E s=>wpAny am.M A m (fun a s₁=>T a Q E s₁) E s) (r.st ρ g) s :=
 sbindT (PT.wp _ _) x h1 h2
theorem SP.rule {T T':PT Flow}{r:RS}{am:Amb}(h:SP am cx outer q A π₀ s₀ G T r s) (k:∀ Q E,T Q E s→T' Q E s):SP am cx outer q A π₀ s₀ G T' r s:=by
 rcases h with h|h
 ·exact .inl h
 ·exact .inr (k _ _ h)
theorem ER.setLocal {am:Amb}{cx:Cx}{ρ:List V}{π:List Addr}{h h':Heap}{v:Str}{i:Nat}{w:V}{xo:Option Value}{m:Str→Option Value}(er:ER am cx ρ π h) (hm:h.Ns cx.env.locals m) (hn':h'.Ns cx.env.locals (fun y=>if y=v then xo else m y)) (p:Poke cx.env.locals h h') (hres:cx.env.locals∈am.res)
  (hv:cx.ctx.lookup v=some i) (hkl:cx.env.kindOf v=some .local) (uniq:∀ z,cx.ctx.lookup z=some i→z=v) (hw:w≠.undef→∃ xv,xo=some xv∧SR am π h' w xv):ER am cx (ρ.set i w) π h':=by
 have hlt:∀ u,(ρ.set i w)[i]?=some u→u=w:=fun u hu=>by
  have hl:i < ρ.length:=by have:=(List.getElem?_eq_some_iff.mp hu).1;simpa using this
  rw[List.getElem?_set_self hl] at hu;cases hu;rfl
 refine⟨⟨_,hn'⟩,er.locOff,fun z d hd=>?_,er.apart,fun z j u e1 e2 e3 e4=>?_⟩
 ·refine hold fun z_ k_=>?_
  obtain⟨a1,a2,u,o,ho,r⟩:=er.cellOff z d hd;refine k_ ?_;exact⟨a1,a2,u,o,p d o a2 ho,r⟩
 ·by_cases hj:j=i
  ·subst hj
   have:=uniq z e1;subst this;have:=hlt u e2;subst this;obtain⟨xv,rfl,hs⟩:=hw e3;exact⟨xv,.inl ⟨hkl,_,hn',by simp⟩,hs⟩
  ·have hz:z≠v:=fun q=>by subst q;rw[hv] at e1;cases e1;exact hj rfl
   rw[List.getElem?_set_ne (Ne.symm hj)] at e2;obtain⟨x',e5,e6⟩:=er.var z j u e1 e2 e3 e4;refine⟨x',?_,?_⟩
   ·rcases e5 with⟨k,m',e7,e8⟩|⟨k,d,e7,o,ho,r⟩
    ·refine .inl ⟨k,_,hn',?_⟩
     have hmm:m z=m' z:=by
      refine hold fun z_ k_=>?_;obtain⟨o1,es1,ep1,a1,a2,a3,a4⟩:=hm;refine k_ ?_;refine hold fun z_ k_=>?_;obtain⟨o2,es2,ep2,b1,b2,b3,b4⟩:=e7;refine k_ ?_;rw[a1] at b1;cases b1;rw[a2] at b2;cases b2
      rw[←a4 z,← b4 z]
     simp only[hz,if_false];rw[hmm];exact e8
    ·exact .inr ⟨k,d,e7,o,p d o (er.cellOff z d e7).2.1 ho,r⟩
   ·exact e6.free fun b o hb z=>p b o (fun q=>hb (q ▸ hres)) z
theorem zlI {c:Ck}{cx:Cx}{v:Str}{i:Nat}(ck:CkR am c cx) (h1:c.ctx.lookup v=some i) (hinj:(c.ctx.map (·.2)).Nodup):∀ z,cx.ctx.lookup z=some i→z=v:=by
 intro z hz;rw[ck.ctx] at hz;have a1:=zaZ hz;have a2:=zaZ h1;have:∀ (l:List (Str × Nat)),(l.map (·.2)).Nodup→(z,i)∈l→(v,i)∈l→z=v:=by
  intro l
  induction l with
  |nil=>intro _ h _;simp at h
  |cons p l ih =>
   intro hn hz hy;rw[List.map_cons,List.nodup_cons] at hn
   rcases List.mem_cons.mp hz with hz1|hz2
   ·rcases List.mem_cons.mp hy with hy1|hy2
    ·rw[←hz1] at hy1;cases hy1;rfl
    ·exact absurd (List.mem_map.mpr ⟨(v,i),hy2,by rw[←hz1]⟩:p.2∈l.map (·.2)) hn.1
   ·rcases List.mem_cons.mp hy with hy1|hy2
    ·exact absurd (List.mem_map.mpr ⟨(z,i),hz2,by rw[←hy1]⟩:p.2∈l.map (·.2)) hn.1
    ·exact ih hn.2 hz2 hy2
 exact this _ hinj a1 a2
theorem zc9 (x:Stm am n q F c cx A res outer π₀ s₀ G ρ π Hc s){y:Str}{i:Nat}{v:V}{xv:Value}(hv:VR (am.at res) π s.heap v xv) (hy:c.var y i=true) (hk:c.names.lookup y≠some .free) (hinj:(c.ctx.map (·.2)).Nodup){Q:Unit→Shared→Prop}{E:Value→Shared→Prop}
  (h:∀ s',Stm am n q F c cx A res outer π₀ s₀ G (ρ.set i v) π Hc s'→(∀ C,s₀.heap.get? C=none→C≠cx.env.locals→(∀ z d,cx.env.cells.lookup z=some d→d≠C)→∀ o,s.heap.get? C=some o→s'.heap.get? C=some o)→(∀ b o,b ∉ (am.at res).res→s.heap.get? b=some o→s'.heap.get? b=some o)→Q () s') :
  wpAny am.M A (storeName cx.env y xv) Q E s:=by
 unfold Ck.var at hy;simp only[Bool.and_eq_true,beq_iff_eq,Bool.not_eq_true'] at hy;refine hold fun z_ k_=>?_;obtain⟨⟨⟨h1,h2⟩,h3⟩,h4⟩:=hy;refine k_ ?_;have ne':q=true→NoExc (ρ.set i v):=fun hq=>(x.b.ne hq).set hv.noexc;have uniq:=zlI x.b.ck h1 hinj;have main:∀ (C:Addr) (h':Heap) (tk:Nat),C∈(am.at res).res→(am.at res).B.get? C=none→C ∉ π→s₀.heap.get? C=none→(∃ o,s.heap.get? C=some o∧∀ us,o.data≠.fields us)→(∃ o,h'.get? C=some o∧∀ us,o.data≠.fields us)→Poke C s.heap h' →
   ER (am.at res) cx (ρ.set i v) π h'→Stm am n q F c cx A res outer π₀ s₀ G (ρ.set i v) π Hc { s with heap:=h',toks:=tk }:=by
  intro C h' tk c1 c2 c3 c4 c5 c6 p er;exact⟨x.b.set ne',x.f,x.go.poke c4 p,⟨x.st.hr.freed c1 c2 c3 p c6,er,x.st.hd⟩,x.low,x.gk _ _ _ _ x.g (Mv.poke (.of (Step.refl _ _ _)) (.inl ⟨c1,let ⟨o,ho,_⟩:=c6;⟨o,ho⟩⟩) p),x.gk⟩
 have hvis:cx.env.kindOf y=some .local∨cx.env.kindOf y=some .cell:=by
  rw[zfJ x.b.ck];unfold zg0 at h2;simp only[Bool.or_eq_true,beq_iff_eq] at h2
  rcases h2 with(h2|h2)|h2
  ·exact .inl h2
  ·exact .inr h2
  ·exact absurd h2 hk
 have hlt:∀ w,(ρ.set i v)[i]?=some w→w=v:=fun w hw=>by
  have hl:i < ρ.length:=by have:=(List.getElem?_eq_some_iff.mp hw).1;simpa using this
  rw[List.getElem?_set_self hl] at hw;cases hw;rfl
 have er:=x.st.er
 rcases hvis with hkl|hkc
 ·obtain⟨m,hm⟩:=er.ns
  refine wpAny_storeName_local hkl hm (fun h' hn' sb=>?_) (by simp[x.b.cxk.kind])
  have p:Poke cx.env.locals s.heap h':=fun b o hb e=>sb.extBut b o hb e;exact h _ (main cx.env.locals h' (s.toks+1) x.f.res x.f.base er.locOff x.f.fresh (Ns.nf hm) (Ns.nf hn') p (ER.setLocal (am:=am.at res) er hm hn' p x.f.res (by rw[x.b.ck.ctx];exact h1) hkl uniq fun z_=>⟨xv,rfl,(hv.free fun b o hb z=>p b o (fun q=>hb (q ▸ x.f.res)) z)⟩)) (fun C z_ hC z_ o ho=>p C o hC ho) (fun b o hb e=>p b o (fun q=>hb (q ▸ x.f.res)) e)
 ·obtain⟨d,hd⟩:=x.b.cxk.clos y (.inl hkc)
  refine hold fun z_ k_=>?_;obtain⟨a1,a2,u,hcell⟩:=er.cellOff y d hd;refine k_ ?_;obtain⟨f1,f2,f3⟩:=x.f.cell y d hd;have nfc:∀ {h:Heap}{u:Option Value},h.IsCell d u→∃ o,h.get? d=some o∧∀ us,o.data≠.fields us:=fun {h u} hc=>let ⟨o,ho,hdd⟩:=hc;⟨o,ho,fun us q=>by rw[hdd] at q;cases q⟩
  refine wpAny_storeName_cell x.b.cxk.kind hkc hd hcell fun h' hc' sb=>?_;have p:Poke d s.heap h':=fun b o hb e=>sb.extBut b o hb e;refine h _ (main d h' s.toks f1 f2 a1 f3 (nfc hcell) (nfc hc') p ?_) (fun C z_ z_ hC o ho=>p C o (fun q=>hC y d hd q.symm) ho) (fun b o hb e=>p b o (fun q=>hb (q ▸ f1)) e);obtain⟨m,hm⟩:=er.ns;refine⟨⟨m,Ns.at hm fun o e=>p _ o (Ne.symm a2) e⟩,er.locOff,fun z d' hd'=>?_,er.apart,fun z j w e1 e2 e3 e4=>?_⟩
  ·refine hold fun z_ k_=>?_
   obtain⟨b1,b2,u',o,ho,r⟩:=er.cellOff z d' hd';refine k_ ?_
   by_cases hdd:d'=d
   ·subst hdd;exact⟨b1,b2,_,hc'⟩
   ·exact⟨b1,b2,u',o,p d' o hdd ho,r⟩
  ·by_cases hj:j=i
   ·subst hj
    have:=uniq z e1;subst this;have:=hlt w e2;subst this;exact⟨xv,.inr ⟨.inl hkc,d,hd,hc'⟩,(hv.free fun b o hb z=>p b o (fun q=>hb (q ▸ f1)) z)⟩
   ·have hz:z≠y:=fun q=>by
     subst q;rw[x.b.ck.ctx,h1] at e1;cases e1;exact hj rfl
    rw[List.getElem?_set_ne (Ne.symm hj)] at e2;obtain⟨u',e5,e6⟩:=er.var z j w e1 e2 e3 e4;refine⟨u',?_,e6.free fun b o hb z=>p b o (fun q=>hb (q ▸ f1)) z⟩
    rcases e5 with⟨k,m',e7,e8⟩|⟨k,d',e7,o,ho,r⟩
    ·exact .inl ⟨k,m',Ns.at e7 fun o e=>p _ o (Ne.symm a2) e,e8⟩
    ·have hdd:d'≠d:=fun q=>hz (er.apart z y d (q ▸ e7) hd)
     exact .inr ⟨k,d',e7,o,p d' o hdd ho,r⟩
end
theorem zjs {am am':Amb}(k:∀ a,a∈am'.res→a∈am.res){π:List Addr}{h:Heap}:Via am am' π π h h:=⟨fun a o ho z_ h1 h2=>⟨⟨o.slots,ho⟩,h1,fun q=>h2 (k a q)⟩,fun z_ z_ e=>e⟩
theorem VR.sub {am am':Amb}(k:∀ a,a∈am'.res→a∈am.res){π:List Addr}{h:Heap}{v:V}{y:Value}(e:VR am π h v y):VR am' π h v y:=e.via (zjs k)
theorem VRs.sub {am am':Amb}(k:∀ a,a∈am'.res→a∈am.res){π:List Addr}{h:Heap}{vs:List V}{ys:List Value}(e:VRs am π h vs ys):VRs am' π h vs ys:=e.via (zjs k)
theorem HR.sub {am:Amb}{r r':List Addr}(k:∀ a,a∈r'→a∈r){stack:List Env}{π:List Addr}{Hc:H}{h:Heap}(x:HR (am.at r) stack π Hc h):HR (am.at r') stack π Hc h :=
 ⟨x.base,x.frames,x.len,x.nodup,fun a ha=>x.res a (k a ha),x.off,fun i c a h1 h2=>by
  obtain⟨o,xs,e0,e1,e2,e3⟩:=x.cell i c a h1 h2;exact⟨o,xs,e0,e1,e2,e3.sub k⟩⟩
section
variable {am:Amb}{n:Nat}{q:Bool}{F:Fn}{c:Ck}
noncomputable def SJ (am:Amb) (n:Nat) (q:Bool) (F:Fn) (c:Ck) (p:PS) (x:Stmt):Prop:=∀ ⦃cx:Cx⦄ ⦃ρ:List V⦄ ⦃A:Around⦄ ⦃res:List Addr⦄ ⦃outer:List Env⦄ ⦃π₀:List Addr⦄ ⦃s₀:Shared⦄ ⦃G:List Addr→Shared→Prop⦄ ⦃π:List Addr⦄ ⦃Hc:H⦄ ⦃s:Shared⦄,
 Stm am n q F c cx A res outer π₀ s₀ G ρ π Hc s→SP (am.at res) cx outer q A π₀ s₀ G (fun Q E s=>wpAny am.M A (exec x cx.env) Q E s) (exS q F p ρ Hc) s
noncomputable def SsJ (am:Amb) (n:Nat) (q:Bool) (F:Fn) (c:Ck) (ps:List PS) (xs:List Stmt):Prop:=∀ ⦃cx:Cx⦄ ⦃ρ:List V⦄ ⦃A:Around⦄ ⦃res:List Addr⦄ ⦃outer:List Env⦄ ⦃π₀:List Addr⦄ ⦃s₀:Shared⦄ ⦃G:List Addr→Shared→Prop⦄ ⦃π:List Addr⦄ ⦃Hc:H⦄ ⦃s:Shared⦄,
 Stm am n q F c cx A res outer π₀ s₀ G ρ π Hc s→SP (am.at res) cx outer q A π₀ s₀ G (fun Q E s=>wpAny am.M A (execs xs cx.env) Q E s) (exSs q F ps ρ Hc) s
theorem SOk.here {cx:Cx}{ρ:List V}{A:Around}{res:List Addr}{outer:List Env}{π₀:List Addr}{s₀:Shared}{G:List Addr→Shared→Prop}{π:List Addr}{Hc:H}{s:Shared}(x:Stm am n q F c cx A res outer π₀ s₀ G ρ π Hc s):SOk (am.at res) cx outer q A π₀ s₀ G (.ok .next ρ Hc) .next s :=
 ⟨.next,ρ,Hc,π,rfl,x.go,x.st,x.b.ne,rfl,x.g⟩
theorem zmI:SsJ am n q F c [] []:=fun cx ρ A res outer π₀ s₀ G π Hc s x=>by
 simp only[zqT,zpj];exact .inr (wpAny_execs_nil (SOk.here x))
theorem zjI {p:PS}{ps:List PS}{y:Stmt}{ys:List Stmt}{cx:Cx}{ρ:List V}{A:Around}{res:List Addr}{outer:List Env}{π₀:List Addr}{s₀:Shared}{G:List Addr→Shared→Prop}{π:List Addr}{Hc:H}{s:Shared}(x:Stm am n q F c cx A res outer π₀ s₀ G ρ π Hc s)
  (h1:SP (am.at res) cx outer q A π₀ s₀ G (fun Q E s=>wpAny am.M A (exec y cx.env) Q E s) (exS q F p ρ Hc) s)
  (h2:∀ ρ' π' H' s',Stm am n q F c cx A res outer π₀ s₀ G ρ' π' H' s'→SP (am.at res) cx outer q A π₀ s₀ G (fun Q E s=>wpAny am.M A (execs ys cx.env) Q E s) (exSs q F ps ρ' H') s') :
  SP (am.at res) cx outer q A π₀ s₀ G (fun Q E s=>wpAny am.M A (execs (y::ys) cx.env) Q E s) (exSs q F (p::ps) ρ Hc) s:=by
 rw[zpj]
 by_cases hb:(exS q F p ρ Hc).then (fun ρ h=>exSs q F ps ρ h)=.bad
 ·exact .inl hb
 rcases h1 with h|h
 ·exact absurd (by rw[h];rfl) hb
 refine .inr (wpAny_execs_cons (wpAny_mono h (fun f s' z=>?_) fun z_ z_ z=>z));refine hold fun z_ k_=>?_;obtain⟨fl,ρ2,H2,π2,z1,z2,z3,z4,z5,zg⟩:=z;refine k_ ?_;rw[z1] at hb ⊢
 cases fl with
 |ret v =>
  obtain⟨xv,rfl,z6⟩:=z5;exact⟨_,_,_,_,rfl,z2,z3,z4,⟨xv,rfl,z6⟩,zg⟩
 |next =>
  cases z5
  exact(h2 ρ2 π2 H2 s' ⟨x.b.set z4,x.f,z2,z3,x.low,zg,x.gk⟩).resolve_left hb
theorem znr {p:PS}{ps:List PS}{y:Stmt}{ys:List Stmt}(h1:SJ am n q F c p y) (h2:SsJ am n q F c ps ys):SsJ am n q F c (p::ps) (y::ys):=fun cx ρ A res outer π₀ s₀ G π Hc s x=>zjI x (h1 x) fun z_ z_ z_ z_ x'=>h2 x'
theorem zo9 {p:Pos}:SJ am n q F c .pass (.Pass p):=fun cx ρ A res outer π₀ s₀ G π Hc s x=>by
 simp only[zoQ,zmR,zoP,zmQ,zoO,znJ,zoN,zoM,zoL,zgj,ziR,zgi,ziQ,ziP];exact .inr (wpAny_Pass (SOk.here x))
theorem zqS {e:PE}{y:Expr}{p:Pos}(h:EJ am n q F c e y):SJ am n q F c (.ret e) (.Return (some y) p):=fun cx ρ A res outer π₀ s₀ G π Hc s x=>by
 simp only[zoQ,zmR,zoP,zmQ,zoO,znJ,zoN,zoM,zoL,zgj,ziR,zgi,ziQ,ziP];refine SP.rule (T:=fun Q E s=>wpAny am.M A (eval y cx.env) (fun v s₁=>Q (.ret v) s₁) E s) (sbind x (h x.b x.st) fun a b H' π' s' z_ x' hv=>.inr ⟨.ret b,ρ,H',π',rfl,x'.go,x'.st,x'.b.ne,⟨a,rfl,hv⟩,x'.g⟩) fun Q E h=>wpAny_Return_some h
theorem zrw {t:PE}{a b:List PS}{y:Expr}{ys zs:List Stmt}{p:Pos}(ht:TJ am n q F c t y) (ha:SsJ am n q F c a ys) (hb:SsJ am n q F c b zs):SJ am n q F c (.ifs t a b) (.If y ys zs p):=fun cx ρ A res outer π₀ s₀ G π Hc s x=>by
 have e:exS q F (.ifs t a b) ρ Hc=(tr (evE q F ρ t Hc)).st ρ fun v h=>if v then exSs q F a ρ h else exSs q F b ρ h:=by
  simp only[zoQ,zmR,zoP,zmQ,zoO,znJ,zoN,zoM,zoL,zgj,ziR,zgi,ziQ,ziP]
  cases evE q F ρ t Hc with
  |ok v h =>
   simp only[tr,R.bind_ok,R.st_ok]
   cases truthy v with
   |none=>rfl
   |some u=>cases u<;>rfl
  |_=>rfl
 rw[e];refine SP.rule (T:=fun Q E s=>wpAny am.M A (isTrue y cx.env (eval y cx.env)) (fun v s₁=>if v then wpAny am.M A (execs ys cx.env) Q E s₁ else wpAny am.M A (execs zs cx.env) Q E s₁) E s) (sbind x (ht x.b x.st) fun v b' H' π' s' z_ x' hv=>?_) fun Q E h=>wpAny_If h;unfold BR at hv;subst hv
 cases b' with
 |true=>exact ha x'
 |false=>exact hb x'
theorem zd8 {cx:Cx}(h:CxOK cx):interactive cx.env=false:=by
 unfold interactive;simp[h.kind]
noncomputable def isCall (e:Expr):Bool:=@Expr.casesOn (fun z_=>Bool) e (fun z_ z_ z_=>false) (fun z_ z_ z_=>false) (fun z_ z_ z_ z_=>false) (fun z_ z_ z_=>false) (fun z_ z_ z_ z_=>false) (fun z_ z_ z_ z_=>false) (fun z_ z_ z_=>false) (fun z_ z_ z_=>false) (fun z_ z_ z_ z_=>false) (fun z_ z_ z_ z_=>false) (fun z_ z_ z_ z_ z_=>false) (fun z_ z_ z_ z_=>false) (fun z_ z_=>false) (fun z_ z_=>false) (fun z_ z_=>false) (fun z_ z_ z_ z_=>false) (fun z_ z_ z_ z_=>true) (fun z_ z_ z_ z_=>false) (fun z_ z_=>false) (fun z_ z_ z_=>false) (fun z_ z_ z_=>false) (fun z_ z_ z_=>false) (fun z_ z_=>false) (fun z_ z_=>false) (fun z_ z_=>false) (fun z_ z_ z_=>false) (fun z_ z_ z_ z_=>false)
theorem zpb {e:PE}{y:Expr}{p:Pos}(hc:isCall y=true) (h:EJ am n q F c e y):SJ am n q F c (.expr e) (.Expr y p):=fun cx ρ A res outer π₀ s₀ G π Hc s x=>by
 simp only[zoQ,zmR,zoP,zmQ,zoO,znJ,zoN,zoM,zoL,zgj,ziR,zgi,ziQ,ziP];exact SP.rule (T:=fun Q E s=>wpAny am.M A (eval y cx.env) (fun z_ s₁=>Q .next s₁) E s) (sbind x (h x.b x.st) fun a b H' π' s' z_ x' hv=>.inr (SOk.here x')) fun Q E h=>wpAny_Expr_any h (zd8 x.b.cxk) (by cases y<;>first|rfl|exact noB hc)
noncomputable def isComp (e:Expr):Bool:=@Expr.casesOn (fun z_=>Bool) e (fun z_ z_ z_=>false) (fun z_ z_ z_=>false) (fun z_ z_ z_ z_=>false) (fun z_ z_ z_=>false) (fun z_ z_ z_ z_=>false) (fun z_ z_ z_ z_=>false) (fun z_ z_ z_=>false) (fun z_ z_ z_=>false) (fun z_ z_ z_ z_=>true) (fun z_ z_ z_ z_=>true) (fun z_ z_ z_ z_ z_=>true) (fun z_ z_ z_ z_=>false) (fun z_ z_=>false) (fun z_ z_=>false) (fun z_ z_=>false) (fun z_ z_ z_ z_=>false) (fun z_ z_ z_ z_=>false) (fun z_ z_ z_ z_=>false) (fun z_ z_=>false) (fun z_ z_ z_=>false) (fun z_ z_ z_=>false) (fun z_ z_ z_=>false) (fun z_ z_=>false) (fun z_ z_=>false) (fun z_ z_=>false) (fun z_ z_ z_=>false) (fun z_ z_ z_ z_=>false)
theorem zcN {y:Expr}(h:isComp y=false) (t:Option Expr) (l:Nat) (env:Env):swapsWith y t l env=pure false:=by
 cases y<;>first|rfl|exact noB h.symm
theorem zd2 {i:Nat}{e:PE}{y:Expr}{v:Str}{p p':Pos}(hv:c.var v i=true) (hk:c.names.lookup v≠some .free) (hinj:(c.ctx.map (·.2)).Nodup) (h:EJ am n q F c e y)
  {cx:Cx}{ρ:List V}{A:Around}{res:List Addr}{outer:List Env}{π₀:List Addr}{s₀:Shared}{G:List Addr→Shared→Prop}{π:List Addr}{Hc:H}{s:Shared}(x:Stm am n q F c cx A res outer π₀ s₀ G ρ π Hc s) (hs:swapsWith y (some (.Name v p')) p.line cx.env=pure false) :
  SP (am.at res) cx outer q A π₀ s₀ G (fun Q E s=>wpAny am.M A (exec (.Assign [.Name v p'] y p) cx.env) Q E s) (exS q F (.asg i e) ρ Hc) s:=by
 simp only[zoQ,zmR,zoP,zmQ,zoO,znJ,zoN,zoM,zoL,zgj,ziR,zgi,ziQ,ziP];refine SP.rule (T:=fun Q E s=>wpAny am.M A (eval y cx.env) (fun w s₁=>wpAny am.M A (storeName cx.env v w) (fun z_=>Q .next) E s₁) E s) (sbind x (h x.b x.st) fun a b H' π' s' z_ x' hw=>?_) fun Q E h=>wpAny_Assign_Name h hs;exact .inr (zc9 x' hw hv hk hinj fun s'' x'' z_ z_=>SOk.here x'')
end
section
variable {am:Amb}{A:Around}{s:Shared}
theorem ziN {h:H}{a b c:V}(hd:dcell h a=false):seti h a b c=Option.none:=by
 cases a with
 |ref r =>
  simp only[dcell] at hd;simp only[seti]
  cases hq:h[r]? with
  |none=>rfl
  |some k =>
   rw[hq] at hd
   cases k with
   |list vs=>rfl
   |dict es=>cases hd
 |_=>rfl
end
section
variable {am:Amb}{n:Nat}{q:Bool}{F:Fn}{c:Ck}
theorem PT.wpv {α γ:Type}{A:Around}(M:Model) (m:Sem α) (f:α→γ):PT.Mono (fun(Q:γ→Shared→Prop) E s=>wpAny M A m (fun a s₁=>Q (f a) s₁) E s):=fun z_ z_ z_ z_ z_ h1 h2 h=>wpAny_mono h (fun a s x=>h1 _ _ x) h2
theorem zlt {o i e:PE}{yo yi y:Expr}{p tp:Pos}(hc:isComp y=false) (ho:EJ am n q F c o yo) (hi:EJ am n q F c i yi) (he:EJ am n q F c e y):SJ am n q F c (.setIdx o i e) (.Assign [.Subscript yo yi tp] y p):=fun cx ρ A res outer π₀ s₀ G π Hc s x=>by
 have shape:exS q F (.setIdx o i e) ρ Hc=((evE q F ρ e Hc).bind fun v h=>(evE q F ρ o h).bind fun x h=>(evE q F ρ i h).bind fun y h=>R.ok (v,x,y) h).st ρ fun t h=>match seti h t.2.1 t.2.2 t.1 with
   |some h=>.ok .next ρ h
   |Option.none=>.bad:=by
  rw[zmQ]
  cases evE q F ρ e Hc with
  |ok v h =>
   simp only[R.st_ok,R.bind_ok]
   cases evE q F ρ o h with
   |ok v h =>
    simp only[R.st_ok,R.bind_ok]
    cases evE q F ρ i h<;>rfl
   |_=>rfl
  |_=>rfl
 rw[shape];refine SP.rule (T:=fun Q E s=>wpAny am.M A (eval y cx.env) (fun v s₁=>wpAny am.M A (eval yo cx.env) (fun ov s₂=>wpAny am.M A (eval yi cx.env) (fun iv s₃=>wpAny am.M A (setItem ov iv v) (fun z_=>Q .next) E s₃) E s₂) E s₁) E s)
  (sbindT (T0:=fun Q E s=>wpAny am.M A (eval y cx.env) (fun v s₁=>wpAny am.M A (eval yo cx.env) (fun ov s₂=>wpAny am.M A (eval yi cx.env) (fun iv s₃=>Q (v,ov,iv) s₃) E s₂) E s₁) E s) (T:=fun t Q E s=>wpAny am.M A (setItem t.2.1 t.2.2 t.1) (fun z_=>Q .next) E s) (PT.seq _ _ fun z_=>PT.seq _ _ fun z_=>PT.wpv _ _ _) x
   (Rel:=fun π h (b:V × V × V) (t:Value × Value × Value)=>VR (am.at res) π h b.1 t.1∧VR (am.at res) π h b.2.1 t.2.1∧VR (am.at res) π h b.2.2 t.2.2)
   (JT.bind (fun z_=>PT.seq _ _ fun z_=>PT.wpv _ _ _) (he x.b x.st) fun v b H1 π1 s1 z_ hs1 hr1 hv1=>JT.bind (fun z_=>PT.wpv _ _ _) (ho x.b (x.st.step hs1 hr1)) fun ov b2 H2 π2 s2 z_ hs2 hr2 hv2 =>
    JT.bind (T:=fun iv Q E s=>Q (v,ov,iv) s) (fun z_ z_ z_ z_ z_ z_ h z_ y=>h _ _ y) (hi x.b ((x.st.step hs1 hr1).step hs2 hr2)) fun iv b3 H3 π3 s3 z_ hs3 hr3 hv3 =>
    .inr (OkP.here hr3 ⟨(hv1.step hs2).step hs3,hv2.step hs3,hv3⟩)) fun t b H' π' s' z_ x' hw=>?_) fun Q E h=>wpAny_Assign_Subscript h (zcN hc _ _ _)
 obtain⟨h1,h2,h3⟩:=hw
 cases hd:dcell H' b.2.1 with
 |false=>rw[ziN hd];exact .inl rfl
 |true =>
  cases hs:seti H' b.2.1 b.2.2 b.1 with
  |none=>exact .inl rfl
  |some H2=>exact .inr (zng (am:=am.at res) x'.b.as x'.st.hr h2 h3 h1 hd hs fun s2 hs2 hr2=>SOk.here (x'.step hs2 hr2))
end
noncomputable def ckTg (c:Ck):List Nat→List Expr→Bool
 |[],ts=>ts.isEmpty
 |i::is,ts=>(match ts with|t::ts=>(xName t fun v=>c.var v i&&c.names.lookup v != some .free)&&ckTg c is ts|[]=>false)
section
variable {am:Amb}{n:Nat}{q:Bool}{F:Fn}{c:Ck}
theorem zjB {i:Nat}{is:List Nat}{ts:List Expr}(h:ckTg c (i::is) ts=true):∃ v p ts',ts=.Name v p::ts'∧c.var v i=true∧c.names.lookup v≠some .free∧ckTg c is ts'=true:=by
 cases ts with
 |nil=>cases h
 |cons t ts =>
  have h:((xName t fun v=>c.var v i&&c.names.lookup v != some .free)&&ckTg c is ts)=true:=h;exact zc3 (G:=fun t=>∃ v p ts',t::ts=.Name v p::ts'∧c.var v i=true∧c.names.lookup v≠some .free∧ckTg c is ts'=true) (al h) fun v p h1=>⟨v,p,ts,rfl,al h1,bne_iff_ne.mp (ar h1),ar h⟩
theorem zg7 {env:Env}:∀ {is:List Nat}{ts:List Expr},ckTg c is ts=true→(assignEach ts env).length=is.length∧(assignEach ts env).findIdx? (·.1)=none
 |[],ts,h=>by
  cases ts with
  |nil=>exact⟨rfl,rfl⟩
  |cons _ _=>cases h
 |i::is,ts,h=>by
  obtain⟨v,p,ts',rfl,_,_,h4⟩:=zjB h;obtain⟨a,b⟩:=zg7 (env:=env) h4;refine⟨congrArg (·+1) a,?_⟩;show List.findIdx? (·.1) ((false,assign (.Name v p) env)::assignEach ts' env)=none;rw[List.findIdx?_cons,b];rfl
theorem zeT:∀ {is:List Nat}{vs ρ ρ':List V},setAll ρ is vs=some ρ'→is.length=vs.length
 |[],[],_,_,_=>rfl
 |_::is,_::vs,ρ,_,h=>congrArg (·+1) (zeT (is:=is) (vs:=vs) h)
variable {cx:Cx}{A:Around}{res:List Addr}{outer:List Env}{π₀:List Addr}{s₀:Shared}{G:List Addr→Shared→Prop}{π:List Addr}{Hc:H}
theorem ze6 (hinj:(c.ctx.map (·.2)).Nodup){Q:Unit→Shared→Prop}{E:Value→Shared→Prop}{ρ':List V}(hQ:∀ s',Stm am n q F c cx A res outer π₀ s₀ G ρ' π Hc s'→Q () s') :
  ∀ {is:List Nat}{ts:List Expr}{vs:List V}{xs:List Value}{ρ:List V}{s:Shared},ckTg c is ts=true→Stm am n q F c cx A res outer π₀ s₀ G ρ π Hc s→VRs (am.at res) π s.heap vs xs→setAll ρ is vs=some ρ' →
   wpAny am.M A (assignInOrder ((assignEach ts cx.env).map (·.2)) xs) Q E s
 |[],ts,vs,xs,ρ,s,h,X,hv,hs=>by
  cases vs with
  |cons _ _=>cases hs
  |nil =>
   cases hs
   cases ts with
   |nil=>exact wpAny_pure (hQ s X)
   |cons _ _=>cases h
 |i::is,ts,vs,xs,ρ,s,h,X,hv,hs=>by
  cases vs with
  |nil=>cases hs
  |cons v vs =>
   obtain⟨x,xs',rfl,hx,hr⟩:=hv;obtain⟨y,p,ts',rfl,h1,h2,h3⟩:=zjB h;show wpAny am.M A (do holding xs' (assign (.Name y p) cx.env x);assignInOrder ((assignEach ts' cx.env).map (·.2)) xs') Q E s
   refine wpAny_bind (wpAny_holding (wpAny_assign_Name (zc9 X hx h1 h2 hinj fun s' X' z_ hk=>?_)));exact ze6 hinj hQ h3 X' (hr.free hk) hs
theorem zpc {is:List Nat}{e:PE}{y:Expr}{ts:List Expr}{k:Nat}{tp p:Pos}(hc:isComp y=false) (ht:y.ctorIdx≠25) (hts:ckTg c is ts=true) (hinj:(c.ctx.map (·.2)).Nodup) (h:EJ am n true F c e y) :
  SJ am n true F c (.asgT is e) (.Assign [.Tuple ts k tp] y p):=fun cx ρ A res outer π₀ s₀ G π Hc s x=>by
 have hs:swapsWithSole [.Tuple ts k tp] y p.line cx.env=pure false:=(rfl:_=swapsWith y (some (.Tuple ts k tp)) p.line cx.env).trans (zcN hc _ _ _);have hw:swappedStores [.Tuple ts k tp] y cx.env=pure none:=by
  cases y<;>first|rfl|exact absurd rfl ht
 refine SP.rule (T:=fun Q E s=>wpAny am.M A (eval y cx.env) (fun w s₁=>wpAny am.M A (assign (.Tuple ts k tp) cx.env w) (fun z_=>Q .next) E s₁) E s)
  (r:=(evE true F ρ e Hc).st ρ fun v h=>match v with
   |.tup vs=>(match setAll ρ is vs with
    |some ρ=>.ok .next ρ h
    |Option.none=>.bad)
   |_=>.bad) (sbind x (h x.b x.st) fun a b H' π' s' z_ x' hw=>?_) fun Q E h=>Assign_Tuple h hs hw
 cases b with
 |tup vs =>
  dsimp only
  cases hse:setAll ρ is vs with
  |none=>exact .inl rfl
  |some ρ' =>
   obtain⟨t,xs,rfl,_,htu,_,hvr⟩:=hw;refine .inr (wpAny_assign_Tuple x'.st.hd htu ?_ (zg7 hts).2 fun h' hb=>?_)
   ·rw[(zg7 hts).1,zeT hse,List.size_toArray,hvr.len]
   ·have kk:∀ b o,s'.heap.get? b=some o→h'.get? b=some o:=fun b o e=>hb b o (Nat.ne_of_lt (Heap.lt_size e)) e
    have y:=x'.step (s':={ s' with heap:=h' }) (Step.keeps kk) (x'.st.hr.keeps kk)
    exact ze6 hinj (fun s'' z=>SOk.here z) hts y (hvr.step (s':={ s' with heap:=h' }) (Step.keeps (Fs:=Fs cx.stack) kk)) hse
 |_=>exact .inl rfl
end
section
variable {am:Amb}{n:Nat}{q:Bool}{F:Fn}{c:Ck}
theorem SR.sub {am am':Amb}(k:∀ a,a∈am'.res→a∈am.res) (_:am'.mg=am.mg) (_:am'.B=am.B){π:List Addr}{h:Heap}{v:V}{x:Value}(e:SR am π h v x):SR am' π h v x:=VR.sub k e
theorem ER.sub {am:Amb}{r r':List Addr}(k:∀ a,a∈r'→a∈r){cx:Cx}{ρ:List V}{π:List Addr}{h:Heap}(e:ER (am.at r) cx ρ π h):ER (am.at r') cx ρ π h :=
 ⟨e.ns,e.locOff,e.cellOff,e.apart,fun x i v h1 h2 h3 h4=>let ⟨v',h5,h6⟩:=e.var x i v h1 h2 h3 h4;⟨v',h5,SR.sub (am:=am.at r) (am':=am.at r') k rfl rfl h6⟩⟩
theorem ER.poke {am:Amb}{cx:Cx}{ρ:List V}{π:List Addr}{h h':Heap}{C:Addr}(e:ER am cx ρ π h) (hC:C∈am.res) (p:Poke C h h') (hnf:∃ o,h.get? C=some o∧∀ us,o.data≠.fields us) (hl:cx.env.locals≠C) (hc:∀ z d,cx.env.cells.lookup z=some d→d≠C):ER am cx ρ π h':=by
 obtain⟨m,hm⟩:=e.ns;refine⟨⟨m,Ns.at hm fun o z=>p _ o hl z⟩,e.locOff,fun z d hd=>?_,e.apart,fun z j w e1 e2 e3 e4=>?_⟩
 ·refine hold fun z_ k_=>?_
  obtain⟨a1,a2,u,o,ho,r⟩:=e.cellOff z d hd;refine k_ ?_;exact⟨a1,a2,u,o,p d o (hc z d hd) ho,r⟩
 ·obtain⟨u,e5,e6⟩:=e.var z j w e1 e2 e3 e4
  refine⟨u,?_,?_⟩
  ·rcases e5 with⟨k,m',e7,e8⟩|⟨k,d,e7,o,ho,r⟩
   ·exact .inl ⟨k,m',Ns.at e7 fun o z=>p _ o hl z,e8⟩
   ·exact .inr ⟨k,d,e7,o,p d o (hc z d e7) ho,r⟩
  ·exact e6.free fun b o hb z=>p b o (fun q=>hb (q ▸ hC)) z
theorem Mv.unhold {R Fs π π':List Addr}{s s':Shared}{C:Addr}(x:Mv (C::R) Fs π s π' s') (hC:s.heap.get? C=none):Mv R Fs π s π' s':=by
 have ne:∀ {b o},s.heap.get? b=some o→b ∉ R→b ∉ C::R:=fun {b o} e hb q=>by
  rcases List.mem_cons.mp q with rfl|h
  ·rw[hC] at e;cases e
  ·exact hb h
 exact⟨x.same,fun a o e h1 h2 h3=>x.keep a o e h1 h2 (ne e h3),fun a o e h1 h3=>x.slots a o e h1 (ne e h3),x.alive,x.grow⟩
theorem zoA {am:Amb}{stack:List Env}{π π1:List Addr}{s s':Shared}{vs:List V}{H1:H}{l:Addr}{xs:List Value}(h3:vs.length≤1000000) (h4:s.heap.get? l=none) (h5:l ∉ π1∧l ∉ Fs stack∧am.B.get? l=none) (h6:Step (Fs stack) π s π1 s') (h7:HR (am.hold l) stack π1 H1 s'.heap)
  (h8:PL s'.heap l xs) (h9:VRs (am.hold l) π1 s'.heap vs xs):Step (Fs stack) π s (π1++[l]) s'∧HR am stack (π1++[l]) (H1++[.list vs]) s'.heap∧VR am (π1++[l]) s'.heap (.ref H1.length) (.ref l):=by
 refine⟨⟨h6.same,h6.ext,?_⟩,⟨h7.base,h7.frames,by simp[h7.len],?_,h7.unhold.res,?_,?_⟩,?_⟩
 ·obtain⟨δ,rfl,hδ⟩:=h6.grow
  refine⟨δ++[l],by simp,fun a ha=>?_⟩
  rcases List.mem_append.mp ha with ha|ha
  ·exact hδ a ha
  ·rw[List.mem_singleton.mp ha];exact h4
 ·rw[List.nodup_append]
  exact⟨h7.nodup,by simp,fun a ha b hb=>by rw[List.mem_singleton.mp hb];exact fun q=>h5.1 (q ▸ ha)⟩
 ·intro a ha
  rcases List.mem_append.mp ha with ha|ha
  ·exact h7.off a ha
  ·rw[List.mem_singleton.mp ha];exact⟨h5.2.2,h5.2.1⟩
 ·intro i c a hi ha
  by_cases hlt:i < H1.length
  ·rw[List.getElem?_append_left hlt] at hi
   rw[List.getElem?_append_left (by rw[h7.len];exact hlt)] at ha
   obtain⟨o,ys,q0,q1,q2,q3⟩:=h7.cell i c a hi ha;exact⟨o,ys,q0,q1,q2,q3.reserve.1⟩
  ·have hi':i=H1.length:=zkP (by have:=(List.getElem?_eq_some_iff.mp hi).1;rw[List.length_append] at this;exact this) hlt
   subst hi';simp only[List.getElem?_concat_length,Option.some.injEq] at hi;rw[←h7.len] at ha;simp only[List.getElem?_concat_length,Option.some.injEq] at ha;subst hi ha;exact .ofList h8 h3 h9.reserve.1
 ·simp only[VR]
  exact⟨l,rfl,by rw[←h7.len];simp⟩
noncomputable def asgFin (own:Bool) (i:Nat) (ρ:List V) (rs:List V) (Hf:H):RS:=if own then .ok .next (ρ.set i (.ref Hf.length)) (Hf++[.list rs]) else .ok .next (ρ.set i (.lst rs)) Hf
theorem zlb {F:Fn}{own:Bool}{i j:Nat}{elt:PE}{it:PIt}{cond:Option PE}{ρ:List V}{Hc:H}:exS true F (.asg i (if own then .own (.comp elt j it cond) else .comp elt j it cond)) ρ Hc=(itemsR F ρ elt j it cond Hc).st ρ fun rs h=>asgFin own i ρ rs h:=by
 cases own with
 |false =>
  show exS true F (.asg i (.comp elt j it cond)) ρ Hc=_;rw[zmR,zbT]
  cases itemsR F ρ elt j it cond Hc<;>rfl
 |true =>
  show exS true F (.asg i (.own (.comp elt j it cond))) ρ Hc=_;rw[zmR,zay,zbT]
  cases itemsR F ρ elt j it cond Hc<;>rfl
theorem ziO {i:Nat}{elt:PE}{j:Nat}{it:PIt}{cond:Option PE}{own:Bool}{e iter:Expr}{x:Str}{px pos p p':Pos}{ifs:List Expr}{scope:Scope}{v:Str}(hset:isSet iter=false) (hsc:zd1 c x scope=true) (hi:c.ctx.all (fun p=>p.2 != j)=true)
  (hit:ItJ am n F c it iter) (helt:EJ am n true F (c.inner x j scope) elt e) (hcond:CJ am n F (c.inner x j scope) cond ifs)
  (hv:c.var v i=true) (hk:c.names.lookup v≠some .free) (hinj:(c.ctx.map (·.2)).Nodup)
  {cx:Cx}{ρ:List V}{A:Around}{res:List Addr}{outer:List Env}{π₀:List Addr}{s₀:Shared}{G:List Addr→Shared→Prop}{π:List Addr}{Hc:H}{s:Shared}(X:Stm am n true F c cx A res outer π₀ s₀ G ρ π Hc s)
  (hs:swapsWith (.ListComp e [⟨.Name x px,iter,ifs,0⟩] scope pos) (some (.Name v p')) p.line cx.env=pure true) :
  SP (am.at res) cx outer true A π₀ s₀ G (fun Q E s=>wpAny am.M A (exec (.Assign [.Name v p'] (.ListComp e [⟨.Name x px,iter,ifs,0⟩] scope pos) p) cx.env) Q E s) (exS true F (.asg i (if own then .own (.comp elt j it cond) else .comp elt j it cond)) ρ Hc) s:=by
 have B:=X.b;rw[zlb]
 rcases ziu (px:=px) (pos:=pos) (pos':=firstIterPos [⟨.Name x px,iter,ifs,0⟩] pos) hset hsc hi hit helt hcond B X.st with h|h
 ·exact .inl (by rw[h];rfl)
 ·refine .inr (zf9 fun Q' E' kq ke=>?_)
  rw[exec_Assign_Name_used _ _ _ _ hs,arm_evalThenUse_ListComp];refine wpAny_bind (wpAny_standAt (wpAny_bind (wpAny_bind ?_)));refine h (Q:=fun z_ s'=>wpAny am.M A (pure ():Sem Unit) (fun z_ s'=>wpAny am.M A (pure Flow.next:Sem Flow) Q' E' s') E' s') (use:=some (assign (.Name v p') cx.env)) (fun c' H' y s' ee z=>?_) fun rs Hf D C s' e7 e6 le=>?_
  ·exact False.elim z
  ·generalize hr:R.st (itemsR F ρ elt j it cond Hc) ρ (fun rs h=>asgFin own i ρ rs h)=r at kq ke
   have e7:r=asgFin own i ρ rs Hf:=by rw[←hr,e7];rfl
   refine hold fun z_ k_=>?_;obtain⟨π',xs,m,l1,l2,l3,l4,l5,l6,l7⟩:=le.rest;refine k_ ?_;show wpAny am.M A (assign (.Name v p') cx.env (.ref D)) _ _ s';have hs0C:s₀.heap.get? C=none:=by
    cases hq:s₀.heap.get? C with
    |none=>rfl
    |some o=>obtain⟨o',z⟩:=X.go.ext.alive C o hq;rw[le.freshC] at z;cases z
   have hDC:D ∉ (am.at (C::res)).res:=by simp only[Amb.at,List.mem_cons,not_or];exact⟨le.ne,le.resD⟩
   have hR:HR (am.at (D::C::res)) cx.stack π' Hf s'.heap:=HR.sub (am:=am) (r:=C::D::res) (r':=D::C::res) (by intro a ha;simp only[List.mem_cons] at ha ⊢;rcases ha with ha|ha|ha<;>simp[ha]) l2
   have hV:VRs ((am.at (C::res)).hold D) π' s'.heap rs xs:=VRs.sub (am':=(am.at (C::res)).hold D) (by intro a ha;simp only[Amb.hold,Amb.at,List.mem_cons] at ha ⊢;rcases ha with ha|ha|ha<;>simp[ha]) l4
   have hok:∃ w H2 π2,r=.ok .next (ρ.set i w) H2∧Step (Fs cx.stack) π s π2 s'∧HR (am.at (C::res)) cx.stack π2 H2 s'.heap∧VR (am.at (C::res)) π2 s'.heap w (.ref D)∧C ∉ π2:=by
    cases own with
    |false =>
     refine⟨.lst rs,Hf,π',by rw[e7];rfl,l1,HR.unhold (am:=am.at (C::res)) hR,?_,l7⟩
     simp only[VR];exact⟨D,xs,rfl,⟨l6,hDC⟩,l3.is,e6,hV.reserve.2⟩
    |true =>
     have z:=zoA (am:=am.at (C::res)) (s:=s) e6 le.freshD ⟨l6,le.fsD,le.baseD⟩ l1 hR l3 hV;refine⟨_,_,π'++[D],by rw[e7];rfl,z.1,z.2.1,z.2.2,?_⟩
     rw[List.mem_append,not_or,List.mem_singleton];exact⟨l7,Ne.symm le.ne⟩
   refine hold fun z_ k_=>?_;obtain⟨w,H2,π2,k2,k3,k4,k5,k6⟩:=hok;refine k_ ?_;have erC:ER (am.at (C::res)) cx ρ π2 s'.heap:=(X.st.er.held (l:=C) le.freshC).step k3;have Y:Stm am n true F c cx A (C::res) outer π₀ s₀ (fun π' s'=>Mv (C::res) (Fs cx.stack) π s π' s') ρ π2 H2 s' :=
    ⟨X.b,⟨X.f.top,List.mem_cons_of_mem _ X.f.res,X.f.base,X.f.fresh,fun z d hd=>let ⟨a1,a2,a3⟩:=X.f.cell z d hd;⟨List.mem_cons_of_mem _ a1,a2,a3⟩⟩,X.go.inn X.f k3,⟨k4,erC,X.st.hd.step k3⟩,X.low,.of k3,fun z_ z_ z_ z_ h m=>h.trans m⟩
   have hlC:cx.env.locals≠C:=fun q=>by
    obtain⟨m0,hm0⟩:=X.st.er.ns;obtain⟨o,ho⟩:=Heap.Ns.exist hm0;rw[q,le.freshC] at ho;cases ho
   have hcC:∀ z d,cx.env.cells.lookup z=some d→d≠C:=fun z d hd q=>by
    refine hold fun z_ k_=>?_;obtain⟨_,_,u,hu⟩:=X.st.er.cellOff z d hd;refine k_ ?_;obtain⟨o,ho⟩:=Heap.IsCell.exist hu;rw[q,le.freshC] at ho;cases ho
   refine wpAny_assign_Name (zc9 Y k5 hv hk hinj fun s'' Z hkeep z_=>?_);refine⟨m,Ns.at l5 fun o ho=>hkeep C hs0C (Ne.symm hlC) hcC o ho,fun h' sb=>?_⟩;have p':Poke C s''.heap h':=fun b o hb e=>sb.extBut b o hb e;have l5':s''.heap.Ns C m:=Ns.at l5 fun o ho=>hkeep C hs0C (Ne.symm hlC) hcC o ho;refine wpAny_pure (wpAny_pure ?_);subst k2;refine kq _ _ ⟨.next,_,_,π2,rfl,Z.go.poke (tk:=s''.toks) hs0C p',⟨HR.out (am:=am.at res) Z.st.hr le.resC le.baseC k6 le.fsC p',?_,?_⟩,Z.b.ne,rfl,?_⟩
   ·exact ER.sub (am:=am) (r:=C::res) (fun a ha=>List.mem_cons_of_mem _ ha) (Z.st.er.poke (am:=am.at (C::res)) List.mem_cons_self p' (Ns.nf l5') hlC hcC)
   ·exact Z.st.hd
   ·refine X.gk _ _ _ _ X.g (Mv.poke (tk:=s''.toks) (Mv.unhold Z.g le.freshC) (.inr le.freshC) p')
end
section
variable {am:Amb}{n:Nat}{q:Bool}{F:Fn}{c:Ck}
theorem zmh {w:Watch}{b:List V→V→Option (List V)}{body:List V→H→RS}{ρ:List V}{h:H}:forL w b body [] ρ h=if w.ok h then .ok .next ρ h else .bad:=rfl
theorem zkK {w:Watch}{b:List V→V→Option (List V)}{body:List V→H→RS}{v:V}{vs ρ:List V}{h:H}:forL w b body (v::vs) ρ h=if w.ok h then(match b ρ v with
   |some ρ'=>(body ρ' h).then fun ρ h=>forL w b body vs ρ h
   |none=>.bad) else .bad:=rfl
inductive ForInv (am:Amb) (cx:Cx) (outer:List Env) (A:Around) (π₀:List Addr) (s₀:Shared) (res π:List Addr) (s:Shared) (Sx:Nat→List Addr→Heap→Prop) (wt:Watch) (bi:List V→V→Option (List V)) (fb:List V→H→RS) (vs:List V) (r:RS) (k:Nat) (s':Shared):Prop
 |mk (j:Nat) (ρ':List V) (H':H) (π':List Addr) (e:k=vs.length - j) (hj:j≤vs.length) (ne:NoExc ρ') (g1:Step (Fs outer) π₀ s₀ π' s') (g2:St am true cx ρ' π' H' A s') (g3:Mv res (Fs cx.stack) π s π' s') (g4:Sx j π' s'.heap) (g5:forL wt bi fb (vs.drop j) ρ' H'=r)
theorem zpa {i:Nat}{it:PIt}{body:List PS}{iter:Expr}{v:Str}{p p':Pos}{ys:List Stmt}(hset:isSet iter=false) (hit:ItJ am n F c it iter) (hbody:SsJ am n true F c body ys)
  (hv:c.var v i=true) (hk:c.names.lookup v≠some .free) (hinj:(c.ctx.map (·.2)).Nodup):SJ am n true F c (.for1 i it body) (.For (.Name v p') iter ys [] p):=fun cx ρ A res outer π₀ s₀ G π Hc s X=>by
 have B:=X.b;have shape:exS true F (.for1 i it body) ρ Hc=(evIt true F ρ it Hc).st ρ fun vs h=>forL vs.2 (bind1 i) (fun ρ h=>exSs true F body ρ h) vs.1 ρ h:=by
  simp only[zoQ,zmR,zoP,zmQ,zoO,znJ,zoN,zoM,zoL,zgj,ziR,zgi,ziQ,ziP];rw[if_neg (by simp)]
 rw[shape];generalize hr:((evIt true F ρ it Hc).st ρ fun vs h=>forL vs.2 (bind1 i) (fun ρ h=>exSs true F body ρ h) vs.1 ρ h)=r
 by_cases hrb:r=.bad
 ·exact .inl hrb
 rcases hit B X.st with hI|hI
 ·exact absurd (by rw[←hr,hI];rfl) hrb
 refine .inr ?_;refine zf9 fun Q' E' kq ke=>?_;have erp:∀ y s',ErP (am.at res) cx.stack π s (evIt true F ρ it Hc) y s'→E' y s':=fun y s' h=>False.elim h;refine wpAny_For (wpAny_mono hI (fun xv s₁ h₁=>wpAny_mono h₁ (fun itv s₂ h₂=>?_) erp) erp) (zhT hset cx.env);refine hold fun z_ k_=>?_;obtain⟨⟨vs,wt⟩,H1,π1,e1,e2,e3,I,rfl,e5,e6,⟨Sx,IT,e7⟩,_⟩:=h₂;refine k_ ?_;have e0:forL wt (bind1 i) (fun ρ h=>exSs true F body ρ h) vs ρ H1=r:=by rw[←hr,e1];rfl
 have hs0I:s₀.heap.get? I=none:=by
  cases hq:s₀.heap.get? I with
  |none=>rfl
  |some o=>obtain⟨o',z⟩:=X.go.ext.alive I o hq;rw[e5] at z;cases z
 have poke:∀ {ρ':List V}{π':List Addr}{H':H}{s':Shared}{h':Heap}{tk k:Nat},NoExc ρ'→Step (Fs outer) π₀ s₀ π' s'→St (am.at res) true cx ρ' π' H' A s'→Mv res (Fs cx.stack) π s π' s'→Sx k π' s'.heap→Poke I s'.heap h' →
   Step (Fs outer) π₀ s₀ π' { s' with heap:=h',toks:=tk }∧St (am.at res) true cx ρ' π' H' A { s' with heap:=h',toks:=tk }∧Mv res (Fs cx.stack) π s π' { s' with heap:=h',toks:=tk }:=by
  intro ρ' π' H' s' h' tk k ne g1 g2 g3 g4 pk;refine hold fun z_ k_=>?_;obtain⟨_,_,o,us,ho,hd⟩:=IT.own k π' _ g4;refine k_ ?_;exact⟨g1.poke hs0I pk,⟨g2.hr.poke pk ho hd e6,g2.er.upto (pk.slots ho hd) ne,g2.hd⟩,g3.poke (.inr e5) pk⟩
 refine hold fun z_ k_=>?_;obtain⟨Inv,toInv,ofInv⟩:∃ Inv:Nat→Shared→Prop,(∀ k s',ForInv (am.at res) cx outer A π₀ s₀ res π s Sx wt (bind1 i) (fun ρ h=>exSs true F body ρ h) vs r k s'→Inv k s')∧(∀ k s',Inv k s'→ForInv (am.at res) cx outer A π₀ s₀ res π s Sx wt (bind1 i) (fun ρ h=>exSs true F body ρ h) vs r k s'):=⟨_,fun z_ z_ h=>h,fun z_ z_ h=>h⟩;refine k_ ?_;refine codeAny_forLoop_any Inv
  (fun k s' hk'=>?_) vs.length (toInv _ _ ⟨0,ρ,H1,π1,rfl,Nat.zero_le _,B.ne rfl,X.go.inn X.f e2,X.st.step e2 e3,.of e2,e7,by simpa using e0⟩)
 refine hold fun z_ k_=>?_;obtain⟨j,ρ',H',π',rfl,hj,ne,g1,g2,g3,g4,g5⟩:=ofInv _ _ hk';refine k_ ?_
 rcases Nat.lt_or_ge j vs.length with hlt|hge
 ·have hdrop:vs.drop j=vs[j]::vs.drop (j+1):=List.drop_eq_getElem_cons hlt
  rw[hdrop,zkK] at g5
  by_cases hw:wt.ok H'=true
  ·rw[if_pos hw] at g5
   simp only[bind1] at g5;refine IT.item j π' H' s' vs[j] _ _ g4 g2.hr hw (by simp[hlt]) fun x h' tk pk hx hs'=>?_
   obtain⟨k1,k2,k3⟩:=poke (tk:=tk) ne g1 g2 g3 g4 pk;show wpAny am.M A (letOwnedTupleGo (.Name v p') (.ref I) x) _ _ _;refine wpAny_of_eq (a:=()) rfl ?_
   let G':List Addr→Shared→Prop:=fun π' s'=>Mv res (Fs cx.stack) π s π' s'∧Sx (j+1) π' s'.heap
   have Y:Stm am n true F c cx A res outer π₀ s₀ G' ρ' π' H' { s' with heap:=h',toks:=tk } :=
    ⟨B.set fun z_=>ne,X.f,k1,k2,X.low,⟨k3,hs'⟩,fun z_ z_ z_ z_ h m=>⟨h.1.trans m,IT.move _ _ _ _ _ h.2 m⟩⟩
   refine wpAny_assign_Name (zc9 Y hx hv hk hinj fun s'' Z z_ z_=>?_)
   rcases hbody Z with hb|hb
   ·rw[hb] at g5;exact absurd g5.symm hrb
   ·refine wpAny_mono hb (fun fl s3 hs3=>?_) fun y s3 hs3=>?_
    ·refine hold fun z_ k_=>?_
     obtain⟨f',ρ2,H2,π2,z1,z2,z3,z4,z5,z6⟩:=hs3;refine k_ ?_;rw[z1] at g5
     cases f' with
     |next =>
      cases z5
      exact⟨vs.length - (j+1),Nat.sub_lt_sub_left hlt (Nat.lt_succ_self j),toInv _ _ ⟨j+1,ρ2,H2,π2,rfl,hlt,z4 rfl,z2,z3,z6.1,z6.2,by simpa using g5⟩⟩
     |ret w =>
      obtain⟨xv,rfl,hxv⟩:=z5;exact kq _ _ ⟨.ret w,ρ2,H2,π2,g5.symm,z2,z3,z4,⟨xv,rfl,hxv⟩,X.gk _ _ _ _ X.g z6.1⟩
    ·exact False.elim hs3
  ·rw[if_neg hw] at g5;exact absurd g5.symm hrb
 ·have hje:j=vs.length:=Nat.le_antisymm hj hge
  subst hje;rw[List.drop_length,zmh] at g5
  by_cases hw:wt.ok H'=true
  ·rw[if_pos hw] at g5
   refine IT.done π' H' s' _ _ g4 g2.hr hw fun h' tk pk=>?_;obtain⟨k1,k2,k3⟩:=poke (tk:=tk) ne g1 g2 g3 g4 pk;refine wpAny_execs_nil ?_;exact kq _ _ ⟨.next,ρ',H',π',g5.symm,k1,k2,fun z_=>ne,rfl,X.gk _ _ _ _ X.g k3⟩
  ·rw[if_neg hw] at g5;exact absurd g5.symm hrb
end
section
variable {am:Amb}{n:Nat}{F:Fn}{c:Ck}
inductive WhInv (am:Amb) (cx:Cx) (outer:List Env) (A:Around) (π₀:List Addr) (s₀:Shared) (res π:List Addr) (s:Shared) (f:Nat→List V→H→RS) (r:RS) (k:Nat) (s':Shared):Prop
 |mk (ρ':List V) (H':H) (π':List Addr) (ne:NoExc ρ') (g1:Step (Fs outer) π₀ s₀ π' s') (g2:St am true cx ρ' π' H' A s') (g3:Mv res (Fs cx.stack) π s π' s') (g5:f k ρ' H'=r)
theorem zgZ (t:PE) (body:List PS) (k:Nat) (ρ:List V) (h:H):whileL (fun ρ h=>evE true F ρ t h) (fun ρ h=>exSs true F body ρ h) (k+1) ρ h =
  (tr (evE true F ρ t h)).st ρ fun b h=>if b then(exSs true F body ρ h).then fun ρ h=>whileL (fun ρ h=>evE true F ρ t h) (fun ρ h=>exSs true F body ρ h) k ρ h else .ok .next ρ h:=by
 rw[zlj]
 cases evE true F ρ t h with
 |ok v h =>
  simp only[tr,R.bind_ok,R.st_ok]
  cases truthy v with
  |none=>rfl
  |some u=>cases u<;>rfl
 |_=>rfl
theorem znz {t:PE}{body:List PS}{y:Expr}{ys:List Stmt}{p:Pos}(ht:TJ am n true F c t y) (hbody:SsJ am n true F c body ys):SJ am n true F c (.while t body) (.While y ys [] p):=fun cx ρ A res outer π₀ s₀ G π Hc s X=>by
 have B:=X.b;have shape:exS true F (.while t body) ρ Hc=whileL (fun ρ h=>evE true F ρ t h) (fun ρ h=>exSs true F body ρ h) turns ρ Hc:=by
  rw[zgj,if_neg (by decide)]
 rw[shape];generalize hr:whileL (fun ρ h=>evE true F ρ t h) (fun ρ h=>exSs true F body ρ h) turns ρ Hc=r
 by_cases hrb:r=.bad
 ·exact .inl hrb
 refine .inr (zf9 fun Q' E' kq ke=>?_);refine hold fun z_ k_=>?_;obtain⟨Inv,toInv,ofInv⟩:∃ Inv:Nat→Shared→Prop,(∀ k s',WhInv (am.at res) cx outer A π₀ s₀ res π s (whileL (fun ρ h=>evE true F ρ t h) (fun ρ h=>exSs true F body ρ h)) r k s'→Inv k s')∧(∀ k s',Inv k s'→WhInv (am.at res) cx outer A π₀ s₀ res π s (whileL (fun ρ h=>evE true F ρ t h) (fun ρ h=>exSs true F body ρ h)) r k s'):=⟨_,fun z_ z_ h=>h,fun z_ z_ h=>h⟩
 refine k_ ?_;refine wpAny_While (codeAny_whileLoop Inv (fun k s' hk=>?_) turns (toInv _ _ ⟨ρ,Hc,π,B.ne rfl,X.go,X.st,.of (Step.refl _ _ _),hr⟩));refine hold fun z_ k_=>?_;obtain⟨ρ',H',π',ne,g1,g2,g3,g5⟩:=ofInv _ _ hk;refine k_ ?_
 cases k with
 |zero=>exact absurd g5.symm hrb
 |succ k =>
  rw[zgZ] at g5;have Y:Stm am n true F c cx A res outer π₀ s₀ (fun π' s'=>Mv res (Fs cx.stack) π s π' s') ρ' π' H' s':=⟨B.set fun z_=>ne,X.f,g1,g2,X.low,g3,fun z_ z_ z_ z_ h m=>h.trans m⟩
  rcases ht Y.b Y.st with hb|hb
  ·rw[hb] at g5;exact absurd g5.symm hrb
  ·refine wpAny_mono hb (fun b s2 h2=>?_) fun e s2 h2=>?_
   ·refine hold fun z_ k_=>?_
    obtain⟨b',H2,π2,e1,e2,e3,e4⟩:=h2;refine k_ ?_;unfold BR at e4;subst e4;rw[e1,R.st_ok] at g5;have Z:=Y.step e2 e3
    cases b' with
    |false =>
     rw[if_neg (by simp)] at g5 ⊢
     exact wpAny_execs_nil (kq _ _ ⟨.next,ρ',H2,π2,g5.symm,Z.go,Z.st,fun z_=>ne,rfl,X.gk _ _ _ _ X.g Z.g⟩)
    |true =>
     rw[if_pos rfl] at g5 ⊢
     rcases hbody Z with hb|hb
     ·rw[hb] at g5;exact absurd g5.symm hrb
     ·refine wpAny_mono hb (fun fl s3 hs3=>?_) fun y s3 hs3=>?_
      ·refine hold fun z_ k_=>?_
       obtain⟨f',ρ2,H2,π2,z1,z2,z3,z4,z5,z6⟩:=hs3;refine k_ ?_;rw[z1] at g5
       cases f' with
       |next =>
        cases z5
        exact⟨k,Nat.lt_succ_self k,toInv _ _ ⟨ρ2,H2,π2,z4 rfl,z2,z3,z6,g5⟩⟩
       |ret w =>
        obtain⟨xv,rfl,hxv⟩:=z5;exact kq _ _ ⟨.ret w,ρ2,H2,π2,g5.symm,z2,z3,z4,⟨xv,rfl,hxv⟩,X.gk _ _ _ _ X.g z6⟩
      ·exact False.elim hs3
   ·exact False.elim h2
end
section
variable {am:Amb}{n:Nat}{q:Bool}{F:Fn}{c:Ck}
theorem znA {d:String}{x:Stmt}:SJ am n q F c (.raise d) x:=fun cx ρ A res outer π₀ s₀ G π Hc s X=>.inl rfl
theorem zqR {body hd:List PS}{ys:List Stmt}{d:String}{i:Nat}{z:ExceptHandler}{p:Pos}(hbody:SsJ am n true F c body ys){cx:Cx}{ρ:List V}{A:Around}{res:List Addr}{outer:List Env}{π₀:List Addr}{s₀:Shared}{π:List Addr}{Hc:H}{s:Shared}(X:Stm am n true F c cx A res outer π₀ s₀ (fun z_ z_=>True) ρ π Hc s) :
  SP (am.at res) cx outer true A π₀ s₀ (fun z_ z_=>True) (fun Q E s=>wpAny am.M A (exec (.Try ys [z] [] [] p) cx.env) Q E s) (exS true F (.try body d i hd) ρ Hc) s:=by
 rw[zgi,if_neg (by decide)]
 rcases hbody X with hb|hb
 ·rw[hb];exact .inl rfl
 cases hr:exSs true F body ρ Hc with
 |bad=>exact .inl rfl
 |err d ρ' H'=>exact .inl rfl
 |ok fl ρ' H' =>
  rw[hr] at hb;refine .inr (zf9 fun Q' E' kq ke=>wpAny_Try_except (wpAny_mono hb (fun g s' z=>?_) fun y s' z=>?_))
  ·replace kq:=kq g s' z
   obtain⟨fl',ρ2,H2,π2,z1,z2,z3,z4,z5,z6⟩:=z
   cases fl' with
   |next=>cases z5;exact wpAny_execs_nil kq
   |ret w=>obtain⟨xv,rfl,hxv⟩:=z5;exact kq
  ·exact False.elim z
end
noncomputable def yExpr (e:Stmt) (p:Expr→Bool):Bool:=dite (e.ctorIdx=24) (fun hc=>(@Stmt.Expr.elim (fun z_=>Bool) e hc fun y z_=>p y)) fun z_=>false
theorem zmk {e:Stmt}{p:Expr→Bool}{G:Stmt→Prop}(h:yExpr e p=true) (k:∀ y q,p y=true→G (.Expr y q)):G e :=
 zaf h fun hc h=>@Stmt.Expr.elim (fun e=>∀ hc:e.ctorIdx=24,(@Stmt.Expr.elim (fun z_=>Bool) e hc fun y z_=>p y)=true→G e) e hc (fun y q z_ h=>k y q h) hc h
noncomputable def yAsg (e:Stmt) (p:List Expr→Expr→Bool):Bool:=dite (e.ctorIdx=5) (fun hc=>(@Stmt.Assign.elim (fun z_=>Bool) e hc fun ts y z_=>p ts y)) fun z_=>false
theorem zhF {e:Stmt}{p:List Expr→Expr→Bool}{G:Stmt→Prop}(h:yAsg e p=true) (k:∀ ts y q,p ts y=true→G (.Assign ts y q)):G e :=
 zaf h fun hc h=>@Stmt.Assign.elim (fun e=>∀ hc:e.ctorIdx=5,(@Stmt.Assign.elim (fun z_=>Bool) e hc fun ts y z_=>p ts y)=true→G e) e hc (fun ts y q z_ h=>k ts y q h) hc h
noncomputable def yRet (e:Stmt) (p:Option Expr→Bool):Bool:=dite (e.ctorIdx=3) (fun hc=>(@Stmt.Return.elim (fun z_=>Bool) e hc fun y z_=>p y)) fun z_=>false
theorem znG {e:Stmt}{p:Option Expr→Bool}{G:Stmt→Prop}(h:yRet e p=true) (k:∀ y q,p y=true→G (.Return y q)):G e :=
 zaf h fun hc h=>@Stmt.Return.elim (fun e=>∀ hc:e.ctorIdx=3,(@Stmt.Return.elim (fun z_=>Bool) e hc fun y z_=>p y)=true→G e) e hc (fun y q z_ h=>k y q h) hc h
noncomputable def yIf (e:Stmt) (p:Expr→List Stmt→List Stmt→Bool):Bool:=dite (e.ctorIdx=12) (fun hc=>(@Stmt.If.elim (fun z_=>Bool) e hc fun t a b z_=>p t a b)) fun z_=>false
theorem zob {e:Stmt}{p:Expr→List Stmt→List Stmt→Bool}{G:Stmt→Prop}(h:yIf e p=true) (k:∀ t a b q,p t a b=true→G (.If t a b q)):G e :=
 zaf h fun hc h=>@Stmt.If.elim (fun e=>∀ hc:e.ctorIdx=12,(@Stmt.If.elim (fun z_=>Bool) e hc fun t a b z_=>p t a b)=true→G e) e hc (fun t a b q z_ h=>k t a b q h) hc h
noncomputable def yWhile (e:Stmt) (p:Expr→List Stmt→List Stmt→Bool):Bool:=dite (e.ctorIdx=11) (fun hc=>(@Stmt.While.elim (fun z_=>Bool) e hc fun t a b z_=>p t a b)) fun z_=>false
theorem zjr {e:Stmt}{p:Expr→List Stmt→List Stmt→Bool}{G:Stmt→Prop}(h:yWhile e p=true) (k:∀ t a b q,p t a b=true→G (.While t a b q)):G e :=
 zaf h fun hc h=>@Stmt.While.elim (fun e=>∀ hc:e.ctorIdx=11,(@Stmt.While.elim (fun z_=>Bool) e hc fun t a b z_=>p t a b)=true→G e) e hc (fun t a b q z_ h=>k t a b q h) hc h
noncomputable def yFor (e:Stmt) (p:Expr→Expr→List Stmt→List Stmt→Bool):Bool:=dite (e.ctorIdx=9) (fun hc=>(@Stmt.For.elim (fun z_=>Bool) e hc fun t y a b z_=>p t y a b)) fun z_=>false
theorem zom {e:Stmt}{p:Expr→Expr→List Stmt→List Stmt→Bool}{G:Stmt→Prop}(h:yFor e p=true) (k:∀ t y a b q,p t y a b=true→G (.For t y a b q)):G e :=
 zaf h fun hc h=>@Stmt.For.elim (fun e=>∀ hc:e.ctorIdx=9,(@Stmt.For.elim (fun z_=>Bool) e hc fun t y a b z_=>p t y a b)=true→G e) e hc (fun t y a b q z_ h=>k t y a b q h) hc h
noncomputable def yPass (e:Stmt) (p:Bool):Bool:=dite (e.ctorIdx=25) (fun hc=>(@Stmt.Pass.elim (fun z_=>Bool) e hc fun z_=>p)) fun z_=>false
theorem zlE {e:Stmt}{p:Bool}{G:Stmt→Prop}(h:yPass e p=true) (k:∀ q,p=true→G (.Pass q)):G e :=
 zaf h fun hc h=>@Stmt.Pass.elim (fun e=>∀ hc:e.ctorIdx=25,(@Stmt.Pass.elim (fun z_=>Bool) e hc fun z_=>p)=true→G e) e hc (fun q z_ h=>k q h) hc h
noncomputable def yTry (e:Stmt) (p:List Stmt→List ExceptHandler→List Stmt→List Stmt→Bool):Bool:=dite (e.ctorIdx=17) (fun hc=>(@Stmt.Try.elim (fun z_=>Bool) e hc fun a hs b d z_=>p a hs b d)) fun z_=>false
theorem znn {e:Stmt}{p:List Stmt→List ExceptHandler→List Stmt→List Stmt→Bool}{G:Stmt→Prop}(h:yTry e p=true) (k:∀ a hs b d q,p a hs b d=true→G (.Try a hs b d q)):G e :=
 zaf h fun hc h=>@Stmt.Try.elim (fun e=>∀ hc:e.ctorIdx=17,(@Stmt.Try.elim (fun z_=>Bool) e hc fun a hs b d z_=>p a hs b d)=true→G e) e hc (fun a hs b d q z_ h=>k a hs b d q h) hc h
noncomputable def pComp (e:PE) (p:PE→Nat→PIt→Option PE→Bool):Bool:=match e with|.comp a b c d=>p a b c d|_=>false
theorem zgn {e:PE}{p:PE→Nat→PIt→Option PE→Bool}{G:PE→Prop}(h:pComp e p=true) (k:∀ a b c d,p a b c d=true→G (.comp a b c d)):G e:=by
 cases e<;>first|exact k _ _ _ _ h|exact absurd h Bool.false_ne_true
noncomputable def pOwn (e:PE) (p:PE→Bool):Bool:=match e with|.own a=>p a|_=>false
theorem zlF {e:PE}{p:PE→Bool}{G:PE→Prop}(h:pOwn e p=true) (k:∀ a,p a=true→G (.own a)):G e:=by
 cases e<;>first|exact k _ h|exact absurd h Bool.false_ne_true
noncomputable def pCompO (e:PE) (p:Bool→PE→Bool):Bool:=(pComp e fun a b c d=>p false (.comp a b c d))||pOwn e fun a=>pComp a fun a b c d=>p true (.comp a b c d)
theorem ziV {e:PE}{p:Bool→PE→Bool}{G:PE→Prop}(h:pCompO e p=true) (k:∀ o a b c d,p o (.comp a b c d)=true→G (if o then .own (.comp a b c d) else .comp a b c d)):G e:=by
 rcases(Bool.or_eq_true _ _).mp h with h|h
 ·exact zgn h fun a b c d h=>k false a b c d h
 ·exact zlF h fun a h=>zgn (G:=fun a=>G (.own a)) h fun a b c d h=>k true a b c d h
noncomputable def ckA (c:Ck) (e:PE) (y:Expr):Bool:=(!isComp y&&ckE c e y)||pCompO e fun z_ e=>ckE c e y
mutual
noncomputable def ckS (c:Ck):PS→Stmt→Bool
 |.expr e,x=>yExpr x fun y=>isCall y&&ckE c e y
 |.asg i e,x=>yAsg x fun ts y=>one ts fun u=>xName u fun v=>c.var v i&&(c.names.lookup v != some .free&&ckA c e y)
 |.asgT is e,x=>yAsg x fun ts y=>one ts fun u=>xTup u fun us=>!isComp y&&(decide (y.ctorIdx≠25)&&(ckTg c is us&&ckE c e y))
 |.setIdx o i e,x=>yAsg x fun ts y=>one ts fun u=>xSub u fun v s=>!isComp y&&(ckE c o v&&(ckE c i s&&ckE c e y))
 |.ret e,x=>yRet x fun t=>oneO t fun y=>ckE c e y
 |.ifs t a b,x=>yIf x fun t' a' b'=>ckE c t t'&&(ckSs c a a'&&ckSs c b b')
 |.while t a,x=>yWhile x fun t' a' b'=>ckE c t t'&&(ckSs c a a'&&b'.isEmpty)
 |.for1 i it body,x=>yFor x fun t y a b=>b.isEmpty&&(ckIt c it y&&(!isSet y&&((xName t fun v=>c.var v i&&c.names.lookup v != some .free)&&ckSs c body a)))
 |.raise _,_=>true
 |.pass,x=>yPass x true
 |_,_=>false
noncomputable def ckSs (c:Ck):List PS→List Stmt→Bool
 |[],xs=>xs.isEmpty
 |p::ps,xs=>(match xs with|x::xs=>ckS c p x&&ckSs c ps xs|[]=>false)
end
noncomputable def ckTry (c:Ck) (body:List PS) (_:String) (_:Nat) (_:List PS) (x:Stmt):Bool :=
 yTry x fun a hs b e=>one hs fun z_=>b.isEmpty&&(e.isEmpty&&ckSs c body a)
noncomputable def ckT (c:Ck):PS→Stmt→Bool
 |.try body d i hd,x=>ckTry c body d i hd x
 |p,x=>ckS c p x
noncomputable def ckTs (c:Ck):List PS→List Stmt→Bool
 |[],xs=>xs.isEmpty
 |p::ps,xs=>(match xs with|x::xs=>ckT c p x&&ckTs c ps xs|[]=>false)
section
variable {am:Amb}{n:Nat}{F:Fn}
theorem ziK {e:Expr}{gs:List Comprehension}{scope:Scope}{pos p':Pos}{v:Str}{l:Nat}{env:Env}:∃ b,swapsWith (.ListComp e gs scope pos) (some (.Name v p')) l env=pure b:=⟨_,rfl⟩
theorem zji {q own:Bool}{c:Ck}(hinj:(c.ctx.map (·.2)).Nodup){i j:Nat}{elt:PE}{it:PIt}{cond:Option PE}{v:Str}{y:Expr}{p p':Pos}(hv:c.var v i=true) (hk:c.names.lookup v≠some .free) (h:ckE c (.comp elt j it cond) y=true):SJ am n q F c (.asg i (if own then .own (.comp elt j it cond) else .comp elt j it cond)) (.Assign [.Name v p'] y p):=by
 have hx:=zab (am:=am) (n:=n) (F:=F) q c (.comp elt j it cond) y h;have he:EJ am n q F c (if own then .own (.comp elt j it cond) else .comp elt j it cond) y:=by
  cases own
  ·exact hx.1.1
  ·exact(hx.2 rfl).1
 refine zmZ (G:=fun y=>EJ am n q F c (if own then .own (.comp elt j it cond) else .comp elt j it cond) y→SJ am n q F c (.asg i (if own then .own (.comp elt j it cond) else .comp elt j it cond)) (.Assign [.Name v p'] y p)) h (fun el gs scope pos h he=>?_) he;refine zkE (G:=fun gs=>EJ am n q F c (if own then .own (.comp elt j it cond) else .comp elt j it cond) (.ListComp el gs scope pos)→SJ am n q F c (.asg i (if own then .own (.comp elt j it cond) else .comp elt j it cond)) (.Assign [.Name v p'] (.ListComp el gs scope pos) p)) h (fun x' iter ifs px hh he=>?_) he
 have h1:=al hh;have hh:=ar hh;have h2:=nt (al hh);have hh:=ar hh;have h3:=al hh;have hh:=ar hh;have h4:=al hh;have hh:=ar hh;intro cx ρ A res outer π₀ s₀ G π Hc s x;obtain⟨b,hb⟩:=ziK (e:=el) (gs:=[⟨.Name x' px,iter,ifs,0⟩]) (scope:=scope) (pos:=pos) (p':=p') (v:=v) (l:=p.line) (env:=cx.env)
 cases b with
 |false=>exact zd2 hv hk hinj he x hb
 |true =>
  cases q with
  |false=>exact .inl (by cases own<;>rfl)
  |true=>exact ziO h2 h3 h4 (zhz c it _ h1) (zab true _ elt _ (al hh)).1.1 (znb _ cond _ (ar hh)) hv hk hinj x hb
theorem zqz {q:Bool}{c:Ck}(hinj:(c.ctx.map (·.2)).Nodup){i:Nat}{e:PE}{v:Str}{y:Expr}{p p':Pos}(hv:c.var v i=true) (hk:c.names.lookup v≠some .free) (h:ckA c e y=true):SJ am n q F c (.asg i e) (.Assign [.Name v p'] y p):=by
 rcases(Bool.or_eq_true _ _).mp h with h|h
 ·exact fun cx ρ A res outer π₀ s₀ G π Hc s x=>zd2 hv hk hinj (zab (am:=am) (n:=n) (F:=F) q c e y (ar h)).1.1 x (zcN (nt (al h)) _ _ _)
 ·exact ziV (G:=fun e=>SJ am n q F c (.asg i e) (.Assign [.Name v p'] y p)) h fun o a b d e h=>zji hinj hv hk h
mutual
theorem zm9 {c:Ck}(hinj:(c.ctx.map (·.2)).Nodup) (q:Bool):∀ (p:PS) (x:Stmt),ckS c p x=true→SJ am n q F c p x
 |.expr e,x,h=>by
  refine zmk (G:=SJ am n q F c (.expr e)) h fun y p h=>?_;exact zpb (al h) (zab q c e _ (ar h)).1.1
 |.asg i e,x,h=>by
  refine zhF (G:=SJ am n q F c (.asg i e)) h fun ts y p h=>?_;refine zaW (G:=fun ts=>SJ am n q F c (.asg i e) (.Assign ts y p)) h fun u h=>?_;refine zc3 (G:=fun u=>SJ am n q F c (.asg i e) (.Assign [u] y p)) h fun v p' h=>?_;exact zqz hinj (al h) (bne_iff_ne.mp (al (ar h))) (ar (ar h))
 |.ret e,x,h=>by
  refine znG (G:=SJ am n q F c (.ret e)) h fun t p h=>?_;refine zdG (G:=fun t=>SJ am n q F c (.ret e) (.Return t p)) h fun y h=>?_;exact zqS (zab q c e _ h).1.1
 |.ifs t a b,x,h=>by
  refine zob (G:=SJ am n q F c (.ifs t a b)) h fun t' a' b' p h=>?_;exact zrw (zab q c t _ (al h)).1.2 (zdl hinj q a _ (al (ar h))) (zdl hinj q b _ (ar (ar h)))
 |.for1 i it body,x,h=>by
  refine zom (G:=SJ am n q F c (.for1 i it body)) h fun t y a b p h=>?_;refine zbc (G:=fun b=>SJ am n q F c (.for1 i it body) (.For t y a b p)) (al h) ?_;refine zc3 (G:=fun t=>SJ am n q F c (.for1 i it body) (.For t y a [] p)) (al (ar (ar (ar h)))) fun v p' h7=>?_
  cases q with
  |true=>exact zpa (nt (al (ar (ar h)))) (zhz c it _ (al (ar h))) (zdl hinj true body _ (ar (ar (ar (ar h))))) (al h7) (bne_iff_ne.mp (ar h7)) hinj
  |false=>exact fun cx ρ A res outer π₀ s₀ G π Hc s x=>.inl rfl
 |.raise d,x,h=>znA
 |.pass,x,h=>zlE (G:=SJ am n q F c .pass) h fun p z_=>zo9
 |.asgT is e,x,h=>by
  refine zhF (G:=SJ am n q F c (.asgT is e)) h fun ts y p h=>?_;refine zaW (G:=fun ts=>SJ am n q F c (.asgT is e) (.Assign ts y p)) h fun u h=>?_;refine zjy (G:=fun u=>SJ am n q F c (.asgT is e) (.Assign [u] y p)) h fun us k tp h=>?_
  cases q with
  |true=>exact zpc (nt (al h)) (of_decide_eq_true (al (ar h))) (al (ar (ar h))) hinj (zab true c e _ (ar (ar (ar h)))).1.1
  |false=>exact fun cx ρ A res outer π₀ s₀ G π Hc s x=>.inl rfl
 |.while t a,x,h=>by
  refine zjr (G:=SJ am n q F c (.while t a)) h fun t' a' b' p h=>?_;refine zbc (G:=fun b'=>SJ am n q F c (.while t a) (.While t' a' b' p)) (ar (ar h)) ?_
  cases q with
  |true=>exact znz (zab true c t _ (al h)).1.2 (zdl hinj true a _ (al (ar h)))
  |false=>exact fun cx ρ A res outer π₀ s₀ G π Hc s x=>.inl rfl
 |.setIdx o i e,x,h=>by
  refine zhF (G:=SJ am n q F c (.setIdx o i e)) h fun ts y p h=>?_;refine zaW (G:=fun ts=>SJ am n q F c (.setIdx o i e) (.Assign ts y p)) h fun u h=>?_;refine zfj (G:=fun u=>SJ am n q F c (.setIdx o i e) (.Assign [u] y p)) h fun v s tp h=>?_;exact zlt (nt (al h)) (zab q c o _ (al (ar h))).1.1 (zab q c i _ (al (ar (ar h)))).1.1 (zab q c e _ (ar (ar (ar h)))).1.1
 |.setIdx2 ..,x,h=>by cases h
 |.for2 ..,x,h=>by cases h
 |.try ..,x,h=>by cases h
 |.frz ..,x,h=>by cases h
theorem zdl {c:Ck}(hinj:(c.ctx.map (·.2)).Nodup) (q:Bool):∀ (ps:List PS) (xs:List Stmt),ckSs c ps xs=true→SsJ am n q F c ps xs
 |[],xs,h=>zbc (G:=SsJ am n q F c []) h zmI
 |p::ps,xs,h=>by
  cases xs with
  |nil=>cases h
  |cons x xs =>
   have h:(ckS c p x&&ckSs c ps xs)=true:=h;exact znr (zm9 hinj q p x (al h)) (zdl hinj q ps xs (ar h))
end
noncomputable def YJ (am:Amb) (n:Nat) (F:Fn) (c:Ck) (body hd:List PS) (d:String) (i:Nat) (x:Stmt):Prop:=∀ ⦃cx:Cx⦄ ⦃ρ:List V⦄ ⦃A:Around⦄ ⦃res:List Addr⦄ ⦃outer:List Env⦄ ⦃π₀:List Addr⦄ ⦃s₀:Shared⦄ ⦃π:List Addr⦄ ⦃Hc:H⦄ ⦃s:Shared⦄,
  Stm am n true F c cx A res outer π₀ s₀ (fun z_ z_=>True) ρ π Hc s→SP (am.at res) cx outer true A π₀ s₀ (fun z_ z_=>True) (fun Q E s=>wpAny am.M A (exec x cx.env) Q E s) (exS true F (.try body d i hd) ρ Hc) s
theorem zje {c:Ck}(hinj:(c.ctx.map (·.2)).Nodup){body hd:List PS}{d:String}{i:Nat}{x:Stmt}(h:ckTry c body d i hd x=true):YJ am n F c body hd d i x:=by
 refine znn (G:=YJ am n F c body hd d i) h fun a hs b e p h=>?_;refine zaW (G:=fun hs=>YJ am n F c body hd d i (.Try a hs b e p)) h fun z h=>?_;refine zbc (G:=fun b=>YJ am n F c body hd d i (.Try a [z] b e p)) (al h) ?_;have h:=ar h;refine zbc (G:=fun e=>YJ am n F c body hd d i (.Try a [z] [] e p)) (al h) ?_;have h:=ar h;exact fun cx ρ A res outer π₀ s₀ π Hc s X=>zqR (zdl hinj true _ _ h) X
theorem zms {c:Ck}(hinj:(c.ctx.map (·.2)).Nodup) (q:Bool){body hd:List PS}{d:String}{i:Nat}{x:Stmt}(h:ckTry c body d i hd x=true) ⦃cx:Cx⦄ ⦃ρ:List V⦄ ⦃A:Around⦄ ⦃res:List Addr⦄ ⦃outer:List Env⦄ ⦃π₀:List Addr⦄ ⦃s₀:Shared⦄ ⦃π:List Addr⦄ ⦃Hc:H⦄ ⦃s:Shared⦄
  (X:Stm am n q F c cx A res outer π₀ s₀ (fun z_ z_=>True) ρ π Hc s):SP (am.at res) cx outer q A π₀ s₀ (fun z_ z_=>True) (fun Q E s=>wpAny am.M A (exec x cx.env) Q E s) (exS q F (.try body d i hd) ρ Hc) s:=by
 cases q with
 |true=>exact zje hinj h X
 |false=>exact .inl rfl
noncomputable def TsJ (am:Amb) (n:Nat) (q:Bool) (F:Fn) (c:Ck) (ps:List PS) (xs:List Stmt):Prop:=∀ ⦃cx:Cx⦄ ⦃ρ:List V⦄ ⦃A:Around⦄ ⦃res:List Addr⦄ ⦃outer:List Env⦄ ⦃π₀:List Addr⦄ ⦃s₀:Shared⦄ ⦃π:List Addr⦄ ⦃Hc:H⦄ ⦃s:Shared⦄,
 Stm am n q F c cx A res outer π₀ s₀ (fun z_ z_=>True) ρ π Hc s→SP (am.at res) cx outer q A π₀ s₀ (fun z_ z_=>True) (fun Q E s=>wpAny am.M A (execs xs cx.env) Q E s) (exSs q F ps ρ Hc) s
theorem znm {q:Bool}{c:Ck}{p:PS}{ps:List PS}{y:Stmt}{ys:List Stmt}
  (h1:∀ ⦃cx:Cx⦄ ⦃ρ:List V⦄ ⦃A:Around⦄ ⦃res:List Addr⦄ ⦃outer:List Env⦄ ⦃π₀:List Addr⦄ ⦃s₀:Shared⦄ ⦃π:List Addr⦄ ⦃Hc:H⦄ ⦃s:Shared⦄,Stm am n q F c cx A res outer π₀ s₀ (fun z_ z_=>True) ρ π Hc s→SP (am.at res) cx outer q A π₀ s₀ (fun z_ z_=>True) (fun Q E s=>wpAny am.M A (exec y cx.env) Q E s) (exS q F p ρ Hc) s)
  (h2:TsJ am n q F c ps ys):TsJ am n q F c (p::ps) (y::ys):=fun cx ρ A res outer π₀ s₀ π Hc s x=>zjI x (h1 x) fun z_ z_ z_ z_ x'=>h2 x'
theorem zk6 {c:Ck}(hinj:(c.ctx.map (·.2)).Nodup) (q:Bool):∀ (ps:List PS) (xs:List Stmt),ckTs c ps xs=true→TsJ am n q F c ps xs
 |[],xs,h=>by
  cases xs with
  |nil=>exact fun cx ρ A res outer π₀ s₀ π Hc s x=>zmI x
  |cons _ _=>cases h
 |p::ps,xs,h=>by
  cases xs with
  |nil=>cases h
  |cons x xs =>
   obtain⟨h1,h2⟩:=Bool.and_eq_true_iff.mp (show(ckT c p x&&ckTs c ps xs)=true from h);refine znm ?_ (zk6 hinj q ps xs h2);intro cx ρ A res outer π₀ s₀ π Hc s X
   cases p with
   |«try» body d i hd=>exact zms hinj q h1 X
   |_=>exact zm9 hinj q _ _ h1 X
end
theorem zif {α β:Type}{f g:α→Option β}:∀ {l:List α},(∀ x∈l,f x=g x)→l.filterMap f=l.filterMap g
 |[],_=>rfl
 |a::l,h=>by
  rw[List.filterMap_cons,List.filterMap_cons,h a (by simp),zif fun x hx=>h x (by simp[hx])]
theorem zi6 {ns:List Str}(hn:ns.Nodup):∀ {vs:List Value},vs.length=ns.length→ns.filterMap (fun n=>((ns.zip vs).lookup n).map (n,·))=ns.zip vs:=by
 induction ns with
 |nil=>intro vs _;simp
 |cons a ns ih =>
  intro vs hl
  cases vs with
  |nil=>simp at hl
  |cons v vs =>
   rw[List.nodup_cons] at hn;simp only[List.zip_cons_cons,List.filterMap_cons,List.lookup_cons,beq_self_eq_true,Option.map_some]
   congr 1
   refine Eq.trans (zif fun x hx=>?_) (ih hn.2 (vs:=vs) (by simpa using hl))
   have:(x == a)=false:=by
    rw[beq_eq_false_iff_ne];rintro rfl;exact hn.1 hx
   rw[this]
theorem zhm {ns:List Str}:∀ {vs:List Value},vs.length=ns.length→∀ n∈ns,((ns.zip vs).lookup n).isSome=true:=by
 induction ns with
 |nil=>intro vs _ n hn;cases hn
 |cons a ns ih =>
  intro vs hl n hn
  cases vs with
  |nil=>simp at hl
  |cons v vs =>
   simp only[List.zip_cons_cons,List.lookup_cons]
   cases hq:n == a with
   |true=>rfl
   |false =>
    rcases List.mem_cons.mp hn with rfl|h
    ·simp at hq
    ·exact ih (by simpa using hl) n h
theorem zjg {nm qn:Str}{as:List Arg}{kd:List (Option Expr)}{df:List Expr}{body:FuncBody}{scope:Scope}{globals:Addr}{closure:List (Str × Addr)}{kwd doc pm:Value}{an:Option Addr}{co ct:Value}{bi:Addr}{vals:List Value} :
  ∃ (X Y:Sem (List (Str × Value))) (f:Str × Value→List (Str × Value)→Sem (ForInStep (List (Str × Value)))) (g:List (Str × Value)→Sem (List (Str × Value))),(∀ slots,g slots=pure ((as.map Arg.arg++[]).filterMap fun n=>(List.lookup n slots).map (n,·))) ∧
   bindArgs ⟨nm,qn,⟨[],as,none,[],kd,none,df⟩,body,scope,globals,closure,.none,kwd,doc,pm,an,co,ct,bi⟩ ⟨vals,[]⟩ =
    (if(decide (vals.length > (as.map Arg.arg).length)&&true)=true then X
    else if(!((((as.map Arg.arg).take ((as.map Arg.arg).length - (([]:List Value).drop (([]:List Value).length - (as.map Arg.arg).length)).length)).filter fun n=>(List.lookup n ((as.map Arg.arg).zip vals)).isNone).isEmpty))=true then Y
    else forIn (((as.map Arg.arg).drop ((as.map Arg.arg).length - (([]:List Value).drop (([]:List Value).length - (as.map Arg.arg).length)).length)).zip (([]:List Value).drop (([]:List Value).length - (as.map Arg.arg).length))) ((as.map Arg.arg).zip vals) f >>= g):=by
 refine⟨_,_,_,_,fun z_=>rfl,rfl⟩
theorem zjh {fd:FuncData}{vals:List Value}(hp:fd.params.posonlyargs=[]) (hk:fd.params.kwonlyargs=[]) (hv:fd.params.vararg=none) (hw:fd.params.kwarg=none) (hd:fd.defaults=.none)
  (hn:(fd.params.args.map (·.arg)).Nodup) (hl:vals.length=fd.params.args.length):bindArgs fd ⟨vals,[]⟩=pure ((fd.params.args.map (·.arg)).zip vals):=by
 have hl':vals.length=(fd.params.args.map (·.arg)).length:=by simpa using hl
 have hm:((fd.params.args.map (·.arg)).filter fun n=>(((fd.params.args.map (·.arg)).zip vals).lookup n).isNone)=[]:=by
  rw[List.filter_eq_nil_iff];intro n hn';have:=zhm hl' n hn'
  cases hq:((fd.params.args.map (·.arg)).zip vals).lookup n with
  |none=>rw[hq] at this;cases this
  |some _=>simp
 have hz:=zi6 hn hl';obtain⟨nm,qn,⟨po,as,va,ko,kd,kw,df⟩,body,scope,globals,closure,dfl,kwd,doc,pm,an,co,ct,bi⟩:=fd;simp only at hp hk hv hw hd hm hz hl';subst hp hk hv hw hd;obtain⟨X,Y,f,g,hg,e⟩:=zjg (nm:=nm) (qn:=qn) (as:=as) (kd:=kd) (df:=df) (body:=body) (scope:=scope) (globals:=globals) (closure:=closure) (kwd:=kwd) (doc:=doc) (pm:=pm) (an:=an) (co:=co) (ct:=ct) (bi:=bi) (vals:=vals);rw[e];generalize as.map Arg.arg=ns at hl' hm hz hg
 have hgt:¬ vals.length > ns.length:=by rw[hl'];exact Nat.lt_irrefl _
 rw[List.drop_nil,if_neg (by simp[hgt]),List.zip_nil_right,if_neg (by simp[hm])]
 show g (ns.zip vals)=_;rw[hg,List.append_nil,hz]
noncomputable def zjG:FuncBody→Option (List Stmt)
 |.stmts b=>some b
 |_=>none
noncomputable def ckFn (fns:List String) (nums:List (String × Int)) (d:FnDef) (nm:List String) (fd:FuncData):Bool :=
 let ns:=nm.map Str.ofString
 (match zjG fd.body with|some b=>ckTs ⟨ns.zipIdx,fd.scope.names,fns,nums⟩ d.body b|none=>false) &&
 fd.params.posonlyargs.isEmpty&&fd.params.kwonlyargs.isEmpty&&fd.params.vararg.isNone&&fd.params.kwarg.isNone&&fd.defaults == .none &&
 decide (fd.params.args.map (·.arg)=ns.take d.arity)&&decide (d.arity≤nm.length)&&decide (nm.length≤d.slots)&&decide ns.Nodup &&
 fd.closure.isEmpty&&fd.scope.kind == .function&&!fd.scope.isGenerator&&!fd.scope.isCoroutine&&decide (fd.globals=mainGlobals)&&decide (fd.builtins=builtinsNs) &&
 ns.all (fun x=>fd.scope.names.lookup x == some .local||fd.scope.names.lookup x == some .cell)&&fd.scope.names.all (fun p=>p.2 != .free)
structure FnC (fns:List String) (nums:List (String × Int)) (d:FnDef) (nm:List String) (fd:FuncData):Prop where
 body:∃ b,fd.body=.stmts b∧ckTs ⟨(nm.map Str.ofString).zipIdx,fd.scope.names,fns,nums⟩ d.body b=true
 k2:fd.params.posonlyargs=[]
 k3:fd.params.kwonlyargs=[]
 k4:fd.params.vararg=none
 k5:fd.params.kwarg=none
 k6:fd.defaults=.none
 k7:fd.params.args.map (·.arg)=(nm.map Str.ofString).take d.arity
 k8:d.arity≤nm.length
 k10:(nm.map Str.ofString).Nodup
 k11:fd.closure=[]
 k12:fd.scope.kind=.function
 k13:fd.scope.isGenerator=false
 k14:fd.scope.isCoroutine=false
 k15:fd.globals=mainGlobals
 k16:fd.builtins=builtinsNs
 k17:∀ x∈nm.map Str.ofString,fd.scope.names.lookup x=some .local∨fd.scope.names.lookup x=some .cell
 k18:∀ x,fd.scope.names.lookup x≠some .free
theorem zoE {fb:FuncBody}{f:List Stmt→Bool}(h:(match zjG fb with|some b=>f b|none=>false)=true):∃ b,fb=.stmts b∧f b=true:=by
 cases fb with
 |stmts b=>exact⟨b,rfl,h⟩
 |expr e=>cases h
theorem zqq {fns:List String}{nums:List (String × Int)}{d:FnDef}{nm:List String}{fd:FuncData}(h:ckFn fns nums d nm fd=true):FnC fns nums d nm fd :=
 ⟨zoE (al (al (al (al (al (al (al (al (al (al (al (al (al (al (al (al (al (h)))))))))))))))))),
  List.isEmpty_iff.mp (ar (al (al (al (al (al (al (al (al (al (al (al (al (al (al (al (al (h)))))))))))))))))),
  List.isEmpty_iff.mp (ar (al (al (al (al (al (al (al (al (al (al (al (al (al (al (al (h))))))))))))))))),
  Option.isNone_iff_eq_none.mp (ar (al (al (al (al (al (al (al (al (al (al (al (al (al (al (h)))))))))))))))),
  Option.isNone_iff_eq_none.mp (ar (al (al (al (al (al (al (al (al (al (al (al (al (al (h))))))))))))))),
  eq_of_beq (ar (al (al (al (al (al (al (al (al (al (al (al (al (h)))))))))))))),
  of_decide_eq_true (ar (al (al (al (al (al (al (al (al (al (al (al (h))))))))))))),
  of_decide_eq_true (ar (al (al (al (al (al (al (al (al (al (al (h)))))))))))),
  of_decide_eq_true (ar (al (al (al (al (al (al (al (al (h)))))))))),
  List.isEmpty_iff.mp (ar (al (al (al (al (al (al (al (h))))))))),
  eq_of_beq (ar (al (al (al (al (al (al (h)))))))),
  (Bool.not_eq_true' _).mp (ar (al (al (al (al (al (h))))))),
  (Bool.not_eq_true' _).mp (ar (al (al (al (al (h)))))),
  of_decide_eq_true (ar (al (al (al (h))))),
  of_decide_eq_true (ar (al (al (h)))),
  fun x hx=>or2 (List.all_eq_true.mp (ar (al (h))) x hx),
  fun x hx=>absurd (List.all_eq_true.mp (ar h) _ (zaZ hx)) (by simp)⟩
structure ProgOK (am:Amb) (P:Tab) (nm:String→List String) (fns:List String) (nums:List (String × Int)):Prop where
 fn:∀ f d a o fd,P f=some d→am.mg (Str.ofString f)=some (.ref a)→am.B.get? a=some o→o.data=.func fd→ckFn fns nums d (nm f) fd=true∧am.B.CodeRec fd.code fd.qualname
 fns:∀ f∈fns,∃ a,FunAt am f a
 nums:∀ p∈nums,∃ t,am.mg (Str.ofString p.1)=some (.int p.2 t)
theorem VR.more {am:Amb}{π:List Addr}{h:Heap}{r:List Addr}{v:V}{x:Value}:∀ (new:List Addr),(∀ l∈new,h.get? l=none)→VR (am.at r) π h v x→VR (am.at (new++r)) π h v x
 |[],_,e=>e
 |l::new,hl,e=>VR.held (am:=am.at (new++r)) (hl l (by simp)) (VR.more new (fun a ha=>hl a (by simp[ha])) e)
theorem VRs.more {am:Amb}{π:List Addr}{h:Heap}{r:List Addr}{vs:List V}{xs:List Value}:∀ (new:List Addr),(∀ l∈new,h.get? l=none)→VRs (am.at r) π h vs xs→VRs (am.at (new++r)) π h vs xs
 |[],_,e=>e
 |l::new,hl,e=>VRs.held (am:=am.at (new++r)) (hl l (by simp)) (VRs.more new (fun a ha=>hl a (by simp[ha])) e)
set_option tactic.hygienic true in
theorem zbk:∀ (names:List (Str × NameKind)) (k:Nat) (acc:List (Str × Addr)) (x:Str),(names.lookup x=some .cell∨(acc.lookup x).isSome=true)→((cellsFrom k names acc).lookup x).isSome=true
 |[],k,acc,x,h=>by
  rcases h with h|h
  ·simp at h
  ·exact h
 |(y,kd)::r,k,acc,x,h=>by
  unfold cellsFrom
  cases hxy:x == y with
  |true =>
   have hxy:=beq_iff_eq.mp hxy;subst hxy
   split
   ·exact zbk r _ _ x (.inr (by simp))
   ·rename_i hk
    refine zbk r _ _ x ?_
    rcases h with h|h
    ·simp only[List.lookup_cons,beq_self_eq_true,Option.some.injEq] at h
     subst h;simp at hk
    ·exact .inr h
  |false =>
   have h':r.lookup x=some .cell∨(acc.lookup x).isSome=true:=by
    rcases h with h|h
    ·rw[List.lookup_cons,hxy] at h;exact .inl h
    ·exact .inr h
   split
   ·refine zbk r _ _ x ?_
    rcases h' with h|h
    ·exact .inl h
    ·exact .inr (by rw[List.lookup_cons,hxy];exact h)
   ·exact zbk r _ _ x h'
theorem zgS (kd:Str→Option NameKind):∀ (ns:List Str) (vs:List Value) (m:Str→Option Value),ns.Nodup→vs.length=ns.length→∀ (i:Nat) (x:Str) (v:Value),ns[i]?=some x→vs[i]?=some v→kd x=some .local→bindL kd (ns.zip vs) m x=some v
 |[],vs,m,_,_,i,x,v,h,_,_=>by simp at h
 |a::ns,[],m,_,hl,i,x,v,h,_,_=>by simp at hl
 |a::ns,w::vs,m,hn,hl,i,x,v,h1,h2,h3=>by
  have keep:∀ (ns:List Str) (vs:List Value) (m:Str→Option Value) (x:Str),x ∉ ns→bindL kd (ns.zip vs) m x=m x:=by
   intro ns
   induction ns with
   |nil=>intro vs m x _;rfl
   |cons b ns ih =>
    intro vs m x hx
    cases vs with
    |nil=>rfl
    |cons u vs =>
     simp only[List.mem_cons,not_or] at hx;rw[List.zip_cons_cons,bindL,ih _ _ _ hx.2]
     split
     ·exact if_neg hx.1
     ·rfl
  rw[List.nodup_cons] at hn;rw[List.zip_cons_cons,bindL]
  cases i with
  |zero =>
   simp only[List.getElem?_cons_zero,Option.some.injEq] at h1 h2;subst h1 h2;rw[keep _ _ _ _ hn.1,if_pos h3];simp
  |succ i =>
   exact zgS kd ns vs _ hn.2 (by simpa using hl) i x v (by simpa using h1) (by simpa using h2) h3
theorem zgT (kd:Str→Option NameKind):∀ (ns:List Str) (vs:List Value) (m:Str→Option Value),ns.Nodup→vs.length=ns.length→∀ (i:Nat) (x:Str) (v:Value),ns[i]?=some x→vs[i]?=some v→kd x=some .cell→bindC kd (ns.zip vs) m x=some v
 |[],vs,m,_,_,i,x,v,h,_,_=>by simp at h
 |a::ns,[],m,_,hl,i,x,v,h,_,_=>by simp at hl
 |a::ns,w::vs,m,hn,hl,i,x,v,h1,h2,h3=>by
  have keep:∀ (ns:List Str) (vs:List Value) (m:Str→Option Value) (x:Str),x ∉ ns→bindC kd (ns.zip vs) m x=m x:=by
   intro ns
   induction ns with
   |nil=>intro vs m x _;rfl
   |cons b ns ih =>
    intro vs m x hx
    cases vs with
    |nil=>rfl
    |cons u vs =>
     simp only[List.mem_cons,not_or] at hx;rw[List.zip_cons_cons,bindC,ih _ _ _ hx.2]
     split
     ·rfl
     ·exact if_neg hx.1
  rw[List.nodup_cons] at hn;rw[List.zip_cons_cons,bindC]
  cases i with
  |zero =>
   simp only[List.getElem?_cons_zero,Option.some.injEq] at h1 h2;subst h1 h2;rw[keep _ _ _ _ hn.1,if_neg (by rw[h3];simp)];simp
  |succ i =>
   exact zgT kd ns vs _ hn.2 (by simpa using hl) i x v (by simpa using h1) (by simpa using h2) h3
theorem zfa {ns:List Str}{x:Str}{i:Nat}(h:ns.zipIdx.lookup x=some i):ns[i]?=some x:=by
 have:=zaZ h;rw[List.mem_zipIdx_iff_getElem?] at this
 simpa using this
theorem zf6 (ns:List Str):(ns.zipIdx.map (·.2)).Nodup:=by
 have:ns.zipIdx.map (·.2)=List.range ns.length:=by
  apply List.ext_getElem
  ·simp
  ·intro i h1 h2;simp
 rw[this];exact List.nodup_range
section
variable {am:Amb}{P:Tab}{nm:String→List String}{fns:List String}{nums:List (String × Int)}
theorem zmO (ok:AmbX am) (pk:ProgOK am P nm fns nums):∀ n,FnOK am n (run P n)
 |0=>⟨fun res q f a vs xs stack A π Hc s z_ z_ z_ z_ z_=>.inl rfl⟩
 |n+1=>⟨fun res q f a vs xs stack A π Hc s fa as hr hd ha=>by
  have IH:=zmO ok pk n;refine hold fun z_ k_=>?_;obtain⟨hga,o,fd,ho,hdata⟩:=fa;refine k_ ?_;show JAt _ _ _ _ (match P f with|some d=>runD q (run P n) d vs Hc|Option.none=>.bad) _ _ _
  cases hP:P f with
  |none=>exact .inl rfl
  |some d =>
  simp only;obtain⟨hck,hcode⟩:=pk.fn f d a o fd hP hga ho hdata;unfold runD
  by_cases hlen':¬ vs.length=d.arity
  ·rw[if_neg hlen'];exact .inl rfl
  have hlen:=Classical.not_not.mp hlen';rw[if_pos hlen];have k:=zqq hck;refine hold fun z_ k_=>?_;obtain⟨body,hbody,k1⟩:=k.body;refine k_ ?_
  let ns:=(nm f).map Str.ofString
  let c:Ck:=⟨ns.zipIdx,fd.scope.names,fns,nums⟩
  have hns:ns.Nodup:=k.k10;have hpn:fd.params.args.map (·.arg)=ns.take d.arity:=k.k7;have hnl:ns.length=(nm f).length:=by simp[ns]
  have hxl:xs.length=d.arity:=(VRs.len ha).trans hlen;have hpl:fd.params.args.length=d.arity:=by
   have:=congrArg List.length hpn;rw[List.length_map,List.length_take,hnl,Nat.min_eq_left k.k8] at this;exact this
  have hbind:bindArgs fd ⟨xs,[]⟩=pure ((ns.take d.arity).zip xs):=by
   rw[←hpn];refine zjh k.k2 k.k3 k.k4 k.k5 k.k6 ?_ (hxl.trans hpl.symm);rw[hpn];exact hns.sublist (List.take_sublist _ _)
  have TS:=zk6 (am:=am) (n:=n) (F:=run P n) (c:=c) (zf6 ns) q d.body body k1;have hlim:s.heap.NoLimit:=ok.nolimit.keeps hr.base
  by_cases hbad:exSs q (run P n) d.body (vs++List.replicate (d.slots - d.arity) .undef) Hc=.bad
  ·rw[hbad];exact .inl rfl
  refine .inr (wpAny_call (codeAny_call_cells (binds:=(ns.take d.arity).zip xs) (body:=body) (o:=o) (fd:=fd) (by unfold recursionLimit;exact as.dk (k:=0) (by decide)) (hr.base a o ho) hdata hlim (hcode.keeps hr.base) hbody hbind k.k11 (fun x hx=>?_) (fun s₁ I=>?_) k.k14 k.k13 k.k12))
  ·have hm:x.1∈ns:=List.mem_of_mem_take (List.of_mem_zip hx).1
   rcases k.k17 x.1 hm with h|h
   ·exact .inl h
   ·exact .inr ⟨h,zbk _ _ _ _ (.inl h)⟩
  generalize hE:callEnvC fd s.heap.objs.size a=env at I;have eloc:env.locals=s.heap.objs.size:=by rw[←hE];rfl
  have efr:env.frame=some env.locals:=by rw[←hE];rfl
  have esc:env.scope=fd.scope:=by rw[←hE];rfl
  have egl:env.globals=mainGlobals:=by rw[←hE];exact k.k15
  have ebl:env.builtins=builtinsNs:=by rw[←hE];exact k.k16
  have ecl:env.cells=cellsFrom (s.heap.objs.size+1) fd.scope.names []:=by rw[←hE];rfl
  have ekd:∀ x,env.kindOf x=fd.scope.names.lookup x:=fun x=>by unfold Env.kindOf;rw[esc]
  have hfresh:∀ b,s.heap.objs.size≤b→s.heap.get? b=none:=fun b hb=>by
   cases hq:s.heap.get? b with
   |none=>rfl
   |some o'=>exact absurd (Heap.lt_size hq) (Nat.not_lt_of_le hb)
  have fL:s.heap.get? env.locals=none:=hfresh _ (by rw[eloc];exact Nat.le_refl _)
  have fC:∀ x cc,(x,cc)∈env.cells→s.heap.get? cc=none:=fun x cc h=>hfresh _ (Nat.le_of_lt (eloc ▸ I.above x cc h))
  let new:List Addr:=env.locals::env.cells.filterMap fun p=>env.cells.lookup p.1
  have hcm:∀ l,l∈env.cells.filterMap (fun p=>env.cells.lookup p.1)→∃ y,env.cells.lookup y=some l:=by
   intro l hl;obtain⟨p,_,h2⟩:=List.mem_filterMap.mp hl;exact⟨p.1,h2⟩
  have hmc:∀ y l,env.cells.lookup y=some l→l∈env.cells.filterMap (fun p=>env.cells.lookup p.1):=fun y l h=>List.mem_filterMap.mpr ⟨(y,l),mem_of_lookup h,h⟩;have hnew:∀ l∈new,s.heap.get? l=none:=by
   intro l hl
   rcases List.mem_cons.mp hl with rfl|hl
   ·exact fL
   ·obtain⟨y,h1⟩:=hcm l hl
    exact fC y l (mem_of_lookup h1)
  have keep:=I.toInCall.keep;have nfL:=Ns.nf I.toInCall.ns;have bn:∀ l,s.heap.get? l=none→am.B.get? l=none:=fun l h=>zbj hr.base h;have hdn:∀ a'∈π,∃ o,s.heap.get? a'=some o:=by
   intro a' ha';obtain⟨i,hi,e1⟩:=List.getElem_of_mem ha';have h1:π[i]?=some a':=by rw[List.getElem?_eq_getElem hi,e1]
   have h2:i < Hc.length:=by rw[←hr.len];exact hi
   obtain⟨o,ho,_⟩:=(hr.cell i Hc[i] a' (by simp[h2]) h1).obj
   exact⟨o,ho⟩
  have offN:∀ l,s.heap.get? l=none→l ∉ π:=fun l h hm=>by obtain⟨o,ho⟩:=hdn l hm;rw[h] at ho;cases ho
  let cx:Cx:=⟨env,env::stack,ns.zipIdx⟩
  have hr1:HR (am.at (new++res)) (env::stack) π Hc s₁.heap:=by
   refine⟨fun b o e=>keep b o (hr.base b o e),⟨by rw[esc,k.k12];simp,?_,hr.frames.of_keeps fun b o e z_=>⟨o,keep b o e,rfl⟩⟩,hr.len,hr.nodup,?_,?_,?_⟩
   ·obtain⟨o,ho,hn⟩:=nfL
    exact⟨env.locals,o,efr,bn _ fL,ho,hn⟩
   ·intro l hl
    rcases List.mem_append.mp hl with hl|hl
    ·rcases List.mem_cons.mp hl with rfl|hl
     ·exact nfL
     ·obtain⟨y,h1⟩:=hcm l hl
      obtain⟨o,ho,hd'⟩:=I.cell y l h1;exact⟨o,ho,fun us q=>by rw[hd'] at q;cases q⟩
    ·obtain⟨o,ho,hn⟩:=hr.res l hl
     exact⟨o,keep l o ho,hn⟩
   ·intro l hl
    refine⟨(hr.off l hl).1,?_⟩;rw[List.filterMap_cons,efr];rw[List.mem_cons,not_or];exact⟨fun q=>offN _ fL (q ▸ hl),(hr.off l hl).2⟩
   ·intro i cc l h1 h2
    obtain⟨o,ys,q0,q1,q2,q3⟩:=hr.cell i cc l h1 h2;exact(show CellAt (am.at (new++res)) π s.heap cc l from⟨o,ys,q0,q1,q2,VRs.more new hnew q3⟩).keeps keep
  have er1:ER (am.at (new++res)) cx (vs++List.replicate (d.slots - d.arity) .undef) π s₁.heap:=by
   refine⟨⟨_,I.toInCall.ns⟩,offN _ fL,fun y l hl=>⟨offN _ (fC y l (mem_of_lookup hl)),?_,_,I.cell y l hl⟩,fun x y l h1 h2=>?_,fun x i v h1 h2 h3 h4=>?_⟩
   ·exact Nat.ne_of_gt (I.above y l (mem_of_lookup hl))
   ·exact name_of_addr I.apart (mem_of_lookup h1) (mem_of_lookup h2)
   ·have hx:ns[i]?=some x:=zfa h1
    have hi:i < vs.length:=by
     rcases Nat.lt_or_ge i vs.length with h|h
     ·exact h
     ·rw[List.getElem?_append_right h] at h2
      have:=List.mem_of_getElem? h2;rw[List.mem_replicate] at this;exact absurd this.2 h3
    rw[List.getElem?_append_left hi] at h2;obtain⟨xv,h5,h6⟩:=VRs.get ha i v h2;have hxi:(ns.take d.arity)[i]?=some x:=by rw[List.getElem?_take_of_lt (hlen ▸ hi)];exact hx
    have hnt:(ns.take d.arity).Nodup:=hns.sublist (List.take_sublist _ _);have hlt:xs.length=(ns.take d.arity).length:=by rw[List.length_take,hnl,Nat.min_eq_left k.k8];exact hxl
    refine⟨xv,?_,(VR.more new hnew h6).keeps keep⟩
    rcases k.k17 x (List.mem_of_getElem? hx) with hk|hk
    ·have hk':env.kindOf x=some .local:=by rw[ekd];exact hk
     exact .inl ⟨hk',_,I.toInCall.ns,zgS _ _ _ _ hnt hlt i x xv hxi h5 hk'⟩
    ·have hk':env.kindOf x=some .cell:=by rw[ekd];exact hk
     have hcs:=zbk fd.scope.names (s.heap.objs.size+1) [] x (.inl hk);rw[←ecl] at hcs;obtain⟨l,hl⟩:=Option.isSome_iff_exists.mp hcs;refine .inr ⟨.inl hk',l,hl,?_⟩;have:=I.cell x l hl;rw[zgT _ _ _ _ hnt hlt i x xv hxi h5 hk'] at this;exact this
  have as1:AS n (env::stack) (A.deeper env):=by
   refine⟨?_,?_,?_⟩
   ·show A.frames.map (env::·)=_;rw[as.frames];rfl
   ·show A.depth+1+n < 800;rw[Nat.add_assoc,Nat.add_comm 1 n];exact as.depth
   ·exact Nat.lt_of_le_of_lt (by show A.units+3+10 * n≤A.units+10 * (n+1);rw[Nat.add_assoc];exact Nat.add_le_add_left (by rw[Nat.mul_succ,Nat.add_comm];exact Nat.add_le_add_left (by decide) _) _) as.units
  have hd1:Hd q (A.deeper env) π (Fs (env::stack)) s₁.heap:=hd;have topE:TopEnv env:=⟨by rw[esc];exact k.k13,by rw[esc];exact k.k14,egl,ebl⟩
  have cxk:CxOK cx:=by
   refine⟨fun x hx=>?_,by show env.scope.kind=_;rw[esc];exact k.k12,egl,ebl,⟨env,stack,rfl,rfl,topE⟩⟩
   rcases hx with hx|hx
   ·have hx:fd.scope.names.lookup x=some .cell:=by rw[←ekd];exact hx
    have hcs:=zbk fd.scope.names (s.heap.objs.size+1) [] x (.inl hx);rw[←ecl] at hcs;exact Option.isSome_iff_exists.mp hcs
   ·have hx:fd.scope.names.lookup x=some .free:=by rw[←ekd];exact hx
    exact absurd hx (k.k18 x)
  have ne1:q=true→NoExc (vs++List.replicate (d.slots - d.arity) .undef):=fun z_=>trivial;have st1:Step (Fs stack) π s π s₁:=by
   obtain⟨h',tk,e⟩:=I.toInCall.same;exact⟨⟨h',tk,e⟩,.of_keeps keep,[],by simp,by simp⟩
  have X:Stm am n q (run P n) c cx (A.deeper env) (new++res) stack π s (fun z_ z_=>True) (vs++List.replicate (d.slots - d.arity) .undef) π Hc s₁ :=
   ⟨⟨ok,IH,⟨rfl,by show env.scope.names=_;rw[esc],pk.fns,pk.nums⟩,cxk,as1,ne1⟩,
    ⟨⟨rfl,efr⟩,List.mem_append.mpr (.inl List.mem_cons_self),bn _ fL,fL,fun y l hl=>⟨List.mem_append.mpr (.inl (List.mem_cons_of_mem _ (hmc y l hl))),bn _ (fC y l (mem_of_lookup hl)),fC y l (mem_of_lookup hl)⟩⟩,
    st1,⟨hr1,er1,hd1⟩,trivial,trivial,fun z_ z_ z_ z_ z_ z_=>trivial⟩
  have down:∀ {π':List Addr}{H':H}{h':Heap},HR (am.at (new++res)) (env::stack) π' H' h'→HR (am.at res) stack π' H' h':=fun {π' H' h'} z=>by
   have z:=HR.sub (am:=am) (r:=new++res) (r':=res) (fun a ha=>List.mem_append.mpr (.inr ha)) z;refine⟨z.base,z.frames.2.2,z.len,z.nodup,z.res,fun a ha=>⟨(z.off a ha).1,?_⟩,z.cell⟩;have:=(z.off a ha).2;rw[List.filterMap_cons,efr,List.mem_cons,not_or] at this;exact this.2
  rcases TS X with h|h
  ·exact absurd h hbad
  refine wpAny_mono h (fun fl s' z=>?_) fun y s' z=>?_
  ·refine hold fun z_ k_=>?_
   obtain⟨fl',ρ',H',π',z1,z2,z3,z4,z5,_⟩:=z;refine k_ ?_;rw[z1]
   cases fl' with
   |next=>cases z5;exact⟨.none,H',π',rfl,z2,down z3.hr,rfl⟩
   |ret w=>obtain⟨xv,rfl,hxv⟩:=z5;exact⟨w,H',π',rfl,z2,down z3.hr,hxv.sub fun a ha=>List.mem_append.mpr (.inr ha)⟩
  ·exact False.elim z⟩
end
end Mine
namespace Mine
noncomputable def forkR {α:Type}(o:Option Bool) (a b:Unit→R α):R α :=
 match o with
 |some true=>a ()
 |some false=>b ()
 |none=>.bad
noncomputable def forkS (o:Option Bool) (a b:Unit→RS):RS :=
 match o with
 |some true=>a ()
 |some false=>b ()
 |none=>.bad
noncomputable def tabOf (tl:List (String × FnDef × List String)):Tab:=fun f=>(tl.lookup f).map (·.1)
noncomputable def nmOf (tl:List (String × FnDef × List String)):String→List String:=fun f=>((tl.lookup f).map (·.2)).getD []
variable (q:Bool) (F:Fn) (ρ:List V) (h:H)
@[simp] theorem truthy_bool (b:Bool):truthy (.bool b)=some b:=rfl
@[simp] theorem e_and2 (e d:PE) (es:List PE):evAnd q F ρ (e::d::es) h=(evE q F ρ e h).bind fun x h=>forkR (truthy x) (fun z_=>evAnd q F ρ (d::es) h) (fun z_=>.ok x h):=rfl
@[simp] theorem s_ifs (t:PE) (a b:List PS):exS q F (.ifs t a b) ρ h=(evE q F ρ t h).st ρ fun x h=>forkS (truthy x) (fun z_=>exSs q F a ρ h) (fun z_=>exSs q F b ρ h):=rfl
noncomputable def V.val:V→Prop
 |.undef=>False
 |.exc _=>False
 |_=>True
@[simp] theorem e_and (es:List PE):evE q F ρ (.and es) h=evAnd q F ρ es h:=rfl
noncomputable def lstR (r:R (List V)):R V :=
 match r with
 |.ok r h=>R.opt (mkL r) h
 |_=>.bad
@[simp] theorem lstR_ok (r:List V):lstR (.ok r h)=R.opt (mkL r) h:=rfl
@[simp] theorem e_comp (elt:PE) (x:Nat) (it:PIt) (cond:Option PE):evE q F ρ (.comp elt x it cond) h=if !q then .bad else(evIt q F ρ it h).bind fun vs h =>
   lstR (compL vs.2 (fun v h=>evE q F (ρ.set x v) elt h) (fun v h=>evC q F (ρ.set x v) cond h) vs.1 h):=rfl
@[simp] theorem zbG (e:PE) (es:List PE):evEs q F ρ (e::es) h=(evE q F ρ e h).bind fun v h=>(evEs q F ρ es h).bind fun vs h=>.ok (v::vs) h:=rfl
@[simp] theorem i_seq (e:PE):evIt q F ρ (.seq e) h=(evE q F ρ e h).bind fun x h=>R.opt (iterOf h x) h:=rfl
noncomputable def rngR (v:V) (h:H):R (List V × Watch) :=
 match v with
 |.int n=>if -1000000≤n∧n≤1000000 then .ok (upto n,Option.none) h else .bad
 |_=>.bad
theorem zlv {n:Int}(h1:-1000000≤n) (h2:n≤1000000):rngR (.int n) h=.ok (upto n,Option.none) h:=by simp[rngR,h1,h2]
@[simp] theorem i_range1 (a:PE):evIt q F ρ (.range1 a) h=(evE q F ρ a h).bind fun x h=>rngR x h:=rfl
@[simp] theorem ss_cons' (s:PS) (ss:List PS):exSs q F (s::ss) ρ h=(exS q F s ρ h).then fun ρ h=>exSs q F ss ρ h:=rfl
@[simp] theorem s_expr' (e:PE):exS q F (.expr e) ρ h=(evE q F ρ e h).st ρ fun v h=>noneS v ρ h:=rfl
@[simp] theorem s_asg' (x:Nat) (e:PE):exS q F (.asg x e) ρ h=(evE q F ρ e h).st ρ fun v h=>.ok .next (ρ.set x v) h:=rfl
@[simp] theorem s_ret' (e:PE):exS q F (.ret e) ρ h=(evE q F ρ e h).st ρ fun v h=>.ok (.ret v) ρ h:=rfl
@[simp] theorem s_for1' (x:Nat) (it:PIt) (body:List PS):exS q F (.for1 x it body) ρ h=if !q then .bad else(evIt q F ρ it h).st ρ fun vs h=>forL vs.2 (bind1 x) (fun ρ h=>exSs q F body ρ h) vs.1 ρ h:=rfl
theorem znC (d:FnDef) (vs:List V) (hl:vs.length=d.arity):runD q F d vs h=(exSs q F d.body (vs++List.replicate (d.slots - d.arity) .undef) h).out:=by
 simp[runD,hl]
theorem zea {vs:List V}(hl:vs.length≤1000000):mkL vs=some (.lst vs):=by simp[mkL,hl]
theorem zpM {vs:List V}(hl:vs.length≤1000000):mkT vs=some (.tup vs):=by simp[mkT,hl]
theorem zbv {v:V}(hv:v.plain=true) (h:H):pcall h (.ok v h)=.ok v h:=by
 simp[pcall,frz,zbp _ v hv]
theorem zd5 {v w:V}(h n:H) (hv:frz h.length (h++n) v=some w):pcall h (.ok v (h++n))=.ok w h:=by
 simp[pcall,hv]
theorem zfP (h:H) (i:Nat) (vs:List V) (e:h[i]?=some (.list vs)):isTy h (.ref i) .list=some true:=by show refTy h[i]? _=_;rw[e];rfl
@[simp] theorem cmp_lt_int (h:H) (a b:Int):pyCmp .lt h (.int a) (.int b)=some (decide (a < b)):=rfl
@[simp] theorem cmp_gt_int (h:H) (a b:Int):pyCmp .gt h (.int a) (.int b)=some (decide (b < a)):=rfl
@[simp] theorem cmp_le_int (h:H) (a b:Int):pyCmp .le h (.int a) (.int b)=some (decide (a≤b)):=by
 show some (!decide (b < a))=_
 by_cases e:b < a
 ·rw[decide_eq_true e,decide_eq_false (Int.not_le.2 e)];rfl
 ·rw[decide_eq_false e,decide_eq_true (Int.not_lt.1 e)];rfl
theorem zeW {a b:V}(h:H) (ha:a.plain=true) (hb:b.plain=true) (oa:V.ok 8 a=true) (ob:V.ok 8 b=true):pyEq h a b=some (peq a b):=by
 simp[pyEq,frz,zbp _ a ha,zbp _ b hb,oa,ob]
@[simp] theorem pyEq_int (h:H) (a b:Int):pyEq h (.int a) (.int b)=some (decide (a=b)):=by
 rw[zeW h rfl rfl rfl rfl];simp only[zlC,zlD,zhb,znP,znO,zfr,Option.some.injEq];exact Bool.eq_iff_iff.2 (by simp)
theorem zhB (h:H) (a b:Int) (e:b.natAbs < 9223372036854775808):pyBin .mul h (.int a) (.int b)=some (.int (a * b)):=if_pos (.inr e)
theorem zgU (h:H) (a b:Int) (e:b≠0):pyBin .fdiv h (.int a) (.int b)=some (.int (a.fdiv b)):=if_neg e
theorem zhC (h:H) (a b:Int) (e:b≠0):pyBin .mod h (.int a) (.int b)=some (.int (a.fmod b)):=if_neg e
theorem zmj (a b:Nat):(a:Int).fdiv (b:Int)=((a / b:Nat):Int):=by
 rw[Int.fdiv_eq_ediv_of_nonneg _ (Int.natCast_nonneg b)];rfl
set_option tactic.hygienic true in
theorem zmX {h:H}{w:V}{vs:List V}(hl:litems h w=some vs):Mine.bf .len h w=some (.int vs.length):=by
 cases w<;>simp only[litems,Option.some.injEq,reduceCtorEq] at hl
 ·subst hl;rfl
 ·rename_i i
  cases hc:h[i]? with
  |none=>rw[hc] at hl;cases hl
  |some c =>
   rw[hc] at hl
   cases c with
   |dict es=>cases hl
   |list us=>cases hl;simp[Mine.bf,hc]
set_option tactic.hygienic true in
theorem zkt {h:H}{w:V}{vs:List V}(hl:litems h w=some vs):isTy h w .list=some true:=by
 cases w<;>simp only[litems,Option.some.injEq,reduceCtorEq] at hl
 ·rfl
 ·rename_i i
  cases hc:h[i]? with
  |none=>rw[hc] at hl;cases hl
  |some c =>
   rw[hc] at hl
   cases c with
   |dict es=>cases hl
   |list us=>exact zfP _ _ _ hc
set_option tactic.hygienic true in
theorem zn8 {h:H}{w:V}{vs:List V}(hl:litems h w=some vs):∃ t:Watch,iterOf h w=some (vs,t)∧t.ok h=true:=by
 cases w<;>simp only[litems,Option.some.injEq,reduceCtorEq] at hl
 ·subst hl;exact⟨Option.none,rfl,rfl⟩
 ·rename_i i
  cases hc:h[i]? with
  |none=>rw[hc] at hl;cases hl
  |some c =>
   rw[hc] at hl
   cases c with
   |dict es=>cases hl
   |list us=>cases hl;exact⟨some (i,.list vs),by simp[iterOf,hc],by simp[Watch.ok,hc]⟩
noncomputable def okV (h:H) (v:V):Prop :=
 match v with
 |.undef=>False
 |.exc _=>False
 |.ref i=>(h[i]?).isSome=true
 |_=>True
theorem okV.val {h:H}{v:V}(hv:okV h v):v.val:=by
 cases v<;>first|trivial|exact hv.elim
set_option tactic.hygienic true in
theorem zd6 {h:H}{w:V}{vs:List V}(hl:litems h w=some vs):okV h w:=by
 cases w<;>simp only[litems,Option.some.injEq,reduceCtorEq] at hl
 ·trivial
 ·rename_i i
  cases hc:h[i]? with
  |none=>rw[hc] at hl;cases hl
  |some c=>show(h[i]?).isSome=true;rw[hc];rfl
@[simp] theorem asBools_map {α:Type}(l:List α) (f:α→Bool):zbI (l.map fun v=>.bool (f v))=some (l.map f):=by
 induction l with
 |nil=>rfl
 |cons a l ih=>simp[zbI,ih]
@[simp] theorem bf_all {h:H}{vs:List V}:Mine.bf .all h (.lst vs)=(zbI vs).map fun bs=>.bool (bs.all id):=rfl
theorem zqx {h:H}{w:V}{vs:List V}(hl:litems h w=some vs):Mine.bf .listRev h w=some (.lst vs.reverse):=by simp[Mine.bf,hl]
theorem zaL {h:H}{i:Nat}{vs:List V}(hc:h[i]?=some (.list vs)):litems h (.ref i)=some vs:=by simp[litems,hc]
@[simp] theorem litems_lst (h:H) (vs:List V):litems h (.lst vs)=some vs:=rfl
theorem zed {h:H}{i:Nat}{vs:List V}(hc:h[i]?=some (.list vs)):lcell h (.ref i)=true:=by simp[lcell,hc]
theorem zcx {h:H}{i:Nat}{vs:List V}(hc:h[i]?=some (.list vs)) (f:List V→Option (V × List V)) (v:V) (vs':List V) (e:f vs=some (v,vs')) (hl:vs'.length≤1000000) :
  onList h (.ref i) f=.ok v (h.set i (.list vs')):=by simp[onList,hc,e,hl]
theorem zbr {q:Bool}{F:Fn}{x:Nat}{e:PE}{ss:List PS}{ρ ρ':List V}{h h':H}{v:V}{r:R V}(he:evE q F ρ e h=.ok v h') (hρ:ρ.set x v=ρ') (k:(exSs q F ss ρ' h').out=r):(exSs q F (.asg x e::ss) ρ h).out=r:=by
 subst hρ;rw[ss_cons',s_asg',he];exact k
theorem zbA {q:Bool}{F:Fn}{e:PE}{ss:List PS}{ρ:List V}{h h':H}{v:V}(he:evE q F ρ e h=.ok v h'):(exSs q F (.ret e::ss) ρ h).out=.ok v h':=by
 rw[ss_cons',s_ret',he];rfl
theorem zd7 {q:Bool}{F:Fn}{e:PE}{ss:List PS}{ρ:List V}{h h':H}{r:R V}(he:evE q F ρ e h=.ok .none h') (k:(exSs q F ss ρ h').out=r):(exSs q F (.expr e::ss) ρ h).out=r:=by
 rw[ss_cons',s_expr',he];exact k
theorem zdM (q:Bool) (F:Fn) (a b:List PS) (ρ:List V) (h:H):exSs q F (a++b) ρ h=(exSs q F a ρ h).then fun ρ h=>exSs q F b ρ h:=by
 induction a generalizing ρ h with
 |nil=>rfl
 |cons s a ih =>
  rw[List.cons_append,ss_cons',ss_cons']
  cases exS q F s ρ h with
  |bad=>rfl
  |err c ρ h=>rfl
  |ok f ρ h=>cases f with
   |next=>simp only[RS.then_next];exact ih ρ h
   |ret v=>rfl
theorem zlJ {q:Bool}{F:Fn}{t:PE}{a b ss:List PS}{ρ:List V}{h h':H}{r:R V}(ht:evE q F ρ t h=.ok (.bool true) h') (k:(exSs q F (a++ss) ρ h').out=r):(exSs q F (.ifs t a b::ss) ρ h).out=r:=by
 rw[ss_cons',s_ifs,ht];rw[zdM] at k;exact k
theorem zdD {q:Bool}{F:Fn}{t:PE}{a b ss:List PS}{ρ:List V}{h h':H}{r:R V}(ht:evE q F ρ t h=.ok (.bool false) h') (k:(exSs q F (b++ss) ρ h').out=r):(exSs q F (.ifs t a b::ss) ρ h).out=r:=by
 rw[ss_cons',s_ifs,ht];rw[zdM] at k;exact k
end Mine
namespace Mine
open PySem PySem.W PyProof.Rows
noncomputable def zg9 (p:Program):Bool:=zcD.all fun c=>specOf p (Str.ofString c) == some ("ValueError.__new__",[.type "ValueError",.type "Exception",.type "BaseException",.type "object"])
noncomputable def defChk (p:Program) (fns:List String) (nums:List (String × Int)) (tl:List (String × FnDef × List String)):Bool :=
 tl.all fun t=>match (recsOf p).find? (fun r=>r.name == Str.ofString t.1) with
  |some r=>ckFn fns nums t.2.1 t.2.2 (Calls.docDef r.name r.params r.body r.scope .none .none .none)
  |none=>false
noncomputable def fnsChk (p:Program) (fns:List String):Bool:=fns.all fun f=>((recsOf p).find? (fun r=>r.name == Str.ofString f)).isSome
theorem zmb {o:Option (Option Value)}{i:Int}(h:intB o i=true):∃ t,o=some (some (.int i t)):=by
 cases o with
 |none=>exact noB h
 |some o=>cases o with
  |none=>exact noB h
  |some v=>cases v<;>first|exact noB h|exact⟨_,by rw[eq_of_beq (show(_ == i)=true from h)]⟩
section
variable {p prog:Program}{w:World}{loose:List Str}{mean:ExcName→Option Value}{mg mb:Str→Option Value}{h:Heap}{K:Frag}
theorem zqA {am:Amb}(T:Top p loose mean am.mg am.mb am.B) (X:Frag.In am.K am.B) (himp:importsNone p=true) (htree:am.prog.given.tree=none) (hx:excChk am.K=true) (ho:zg9 p=true) (hb:btChk am.K=true):AmbX am where
 g:=T.g
 b:=T.b
 nolimit:=T.nolimit
 noseer:=T.seer himp
 tree:=htree
 K:=X
 bt:=fun q hq=>by
  have:=List.all_eq_true.mp hb q hq;simp only[Bool.and_eq_true,beq_iff_eq,bne_iff_ne,ne_eq] at this;exact⟨mg_none_of X T.g this.1.1,(T.builtins q.1 this.2).trans this.1.2⟩
theorem zmt {fns:List String}{nums:List (String × Int)}{d:FnDef}{nm:List String}{n:Str}{ps:Arguments}{b:List Stmt}{sc:Scope}(pm cd doc:Value) :
  ckFn fns nums d nm (Calls.docDef n ps b sc pm cd doc)=ckFn fns nums d nm (Calls.docDef n ps b sc .none .none .none):=rfl
set_option tactic.hygienic true in
theorem znM {am:Amb}{fns:List String}{nums:List (String × Int)}{tl:List (String × FnDef × List String)}(T:Top p loose mean am.mg am.mb am.B) (X:Frag.In am.K am.B) (hd:defChk p fns nums tl=true) (hf:fnsChk p fns=true) (hn:zft am.K nums=true) :
  ProgOK am (tabOf tl) (nmOf tl) fns nums where
 fn:=fun f d a o fd e1 e2 e3 e4=>by
  unfold tabOf at e1;unfold nmOf
  cases hl:tl.lookup f with
  |none=>rw[hl] at e1;cases e1
  |some t =>
   rw[hl] at e1;simp only[Option.map_some,Option.some.injEq] at e1;subst e1;have hm:(f,t)∈tl:=by
    clear hd
    induction tl with
    |nil=>simp at hl
    |cons u tl ih =>
     obtain⟨g,u⟩:=u;rw[List.lookup_cons] at hl
     cases hq:f == g with
     |true=>rw[hq] at hl;cases hl;rw[beq_iff_eq.mp hq];exact List.mem_cons_self
     |false=>rw[hq] at hl;exact List.mem_cons_of_mem _ (ih hl)
   have:=List.all_eq_true.mp hd _ hm
   split at this
   ·rename_i r hr
    have hrm:=List.mem_of_find?_eq_some hr;have hrn:r.name=Str.ofString f:=by have:=List.find?_some hr;simpa using this
    refine hold fun z_ k_=>?_;obtain⟨a',o',pm,code,doc,t1,t2,t3,t4⟩:=T.fn r hrm;refine k_ ?_;rw[hrn] at t1;have h1:a'=a:=by have:=t1.symm.trans e2;cases this;rfl
    subst h1;have h2:o'=o:=by have:=t2.symm.trans e3;cases this;rfl
    subst h2;rw[t3] at e4
    cases e4
    refine⟨?_,t4⟩;rw[zmt];exact this
   ·cases this
 fns:=fun f hf'=>by
  have:=List.all_eq_true.mp hf f hf';obtain⟨r,hr⟩:=Option.isSome_iff_exists.mp this;have hrm:=List.mem_of_find?_eq_some hr;have hrn:r.name=Str.ofString f:=by have:=List.find?_some hr;simpa using this
  refine hold fun z_ k_=>?_;obtain⟨a',o',pm,code,doc,t1,t2,t3,t4⟩:=T.fn r hrm;refine k_ ?_;rw[hrn] at t1;exact⟨a',t1,o',_,t2,t3⟩
 nums:=fun q hq=>by
  obtain⟨t,e⟩:=zmb (List.all_eq_true.mp hn q hq);exact⟨t,mg_of X T.g e⟩
theorem zkv {am:Amb}{π:List Addr}{xs:List Value}{l:List Int}(hi:IntsAre xs l):VRs am π h (l.map .int) xs:=by
 induction hi with
 |nil=>simp[VRs]
 |cons n t _ ih=>simp only[List.map_cons,VRs,VR];exact⟨_,_,rfl,⟨t,rfl⟩,ih⟩
theorem zpR {s₁:Shared}{tl:List (String × FnDef × List String)}{fns:List String}{nums:List (String × Int)}(T:Top p loose mean mg mb s₁.heap) (X:K.In s₁.heap) (himp:importsNone p=true) (htree:prog.given.tree=none)
  (hx:excChk K=true) (ho:zg9 p=true) (hb:btChk K=true) (hd:defChk p fns nums tl=true) (hf:fnsChk p fns=true) (hn:zft K nums=true) (hlaw:"law"∈fns)
  {fa:Addr}(hmg:mg "law"=some (.ref fa)){a:Addr}{xs:List Value}{l:List Int}(hl:s₁.heap.IsList a xs.toArray) (hi:IntsAre xs l) (h63:¬ (63:Int) < (l.length:Int)){n:Nat}(hn9:n≤400){H':H}
  (hrun:run (tabOf tl) n true "law" [V.ints l] []=.ok (.bool true) H'){Q:Value→Shared→Prop}{E:Value→Shared→Prop}
  (hQ:∀ s',(∃ h' tk,s'={ s₁ with heap:=h',toks:=tk })→(∀ b o,s₁.heap.get? b=some o→s'.heap.get? b=some o)→Q (.bool true) s') :
  wpAny (model prog w) callerA (PySem.call (.ref fa) [.ref a]) Q E s₁:=by
 have ok:AmbX { prog:=prog,w:=w,B:=s₁.heap,mg:=mg,mb:=mb,P:=tabOf tl,K:=K }:=zqA T X himp htree hx ho hb;have pk:=znM (am:={ prog:=prog,w:=w,B:=s₁.heap,mg:=mg,mb:=mb,P:=tabOf tl,K:=K }) T X hd hf hn;obtain⟨fa',ff⟩:=pk.fns "law" hlaw;have hfa:fa'=fa:=by have:=ff.1.symm.trans hmg;cases this;rfl
 subst hfa;have hr:HR (({ prog:=prog,w:=w,B:=s₁.heap,mg:=mg,mb:=mb,P:=tabOf tl,K:=K }:Amb).at []) [] [] [] s₁.heap :=
  ⟨fun z_ z_ e=>e,trivial,rfl,List.nodup_nil,(fun a ha=>by cases ha),(fun a ha=>by cases ha),(fun i c a h1=>by simp at h1)⟩
 have hlen:xs.length=l.length:=by have:=(zkv (am:={ prog:=prog,w:=w,B:=s₁.heap,mg:=mg,mb:=mb,P:=tabOf tl,K:=K }) (π:=[]) (h:=s₁.heap) hi).len;simpa using this
 have J:=(zmO ok pk n).call [] true "law" fa' [V.ints l] [.ref a] [] callerA [] [] s₁ ff ⟨rfl,Nat.lt_of_le_of_lt (Nat.add_le_add_left hn9 (1+claimMargin)) (by decide),Nat.lt_of_le_of_lt (Nat.add_le_add_left (Nat.mul_le_mul_left 10 hn9) 4) (by decide)⟩ hr rfl (id (by
  simp only[VRs,V.ints,VR];exact⟨_,_,rfl,⟨a,xs,rfl,⟨by simp,by simp[Amb.at]⟩,hl,by rw[List.length_map];exact Nat.le_trans (Int.ofNat_le.1 (Int.not_lt.1 h63)) (by decide),zkv hi⟩,rfl⟩))
 rw[hrun] at J
 rcases J with J|J
 ·cases J
 ·refine wpAny_mono J (fun v s' z=>?_) fun e s' z=>?_
  ·refine hold fun z_ k_=>?_
   obtain⟨b,H2,π',z1,z2,z3,z4⟩:=z;refine k_ ?_
   cases z1
   simp only[VR] at z4;subst z4;exact hQ s' z2.same fun b o e=>z2.ext.keep b o e (by simp) (by simp[Fs])
  ·exact False.elim z
end
noncomputable def Leans (nums:List (String × Int)) (h:Heap):Prop:=∃ K:Frag,K.In h∧excChk K=true∧btChk K=true∧zft K nums=true
theorem zkI (h:Heap):∀ as:List Addr,(fragAt h as).In h:=by
 intro as a o e;have hm:=zaZ e;obtain⟨b,_,hb⟩:=List.mem_filterMap.mp hm
 cases hq:h.get? b with
 |none=>rw[hq] at hb;cases hb
 |some o'=>rw[hq] at hb;cases hb;exact hq
theorem zl1 {l:OpenLaw}{q:Program}{N:Nat}{nums:List (String × Int)}(said:l.wellSaid=true) (hrs:l.row.wellSaid=true)
  (left:LeftO l.row.prog q [] (fun s=>xlAt q [] s&&recOk (RowW.records l.row.toRowW) s) (fun s=>hookB nums s.heap) (fun z_=>true) N)
  (d1:(defOf q l.row.name).isSome=true) (d2:l.row.prog.theDef l.row.name=(defOf q l.row.name).map fun x=>(x.1.params,x.1.body,x.1.scope))
  (d3:((defOf q l.row.name).map fun x=>kwWritten? x.1.params.kwonlyargs x.1.params.kw_defaults)=(defOf q l.row.name).map fun x=>some x.2)
  (hwr:(!l.row.writes||l.row.records.isEmpty)=true) (ok:(chainsOk q&&opensWell l.row.prog&&(frees l.row.toRowW&&l.row.within.isEmpty))=true) (hb:l.row.prog.bare) (hw:l.row.toRowW.promised)
  (walk:∀ d kwd,defOf q l.row.name=some (d,kwd)→WalkO q [] (XL q []) (fun z_ h=>Leans nums h) l.row.toRowW d kwd fun f vs=>PySem.call f vs):l.Holds:=by
 obtain⟨⟨d,kwd⟩,hdef⟩:=Option.isSome_iff_exists.mp d1;rw[hdef] at d2 d3;simp only[Option.map_some,Option.some.injEq] at d2 d3;refine⟨said,holds_open (q:=q) (loose:=[]) (Xt:=fun s=>xlAt q [] s&&recOk (RowW.records l.row.toRowW) s) (XP:=XL q []) (YP:=fun z_ h=>Leans nums h) left (fun w s e=>?_) (fun w h h' e k=>?_)
  (fun s e=>xl_of s (Bool.and_eq_true_iff.mp e).1) XL.keeps hdef d2 d3 (fun s e=>recFacts_of (Bool.and_eq_true_iff.mp e).2) hwr hrs ok hb hw (walk d kwd hdef)⟩
 ·simp only[hookB,Bool.and_eq_true] at e
  exact⟨exFrag s.heap,zkI _ _,e.1.1,e.1.2,e.2⟩
 ·obtain⟨K,k1,k2⟩:=e
  exact⟨K,fun a o z=>k a o (k1 a o z),k2⟩
end Mine
namespace Mine
@[simp] theorem pcall_bool (h:H) (b:Bool):pcall h (.ok (.bool b) h)=.ok (.bool b) h:=zbv rfl h
@[simp] theorem pcall_int (h:H) (b:Int):pcall h (.ok (.int b) h)=.ok (.int b) h:=zbv rfl h
@[simp] theorem pcall_none (h:H):pcall h (.ok .none h)=.ok .none h:=zbv rfl h
noncomputable def V.nat (d:Nat):V:=.int d
noncomputable def V.nats (l:List Nat):List V:=l.map V.nat
@[simp] theorem nats_length (l:List Nat):(V.nats l).length=l.length:=by simp[V.nats]
theorem zbR (a:Nat) (l:List Nat):V.nats (a::l)=.int a::V.nats l:=rfl
theorem zat (a b:List Nat):V.nats (a++b)=V.nats a++V.nats b:=by simp[V.nats]
theorem zgs (n:Nat) (l:List Nat):(V.nats l).take n=V.nats (l.take n):=by simp[V.nats]
theorem zgt (n:Nat) (l:List Nat):(V.nats l).drop n=V.nats (l.drop n):=by simp[V.nats]
theorem zfu {l:List Nat}{i:Nat}{d:Nat}(e:l[i]?=some d):(V.nats l)[i]?=some (.int d):=by simp[V.nats,e,V.nat]
theorem zb5 (l:List Nat):V.plains (V.nats l)=true:=by
 induction l with
 |nil=>rfl
 |cons a l ih=>rw[zbR,V.plains,ih];rfl
theorem zcy (l:List Nat):V.plain (.lst (V.nats l))=true:=zb5 l
theorem zh1 {l:List Nat}{v:V}(hv:v∈V.nats l):∃ d∈l,v=.int d:=by
 simp only[V.nats,List.mem_map] at hv;obtain⟨d,hd,rfl⟩:=hv;exact⟨d,hd,rfl⟩
theorem zgl (a b:List Nat):peqs (V.nats a) (V.nats b)=decide (a=b):=by
 induction a generalizing b with
 |nil=>cases b<;>rfl
 |cons x a ih=>cases b with
  |nil=>rfl
  |cons y b =>
   rw[zbR,zbR,zgm,zhb,ih]
   by_cases e1:x=y<;>by_cases e2:a=b<;>simp[e1,e2]
   omega
theorem znW (l:List Nat) (n:Nat):(V.nats l).all (V.ok (n+1))=true:=by
 rw[List.all_eq_true];intro v hv;obtain⟨d,_,rfl⟩:=zh1 hv;rfl
theorem zfs (l:List Nat) (n:Nat):V.ok (n+2) (.lst (V.nats l))=true:=znW l n
theorem zhW {h:H}{a b a' b':V}(ha:frz 0 h a=some a') (hb:frz 0 h b=some b') (oa:V.ok 8 a'=true) (ob:V.ok 8 b'=true):pyEq h a b=some (peq a' b'):=by
 simp[pyEq,ha,hb,oa,ob]
theorem zc6 (n:Nat) (h:H) (v:V) (hv:v.plain=true):frz n h v=some v:=zbp _ v hv
noncomputable def IsL (h:H) (v:V) (l:List Nat):Prop:=litems h v=some (V.nats l)
theorem IsL.lst (h:H) (l:List Nat):IsL h (.lst (V.nats l)) l:=rfl
theorem IsL.ref {h:H}{i:Nat}{l:List Nat}(e:h[i]?=some (.list (V.nats l))):IsL h (.ref i) l:=zaL e
theorem zdi {h:H}{i n k:Nat}{l:List Nat}(hn:n≤i) (e:h[i]?=some (.list (V.nats l))):frzAt (k+1) n h i=some (.lst (V.nats l)):=by
 rw[zen,if_neg (by omega),e]
 show Option.map _ (V.mapRefs _ (V.nats l))=_;rw[za5 _ _ (zb5 l)];rfl
set_option tactic.hygienic true in
theorem zah {h:H}{v:V}{vs:List V}(e:litems h v=some vs):v=.lst vs∨∃ i,v=.ref i∧h[i]?=some (.list vs):=by
 cases v<;>simp only[litems,Option.some.injEq,reduceCtorEq] at e
 ·exact .inl (by rw[e])
 ·rename_i i
  refine .inr ⟨i,rfl,?_⟩
  cases hc:h[i]? with
  |none=>rw[hc] at e;cases e
  |some c =>
   rw[hc] at e
   cases c with
   |dict es=>cases e
   |list us=>cases e;rfl
theorem IsL.frz {h:H}{v:V}{l:List Nat}(e:IsL h v l):frz 0 h v=some (.lst (V.nats l)):=by
 rcases zah e with rfl|⟨i,rfl,hc⟩
 ·exact zc6 0 h _ (zcy l)
 ·exact zdi (Nat.zero_le _) hc
theorem IsL.okV {h:H}{v:V}{l:List Nat}(e:IsL h v l):okV h v:=zd6 e
theorem IsL.val {h:H}{v:V}{l:List Nat}(e:IsL h v l):v.val:=(zd6 e).val
theorem IsL.items {h:H}{v:V}{l:List Nat}(e:IsL h v l):∀ vs,litems h v=some vs→∀ x∈vs,Mine.okV h x:=by
 intro vs hv x hx;rw[e] at hv;cases hv
 obtain⟨d,_,rfl⟩:=zh1 hx;trivial
theorem zmS {h:H}{a b:V}{x y:List Nat}(ha:IsL h a x) (hb:IsL h b y):pyEq h a b=some (decide (x=y)):=by
 rw[zhW ha.frz hb.frz (zfs x 6) (zfs y 6),zfr,zgl]
theorem IsL.slice {h:H}{v:V}{l:List Nat}(e:IsL h v l) (lo hi:Option V) (a b:Option Int) (ha:lo.mapM asInt?=some a) (hb:hi.mapM asInt?=some b):zbF h v lo hi=some (.lst (slc (V.nats l) a b)):=by
 rw[zbF,ha,hb]
 rcases zah e with rfl|⟨i,rfl,hc⟩
 ·rfl
 ·simp only[e,Option.map_some]
  rw[zaL hc];rfl
theorem zfn {h:H}{v:V}{vs:List V}(e:litems h v=some vs) (lo hi:Option V) (a b:Option Int) (ha:lo.mapM asInt?=some a) (hb:hi.mapM asInt?=some b):zbF h v lo hi=some (.lst (slc vs a b)):=by
 rw[zbF,ha,hb]
 rcases zah e with rfl|⟨i,rfl,hc⟩
 ·rfl
 ·simp only
  rw[zaL hc];rfl
theorem zo7 {α:Type}(vs:List α) (j:Nat):slc vs Option.none (some (j:Int))=vs.take j:=by
 simp only[slc,cut,Int.not_lt.2 (Int.natCast_nonneg j),if_false,Int.toNat_natCast,List.drop_zero]
 rcases Nat.le_total j vs.length with hj|hj
 ·rw[Nat.min_eq_left hj]
 ·rw[Nat.min_eq_right hj,List.take_length,List.take_of_length_le hj]
theorem zls {α:Type}(vs:List α) (i:Nat):slc vs (some (i:Int)) Option.none=vs.drop i:=by
 simp only[slc,cut,Int.not_lt.2 (Int.natCast_nonneg i),if_false,Int.toNat_natCast,List.take_length]
 rcases Nat.le_total i vs.length with hj|hj
 ·rw[Nat.min_eq_left hj]
 ·rw[Nat.min_eq_right hj,List.drop_length,List.drop_of_length_le hj]
theorem zlr {h:H}{v:V}{vs:List V}(e:litems h v=some vs) (j:Nat):zbF h v Option.none (some (.int j))=some (.lst (vs.take j)):=by
 rw[zfn e _ _ Option.none (some (j:Int)) rfl rfl,zo7]
theorem ziM {h:H}{v:V}{vs:List V}(e:litems h v=some vs) (i:Nat):zbF h v (some (.int i)) Option.none=some (.lst (vs.drop i)):=by
 rw[zfn e _ _ (some (i:Int)) Option.none rfl rfl,zls]
theorem zh9 {h:H}{v:V}{vs:List V}(e:litems h v=some vs){j:Nat}{x:V}(hj:vs[j]?=some x):pyIdx h v (.int j)=some x:=by
 have hl:j < vs.length:=(List.getElem?_eq_some_iff.1 hj).1;have hp:place vs.length (j:Int)=some j:=by simp[place,hl]
 rcases zah e with rfl|⟨i,rfl,hc⟩
 ·show(place vs.length (j:Int)).bind _=_
  rw[hp];exact hj
 ·rw[pyIdx,hc]
  show(place vs.length (j:Int)).bind _=_;rw[hp];exact hj
theorem zoc {h:H}{vs:List V}{j:Nat}{x:V}(hj:vs[j]?=some x):pyIdx h (.tup vs) (.int j)=some x:=by
 have hl:j < vs.length:=(List.getElem?_eq_some_iff.1 hj).1;have hp:place vs.length (j:Int)=some j:=by simp[place,hl]
 show(place vs.length (j:Int)).bind _=_;rw[hp];exact hj
theorem IsL.idx {h:H}{v:V}{l:List Nat}(e:IsL h v l){j d:Nat}(hj:l[j]?=some d):pyIdx h v (.int j)=some (.int d):=zh9 e (zfu hj)
theorem zqB {h:H}{a b:V}{vs ws:List V}(ha:litems h a=some vs) (hb:litems h b=some ws) (hl:vs.length+ws.length≤1000000):pyBin .add h a b=some (.lst (vs++ws)):=by
 have e:((litems h a).bind fun x=>(litems h b).bind fun y=>mkL (x++y))=some (.lst (vs++ws)):=by
  rw[ha,hb];exact zea (by simpa using hl)
 rcases zah ha with rfl|⟨i,rfl,_⟩<;>exact e
theorem zi9 (x:Int) (m:Nat) (hm:0 < m):∃ j:Nat,j < m∧x.fmod m=j:=by
 have h2:=Int.fmod_lt_of_pos x (Int.natCast_pos.2 hm);obtain⟨j,hj⟩:=Int.eq_ofNat_of_zero_le (Int.fmod_nonneg_of_pos x (Int.natCast_pos.2 hm));exact⟨j,Int.ofNat_lt.1 (hj ▸ h2),hj⟩
noncomputable def cellAt (l:List Int) (k:Nat):Int:=l.getD k 0
noncomputable def setS (v:V) (ρ:List V) (xs:List Nat) (h:H):RS :=
 match v with
 |.tup vs=>(match setAll ρ xs vs with
  |some ρ=>.ok .next ρ h
  |Option.none=>.bad)
 |_=>.bad
theorem znB (q:Bool) (F:Fn) (ρ:List V) (h:H) (xs:List Nat) (e:PE):exS q F (.asgT xs e) ρ h=if !q then .bad else(evE q F ρ e h).st ρ fun v h=>setS v ρ xs h:=rfl
theorem zpF {F:Fn}{xs:List Nat}{e:PE}{ss:List PS}{ρ ρ':List V}{h h':H}{vs:List V}{r:R V}(he:evE true F ρ e h=.ok (.tup vs) h') (hρ:setAll ρ xs vs=some ρ') (k:(exSs true F ss ρ' h').out=r):(exSs true F (.asgT xs e::ss) ρ h).out=r:=by
 rw[ss_cons',znB,if_neg (by decide),he,R.st_ok,setS,hρ];exact k
theorem znD (h:H) (n:Nat) (hn:n≤1000000):rngR (.int n) h=.ok (upto n,Option.none) h:=zlv h (Int.le_trans (by decide) (Int.natCast_nonneg n)) (Int.ofNat_le.2 hn)
theorem start {P:Tab}{f:String}{d:FnDef}{n:Nat}{q:Bool}{vs ρ:List V}{h:H}{r:R V}(hf:P f=some d) (hl:vs.length=d.arity) (hρ:vs++List.replicate (d.slots - d.arity) .undef=ρ)
  (k:(exSs q (run P n) d.body ρ h).out=r):run P (n+1) q f vs h=r:=by
 rw[zlu hf,znC _ _ _ _ _ hl,hρ];exact k
theorem zp2 {q:Bool}{F:Fn}{ρ:List V}{h h':H}{a:PE}{n:Nat}(e:evE q F ρ a h=.ok (.int n) h') (hn:n≤1000000):evIt q F ρ (.range1 a) h=.ok (upto n,Option.none) h':=by
 rw[i_range1,e,R.bind_ok,znD _ _ hn]
theorem zei {q:Bool}{F:Fn}{ρ:List V}{h h':H}{a:PE}{vs:List V}(e:evE q F ρ a h=.ok (.lst vs) h'):evIt q F ρ (.seq a) h=.ok (vs,Option.none) h':=by
 rw[i_seq,e];rfl
theorem zk4 {α:Type}{elt cond:V→H→R V}(c e:α→V) (b:α→Bool) (h:H) (w:Watch) (hw:w.ok h=true) (l:List α)
  (hc:∀ a∈l,cond (c a) h=.ok (.bool (b a)) h) (he:∀ a∈l,b a=true→elt (c a) h=.ok (e a) h) :
  compL w elt cond (l.map c) h=.ok ((l.filter b).map e) h:=by
 induction l with
 |nil=>simp[zhw,hw]
 |cons a l ih =>
  have ih:=ih (fun v hv=>hc v (List.mem_cons_of_mem _ hv)) (fun v hv=>he v (List.mem_cons_of_mem _ hv));rw[List.map_cons,zhx,if_pos hw,hc a (List.mem_cons_self ..),R.bind_ok,truthy_bool]
  cases hb:b a with
  |true=>dsimp only;rw[he a (List.mem_cons_self ..) hb,R.bind_ok,ih,R.bind_ok,List.filter_cons_of_pos hb,List.map_cons]
  |false=>dsimp only;rw[ih,List.filter_cons_of_neg (by rw[hb];exact Bool.false_ne_true)]
theorem zii {α:Type}{F:Fn}{ρ:List V}{h h':H}{elt cond:PE}{x:Nat}{it:PIt}{l:List α}{c:α→V}{t:Watch}{r:V}(hi:evIt true F ρ it h=.ok (l.map c,t) h') (ht:t.ok h'=true) (e:α→V) (b:α→Bool)
  (hc:∀ a∈l,evE true F (ρ.set x (c a)) cond h'=.ok (.bool (b a)) h') (he:∀ a∈l,b a=true→evE true F (ρ.set x (c a)) elt h'=.ok (e a) h') (hr:mkL ((l.filter b).map e)=some r) :
  evE true F ρ (.comp elt x it (some cond)) h=.ok r h':=by
 rw[e_comp,if_neg (by decide),hi,R.bind_ok,zk4 c e b h' t ht l hc he,lstR_ok,hr];rfl
theorem zeo {α:Type}{F:Fn}{ρ:List V}{h h':H}{elt:PE}{x:Nat}{it:PIt}{l:List α}{c:α→V}{t:Watch}{r:V}(hi:evIt true F ρ it h=.ok (l.map c,t) h') (ht:t.ok h'=true) (e:α→V)
  (he:∀ a∈l,evE true F (ρ.set x (c a)) elt h'=.ok (e a) h') (hr:mkL (l.map e)=some r) :
  evE true F ρ (.comp elt x it Option.none) h=.ok r h':=by
 rw[e_comp,if_neg (by decide),hi,R.bind_ok,zk4 c e (fun z_=>true) h' t ht l (fun z_ z_=>rfl) (fun a ha z_=>he a ha),lstR_ok,List.filter_eq_self.2 (fun z_ z_=>rfl),hr];rfl
theorem zdB {q:Bool}{F:Fn}{ρ:List V}{h h':H}{a:PE}{n:Nat}(e:evE q F ρ a h=.ok (.int n) h') (hn:n≤1000000):evIt q F ρ (.range1 a) h=.ok ((List.range n).map fun i:Nat=>V.int i,Option.none) h':=zp2 e hn
theorem zp9 {α:Type}{t:Watch}{x:Nat}{body:List V→H→RS}(l:List α) (c:α→V) (f:List α→V→List V) (g:List α→H) (ht:∀ p,t.ok (g p)=true)
  (hb:∀ p a q w,l=p++a::q→body ((f p w).set x (c a)) (g p)=.ok .next (f (p++[a]) (c a)) (g (p++[a]))) (w:V) :
  ∃ w',forL t (bind1 x) body (l.map c) (f [] w) (g [])=.ok .next (f l w') (g l):=by
 have key:∀ (q p:List α) (w:V),l=p++q→∃ w',forL t (bind1 x) body (q.map c) (f p w) (g p)=.ok .next (f l w') (g l):=by
  intro q
  induction q with
  |nil=>intro p w e;rw[List.append_nil] at e;subst e;exact⟨w,if_pos (ht _)⟩
  |cons a q ih =>
   intro p w e;obtain⟨w',e'⟩:=ih (p++[a]) (c a) (by rw[e,List.append_assoc];rfl)
   refine⟨w',?_⟩;rw[List.map_cons,zie,if_pos (ht _)];show(body ((f p w).set x (c a)) (g p)).then _=_;rw[hb p a q w e,RS.then_next,e']
 exact key l [] w rfl
theorem zhh {α:Type}{F:Fn}{x:Nat}{it:PIt}{body ss:List PS}{ρ:List V}{h h':H}{l:List α}{c:α→V}{t:Watch}{r:R V}(f:List α→V→List V) (g:List α→H) (w:V)
  (hi:evIt true F ρ it h=.ok (l.map c,t) h') (ht:∀ p,t.ok (g p)=true) (hρ:f [] w=ρ) (hh:g []=h')
  (hb:∀ p a q w,l=p++a::q→exSs true F body ((f p w).set x (c a)) (g p)=.ok .next (f (p++[a]) (c a)) (g (p++[a])))
  (hk:∀ w',(exSs true F ss (f l w') (g l)).out=r):(exSs true F (.for1 x it body::ss) ρ h).out=r:=by
 subst hρ hh;rw[ss_cons',s_for1',if_neg (by decide),hi,R.st_ok]
 obtain⟨w',e⟩:=zp9 l c f g ht hb w;rw[e,RS.then_next];exact hk w'
theorem zpE {α:Type}{F:Fn}{x:Nat}{it:PIt}{body ss:List PS}{ρ:List V}{h h':H}{l:List α}{c:α→V}{t:Watch}{r:R V}{w₀:V}(b:α→Bool)
  (hi:evIt true F ρ it h=.ok (l.map c,t) h') (ht:t.ok h'=true) (hx:ρ.set x w₀=ρ)
  (hb:∀ a∈l,b a=true→exSs true F body (ρ.set x (c a)) h'=.ok .next (ρ.set x (c a)) h')
  (hk:(∀ a∈l,b a=true)→∀ w,(exSs true F ss (ρ.set x w) h').out=r)
  (hl:∀ p a q,l=p++a::q→(∀ d∈p,b d=true)→b a=false→∀ k,((exSs true F body (ρ.set x (c a)) h').then k).out=r) :
  (exSs true F (.for1 x it body::ss) ρ h).out=r:=by
 rw[ss_cons',s_for1',if_neg (by decide),hi,R.st_ok]
 have key:∀ (q p:List α) (w:V),l=p++q→(∀ d∈p,b d=true)→((forL t (bind1 x) (fun ρ h=>exSs true F body ρ h) (q.map c) (ρ.set x w) h').then fun ρ h=>exSs true F ss ρ h).out=r:=by
  intro q
  induction q with
  |nil =>
   intro p w e hp;rw[List.append_nil] at e;subst e;rw[List.map_nil,zkJ,if_pos ht];exact hk hp w
  |cons a q ih =>
   intro p w e hp;rw[List.map_cons,zie,if_pos ht];show(((exSs true F body ((ρ.set x w).set x (c a)) h').then _).then _).out=r;rw[List.set_set]
   cases hba:b a with
   |true =>
    rw[hb a (by rw[e];simp) hba,RS.then_next]
    exact ih (p++[a]) (c a) (by rw[e,List.append_assoc];rfl) (fun d hd=>by
     rcases List.mem_append.1 hd with h|h
     ·exact hp d h
     ·rw[List.mem_singleton] at h;rw[h];exact hba)
   |false =>
    have:=hl p a q e hp hba
    cases hq:exSs true F body (ρ.set x (c a)) h' with
    |bad=>rw[hq] at this;exact this fun z_ z_=>.bad
    |err d ρ' h=>rw[hq] at this;exact this fun z_ z_=>.bad
    |ok fl ρ' h=>rw[hq] at this;cases fl with
     |next=>exact this fun ρ h=>(forL t (bind1 x) (fun ρ h=>exSs true F body ρ h) (List.map c q) ρ h).then fun ρ h=>exSs true F ss ρ h
     |ret v=>exact this fun z_ z_=>.bad
 have:=key l [] w₀ rfl (fun z_ h=>nomatch h);rw[hx] at this;exact this
section
variable {q:Bool}{F:Fn}{ρ:List V}{h:H}{a b:PE}{x y:Int}
theorem zla (ea:evE q F ρ a h=.ok (.int x) h) (eb:evE q F ρ b h=.ok (.int y) h):evE q F ρ (.bin .add a b) h=.ok (.int (x+y)) h:=by rw[zbz,ea,R.bind_ok,eb];rfl
theorem zoG (ea:evE q F ρ a h=.ok (.int x) h) (eb:evE q F ρ b h=.ok (.int y) h):evE q F ρ (.bin .sub a b) h=.ok (.int (x - y)) h:=by rw[zbz,ea,R.bind_ok,eb];rfl
theorem zoH (ea:evE q F ρ a h=.ok (.int x) h) (eb:evE q F ρ b h=.ok (.int y) h) (hy:y.natAbs < 9223372036854775808):evE q F ρ (.bin .mul a b) h=.ok (.int (x * y)) h:=by rw[zbz,ea,R.bind_ok,eb,R.bind_ok,zhB h _ _ hy];rfl
theorem zk9 (ea:evE q F ρ a h=.ok (.int x) h) (eb:evE q F ρ b h=.ok (.int y) h) (hy:y≠0):evE q F ρ (.bin .fdiv a b) h=.ok (.int (x.fdiv y)) h:=by rw[zbz,ea,R.bind_ok,eb,R.bind_ok,zgU h _ _ hy];rfl
theorem zmv (ea:evE q F ρ a h=.ok (.int x) h) (eb:evE q F ρ b h=.ok (.int y) h) (hy:y≠0):evE q F ρ (.bin .mod a b) h=.ok (.int (x.fmod y)) h:=by rw[zbz,ea,R.bind_ok,eb,R.bind_ok,zhC h _ _ hy];rfl
theorem zcL {i:Nat}{v:V}(e:ρ[i]?=some v) (hv:v.val):evE q F ρ (.var i) h=.ok v h:=by
 rw[zbN,e]
 cases v<;>first|rfl|exact hv.elim
theorem zk7 (ea:evE q F ρ a h=.ok (.int x) h) (eb:evE q F ρ b h=.ok (.int y) h):evE q F ρ (.cmp .eq a b) h=.ok (.bool (decide (x=y))) h:=by
 rw[zaj,ea,R.bind_ok,eb,R.bind_ok];show R.opt (Option.map V.bool (pyEq h (.int x) (.int y))) h=_;rw[zeW h rfl rfl rfl rfl,zhb];rfl
theorem znd {f:Bf}(hr:((!true&&f.walks)||!f.ready)=false):evE true F ρ (.bf f a) h=(evE true F ρ a h).bind fun x h=>R.opt (Mine.bf f h x) h:=by rw[zaA,hr];exact if_neg Bool.false_ne_true
theorem zcq {f:String}{v w r:V}(ea:evE q F ρ a h=.ok v h) (eb:evE q F ρ b h=.ok w h) (hc:pcall h (F q f [v,w] h)=.ok r h):evE q F ρ (.call false f [a,b]) h=.ok r h:=by
 rw[zan,zde,ea,R.bind_ok,zde,eb,R.bind_ok,zjS,R.bind_ok,R.bind_ok,R.bind_ok];exact hc
theorem zeq {f:String}{c:PE}{v w x r:V}(ea:evE true F ρ a h=.ok v h) (eb:evE true F ρ b h=.ok w h) (ec:evE true F ρ c h=.ok x h) (hc:pcall h (F true f [v,w,x] h)=.ok r h):evE true F ρ (.call false f [a,b,c]) h=.ok r h:=by
 rw[zan,zde,ea,R.bind_ok,zde,eb,R.bind_ok,zde,ec,R.bind_ok,zjS,R.bind_ok,R.bind_ok,R.bind_ok,R.bind_ok];exact hc
theorem zgR {f:String}{v r:V}(ea:evE true F ρ a h=.ok v h) (hc:pcall h (F true f [v] h)=.ok r h):evE true F ρ (.call false f [a]) h=.ok r h:=by
 rw[zan,zde,ea,R.bind_ok,zjS,R.bind_ok,R.bind_ok];exact hc
end
/- is_among: 0 thing,1 low,2 high -/
noncomputable def zds:FnDef:=⟨3,3,[
 .ret (.and [.isinst (.var 0) [.int],.not (.isinst (.var 0) [.bool]),.cmp2 .le .le (.var 1) (.var 0) (.var 2)])]⟩
def zao (P:Tab):Prop:=P "is_among"=some zds
theorem zao.self {P:Tab}(u:zao P):P "is_among"=some zds:=u
/- how_many: 0 signs,1 size,2 found,3 turn -/
noncomputable def zdt:FnDef:=⟨2,4,[
 .asg 2 (.int 1),
 .for1 3 (.range1 (.var 1)) [
  .asg 2 (.bin .mul (.var 2) (.var 0))],
 .ret (.var 2)]⟩
def za0 (P:Tab):Prop:=P "how_many"=some zdt
theorem za0.self {P:Tab}(u:za0 P):P "how_many"=some zdt:=u
/- need_signs: 0 signs -/
noncomputable def zcs:FnDef:=⟨1,1,[
 .ifs (.not (.call false "is_among" [.var 0,.int 1,.glob "MOST_SIGNS" 9])) [
  .raise "BadSize"] []]⟩
def za3 (P:Tab):Prop:=P "need_signs"=some zcs∧zao P
theorem za3.self {P:Tab}(u:za3 P):P "need_signs"=some zcs:=And.left u
theorem za3.is_among {P:Tab}(u:za3 P):zao P:=And.right u
/- need_size: 0 size -/
noncomputable def zcT:FnDef:=⟨1,1,[
 .ifs (.not (.call false "is_among" [.var 0,.int 1,.glob "MOST_SIZE" 8])) [
  .raise "BadSize"] []]⟩
def zbe (P:Tab):Prop:=P "need_size"=some zcT∧zao P
theorem zbe.self {P:Tab}(u:zbe P):P "need_size"=some zcT:=And.left u
theorem zbe.is_among {P:Tab}(u:zbe P):zao P:=And.right u
/- need_both: 0 signs,1 size -/
noncomputable def zcU:FnDef:=⟨2,2,[
 .expr (.call false "need_signs" [.var 0]),
 .expr (.call false "need_size" [.var 1]),
 .ifs (.cmp .gt (.call false "how_many" [.var 0,.var 1]) (.glob "MOST_WORDS" 256)) [
  .raise "BadSize"] []]⟩
def zaa (P:Tab):Prop:=P "need_both"=some zcU∧za3 P∧zbe P∧za0 P
theorem zaa.self {P:Tab}(u:zaa P):P "need_both"=some zcU:=And.left u
theorem zaa.need_signs {P:Tab}(u:zaa P):za3 P:=And.left (And.right u)
theorem zaa.need_size {P:Tab}(u:zaa P):zbe P:=And.left (And.right (And.right u))
theorem zaa.how_many {P:Tab}(u:zaa P):za0 P:=And.right (And.right (And.right u))
/- is_word: 0 signs,1 word,2 sign -/
noncomputable def zeC:FnDef:=⟨2,3,[
 .ifs (.or [.not (.isinst (.var 1) [.list]),.not (.cmp2 .le .le (.int 1) (.bf .len (.var 1)) (.glob "MOST_SIZE" 8))]) [
  .ret (.bool false)] [],
 .ret (.bf .all (.comp (.call false "is_among" [.var 2,.int 0,.bin .sub (.var 0) (.int 1)]) 2 (.seq (.var 1)) .none))]⟩
def za9 (P:Tab):Prop:=P "is_word"=some zeC∧zao P
theorem za9.self {P:Tab}(u:za9 P):P "is_word"=some zeC:=And.left u
theorem za9.is_among {P:Tab}(u:za9 P):zao P:=And.right u
/- need_word: 0 signs,1 word -/
noncomputable def zeB:FnDef:=⟨2,2,[
 .ifs (.not (.call false "is_word" [.var 0,.var 1])) [
  .raise "BadWord"] []]⟩
def za2 (P:Tab):Prop:=P "need_word"=some zeB∧za9 P
theorem za2.self {P:Tab}(u:za2 P):P "need_word"=some zeB:=And.left u
theorem za2.is_word {P:Tab}(u:za2 P):za9 P:=And.right u
/- need_sized: 0 signs,1 size,2 word -/
noncomputable def zdC:FnDef:=⟨3,3,[
 .expr (.call false "need_word" [.var 0,.var 2]),
 .ifs (.cmp .ne (.bf .len (.var 2)) (.var 1)) [
  .raise "BadWord"] []]⟩
def zbh (P:Tab):Prop:=P "need_sized"=some zdC∧za2 P
theorem zbh.self {P:Tab}(u:zbh P):P "need_sized"=some zdC:=And.left u
theorem zbh.need_word {P:Tab}(u:zbh P):za2 P:=And.right u
/- numbered: 0 signs,1 size,2 number,3 found,4 left,5 turn -/
noncomputable def zdr:FnDef:=⟨3,6,[
 .asg 3 (.own (.list [])),
 .asg 4 (.var 2),
 .for1 5 (.range1 (.var 1)) [
  .expr (.append (.var 3) (.bin .mod (.var 4) (.var 0))),
  .asg 4 (.bin .fdiv (.var 4) (.var 0))],
 .ret (.bf .listRev (.var 3))]⟩
def zbg (P:Tab):Prop:=P "numbered"=some zdr
theorem zbg.self {P:Tab}(u:zbg P):P "numbered"=some zdr:=u
/- all_words: 0 signs,1 size,2 number -/
noncomputable def zcW:FnDef:=⟨2,3,[
 .expr (.call false "need_both" [.var 0,.var 1]),
 .ret (.comp (.call false "numbered" [.var 0,.var 1,.var 2]) 2 (.range1 (.call false "how_many" [.var 0,.var 1])) .none)]⟩
def zag (P:Tab):Prop:=P "all_words"=some zcW∧zaa P∧za0 P∧zbg P
theorem zag.self {P:Tab}(u:zag P):P "all_words"=some zcW:=And.left u
theorem zag.need_both {P:Tab}(u:zag P):zaa P:=And.left (And.right u)
theorem zag.how_many {P:Tab}(u:zag P):za0 P:=And.left (And.right (And.right u))
theorem zag.numbered {P:Tab}(u:zag P):zbg P:=And.right (And.right (And.right u))
/- number_of: 0 signs,1 size,2 word,3 found,4 sign -/
noncomputable def zeA:FnDef:=⟨3,5,[
 .expr (.call false "need_both" [.var 0,.var 1]),
 .expr (.call false "need_sized" [.var 0,.var 1,.var 2]),
 .asg 3 (.int 0),
 .for1 4 (.seq (.var 2)) [
  .asg 3 (.bin .add (.bin .mul (.var 3) (.var 0)) (.var 4))],
 .ret (.var 3)]⟩
def zbm (P:Tab):Prop:=P "number_of"=some zeA∧zaa P∧zbh P
theorem zbm.self {P:Tab}(u:zbm P):P "number_of"=some zeA:=And.left u
theorem zbm.need_both {P:Tab}(u:zbm P):zaa P:=And.left (And.right u)
theorem zbm.need_sized {P:Tab}(u:zbm P):zbh P:=And.right (And.right u)
/- word_of: 0 signs,1 size,2 number -/
noncomputable def zgW:FnDef:=⟨3,3,[
 .expr (.call false "need_both" [.var 0,.var 1]),
 .ifs (.not (.call false "is_among" [.var 2,.int 0,.bin .sub (.call false "how_many" [.var 0,.var 1]) (.int 1)])) [
  .raise "BadWord"] [],
 .ret (.call false "numbered" [.var 0,.var 1,.var 2])]⟩
def za8 (P:Tab):Prop:=P "word_of"=some zgW∧zaa P∧zao P∧za0 P∧zbg P
theorem za8.self {P:Tab}(u:za8 P):P "word_of"=some zgW:=And.left u
theorem za8.need_both {P:Tab}(u:za8 P):zaa P:=And.left (And.right u)
theorem za8.is_among {P:Tab}(u:za8 P):zao P:=And.left (And.right (And.right u))
theorem za8.how_many {P:Tab}(u:za8 P):za0 P:=And.left (And.right (And.right (And.right u)))
theorem za8.numbered {P:Tab}(u:za8 P):zbg P:=And.right (And.right (And.right (And.right u)))
/- stands_in: 0 piece,1 word,2 place -/
noncomputable def zey:FnDef:=⟨2,3,[
 .for1 2 (.range1 (.bin .add (.bin .sub (.bf .len (.var 1)) (.bf .len (.var 0))) (.int 1))) [
  .ifs (.cmp .eq (.slice (.var 1) (some (.var 2)) (some (.bin .add (.var 2) (.bf .len (.var 0))))) (.var 0)) [
   .ret (.bool true)] []],
 .ret (.bool false)]⟩
def zce (P:Tab):Prop:=P "stands_in"=some zey
theorem zce.self {P:Tab}(u:zce P):P "stands_in"=some zey:=u
/- free_of: 0 signs,1 size,2 pieces,3 piece,4 found,5 word,6 piece -/
noncomputable def zgX:FnDef:=⟨3,7,[
 .expr (.call false "need_both" [.var 0,.var 1]),
 .ifs (.not (.isinst (.var 2) [.list])) [
  .raise "BadWord"] [],
 .for1 3 (.seq (.var 2)) [
  .expr (.call false "need_word" [.var 0,.var 3])],
 .asg 4 (.own (.list [])),
 .for1 5 (.seq (.call false "all_words" [.var 0,.var 1])) [
  .ifs (.not (.bf .any (.comp (.call false "stands_in" [.var 6,.var 5]) 6 (.seq (.var 2)) .none))) [
   .expr (.append (.var 4) (.var 5))] []],
 .ret (.var 4)]⟩
def zba (P:Tab):Prop:=P "free_of"=some zgX∧zaa P∧za2 P∧zag P∧zce P
theorem zba.self {P:Tab}(u:zba P):P "free_of"=some zgX:=And.left u
theorem zba.need_both {P:Tab}(u:zba P):zaa P:=And.left (And.right u)
theorem zba.need_word {P:Tab}(u:zba P):za2 P:=And.left (And.right (And.right u))
theorem zba.all_words {P:Tab}(u:zba P):zag P:=And.left (And.right (And.right (And.right u)))
theorem zba.stands_in {P:Tab}(u:zba P):zce P:=And.right (And.right (And.right (And.right u)))
theorem zel {P:Tab}(u:za0 P) (n:Nat) (s:Int) (hs:s.natAbs < 1000) (z:Nat) (hz:z≤1000) (h:H) :
  run P (n+1) true "how_many" [.int s,.int z] h=.ok (.int (s ^ z)) h:=by
 refine start u.self rfl (ρ:=[.int s,.int z,.undef,.undef]) rfl (zbr (v:=.int 1) (h':=h) rfl rfl ?_);refine zhh (l:=List.range z) (fun p w=>[.int s,.int z,.int (s ^ p.length),w]) (fun z_=>h) .undef (zdB (n:=z) rfl (Nat.le_trans hz (by decide))) (fun z_=>rfl) (by rw[List.length_nil,Int.pow_zero];rfl) rfl (fun p a q w z_=>?_) fun w=>?_
 ·rw[List.length_append,List.length_singleton,Int.pow_succ,ss_cons',s_asg',zoH (x:=s ^ p.length) (y:=s) rfl rfl (Nat.lt_trans hs (by decide)),R.st_ok];rfl
 ·rw[List.length_range];exact zbA rfl
noncomputable def word (s:Nat):Nat→Nat→List Nat
 |0,_=>[]
 |z+1,k=>word s z (k / s)++[k % s]
theorem zoX (s k:Nat):word s 0 k=[]:=rfl
theorem zhK (s z k:Nat):word s (z+1) k=word s z (k / s)++[k % s]:=rfl
theorem zb1 (s z k:Nat):(word s z k).length=z:=by
 induction z generalizing k with
 |zero=>rfl
 |succ z ih=>rw[zhK,List.length_append,ih];rfl
theorem znh {s:Nat}(hs:0 < s) (z k:Nat):∀ d∈word s z k,d < s:=by
 induction z generalizing k with
 |zero=>intro d hd;cases hd
 |succ z ih =>
  intro d hd
  rcases List.mem_append.1 hd with h|h
  ·exact ih _ d h
  ·simp at h;subst h;exact Nat.mod_lt _ hs
theorem ziF (s z i k:Nat) (hi:i≤z):word s z k=word s (z - i) (k / s ^ i)++word s i k:=by
 induction i generalizing z k with
 |zero=>rw[Nat.pow_zero,Nat.div_one,zoX,List.append_nil];rfl
 |succ i ih =>
  cases z with
  |zero=>exact absurd hi (Nat.not_succ_le_zero i)
  |succ z=>rw[zhK,ih z (k / s) (Nat.le_of_succ_le_succ hi),zhK,Nat.pow_succ,Nat.mul_comm,← Nat.div_div_eq_div_mul,List.append_assoc,Nat.add_sub_add_right]
noncomputable def V.lists (ls:List (List Nat)):List V:=ls.map fun l=>.lst (V.nats l)
noncomputable def words (s z:Nat):List (List Nat):=(List.range (s ^ z)).map (word s z)
theorem lists_plains (ls:List (List Nat)):V.plains (V.lists ls)=true:=by
 induction ls with
 |nil=>rfl
 |cons a l ih=>simp only[V.lists,List.map_cons,V.plains,V.plain,zb5,Bool.true_and];exact ih
/- _law_cell_at: 0 _law_script,1 _law_k -/
noncomputable def zex:FnDef:=⟨2,2,[
 .ifs (.cmp .lt (.var 1) (.bf .len (.var 0))) [
  .ret (.idx (.var 0) (.var 1))] [],
 .ret (.int 0)]⟩
def zbn (P:Tab):Prop:=P "_law_cell_at"=some zex
theorem zbn.self {P:Tab}(u:zbn P):P "_law_cell_at"=some zex:=u
/- _law_classes: 0 _law_e,1 _law_found -/
noncomputable def zew:FnDef:=⟨1,2,[.raise "",.raise "",.raise "",.raise ""]⟩
def ze8 (P:Tab):Prop:=P "_law_classes"=some zew
theorem ze8.self {P:Tab}(u:ze8 P):P "_law_classes"=some zew:=u
/- _law_power: 0 _law_signs,1 _law_size,2 _law_found,3 _law_step -/
noncomputable def zhI:FnDef:=⟨2,4,[
 .asg 2 (.int 1),
 .for1 3 (.range1 (.var 1)) [
  .asg 2 (.bin .mul (.var 2) (.var 0))],
 .ret (.var 2)]⟩
def zcH (P:Tab):Prop:=P "_law_power"=some zhI
theorem zcH.self {P:Tab}(u:zcH P):P "_law_power"=some zhI:=u
/- _law_word: 0 _law_signs,1 _law_size,2 _law_number,3 _law_found,4 _law_step -/
noncomputable def zne:FnDef:=⟨3,5,[
 .asg 3 (.list []),
 .for1 4 (.range1 (.var 1)) [
  .asg 3 (.bin .add (.list [.bin .mod (.var 2) (.var 0)]) (.var 3)),
  .asg 2 (.bin .fdiv (.var 2) (.var 0))],
 .ret (.var 3)]⟩
def zlh (P:Tab):Prop:=P "_law_word"=some zne
theorem zlh.self {P:Tab}(u:zlh P):P "_law_word"=some zne:=u
theorem zjf {P:Tab}(u:zbn P) (n:Nat) (q:Bool) (l:List Int) (k:Nat) (h:H) :
  run P (n+1) q "_law_cell_at" [V.ints l,.int k] h=.ok (.int (cellAt l k)) h:=by
 refine start u.self rfl (ρ:=[V.ints l,.int k]) rfl ?_;have c:evE q (run P n) [V.ints l,.int k] (.cmp .lt (.var 1) (.bf .len (.var 0))) h=.ok (.bool (decide ((k:Int) < ((l.map V.int).length:Nat)))) h:=by cases q<;>rfl
 rw[List.length_map] at c
 by_cases hk:k < l.length
 ·refine zlJ (c.trans (by rw[decide_eq_true (Int.ofNat_lt.2 hk)])) (zbA ?_)
  show R.opt (pyIdx h (.lst (l.map V.int)) (.int k)) h=_;rw[zh9 (h:=h) (x:=.int (cellAt l k)) rfl (j:=k) (by rw[List.getElem?_map,List.getElem?_eq_getElem hk,cellAt,List.getD_eq_getElem?_getD,List.getElem?_eq_getElem hk];rfl)];rfl
 ·refine zdD (c.trans (by rw[decide_eq_false fun e=>hk (Int.ofNat_lt.1 e)])) (zbA ?_)
  rw[cellAt,List.getD_eq_getElem?_getD,List.getElem?_eq_none (Nat.le_of_not_lt hk)];rfl
theorem zlA {P:Tab}(u:zcH P) (n:Nat) (s:Int) (hs:s.natAbs < 1000) (z:Nat) (hz:z≤1000) (h:H) :
  run P (n+1) true "_law_power" [.int s,.int z] h=.ok (.int (s ^ z)) h:=by
 refine start u.self rfl (ρ:=[.int s,.int z,.undef,.undef]) rfl ?_;refine zbr (v:=.int 1) (h':=h) rfl (ρ':=[.int s,.int z,.int 1,.undef]) rfl ?_;refine zhh (fun p w=>[.int s,.int z,.int (s ^ p.length),w]) (fun z_=>h) .undef (zdB (n:=z) rfl (Nat.le_trans hz (by decide))) (fun z_=>rfl) (by rw[List.length_nil,Int.pow_zero]) rfl ?_ fun w=>by rw[List.length_range];exact zbA rfl
 intro p a q w hp;rw[List.length_append,List.length_singleton,Int.pow_succ,ss_cons',s_asg',zoH (x:=s ^ p.length) (y:=s) rfl rfl (Nat.lt_trans hs (by decide))];rfl
theorem IsL.len {h:H}{v:V}{l:List Nat}(e:IsL h v l):Mine.bf .len h v=some (.int l.length):=by
 rw[zmX e,nats_length]
theorem ze0 {h:H}{v:V}{vs:List V}(e:litems h v=some vs) (k:H):litems (h++k) v=some vs:=by
 rcases zah e with rfl|⟨i,rfl,hc⟩
 ·rfl
 ·refine zaL ?_
  rw[List.getElem?_append_left (List.getElem?_eq_some_iff.1 hc).1];exact hc
theorem IsL.app {h:H}{v:V}{l:List Nat}(e:IsL h v l) (k:H):IsL (h++k) v l:=ze0 e k
theorem zgJ {h:H}{v:V}{vs:List V}(e:litems h v=some vs) (hp:V.plains vs=true):frz 0 h v=some (.lst vs):=by
 rcases zah e with rfl|⟨i,rfl,hc⟩
 ·exact zc6 0 h _ hp
 ·show frzAt 4 0 h i=_
  rw[zen,if_neg (Nat.not_lt_zero i),hc];show Option.map _ (V.mapRefs _ vs)=_;rw[za5 _ _ hp];rfl
theorem ziU (a b:List (List Nat)):peqs (V.lists a) (V.lists b)=decide (a=b):=by
 induction a generalizing b with
 |nil=>cases b<;>rfl
 |cons x a ih=>cases b with
  |nil=>rfl
  |cons y b =>
   show(peq (.lst (V.nats x)) (.lst (V.nats y))&&peqs (V.lists a) (V.lists b))=_;rw[zfr,zgl,ih]
   by_cases e1:x=y<;>by_cases e2:a=b<;>simp[e1,e2]
theorem zhZ (l:List (List Nat)) (n:Nat):V.ok (n+3) (.lst (V.lists l))=true:=by
 show(V.lists l).all (V.ok (n+2))=true;rw[List.all_eq_true];intro v hv;simp only[V.lists,List.mem_map] at hv;obtain⟨x,_,rfl⟩:=hv;exact zfs x n
theorem znL {h:H}{a b:V}{x y:List (List Nat)}(ha:frz 0 h a=some (.lst (V.lists x))) (hb:frz 0 h b=some (.lst (V.lists y))):pyEq h a b=some (decide (x=y)):=by
 rw[zhW ha hb (zhZ x 5) (zhZ y 5),zfr,ziU]
noncomputable def clean (v:V):Prop:=v.plain=true∧v.val∧∀ vs,v=.lst vs→∀ x∈vs,x.val
theorem zgk {v:V}(hp:v.plain=true) (hv:v.val) (h:H):okV h v:=by
 cases v<;>first|trivial|exact hv.elim|cases hp
theorem ziS {vs:List V}(hp:V.plains vs=true){v:V}(hv:v∈vs):v.plain=true:=by
 induction vs with
 |nil=>cases hv
 |cons a l ih =>
  simp only[V.plains,Bool.and_eq_true] at hp
  rcases List.mem_cons.1 hv with rfl|hm
  ·exact hp.1
  ·exact ih hp.2 hm
theorem clean.okV {v:V}(hc:clean v) (h:H):okV h v:=zgk hc.1 hc.2.1 h
theorem clean.items {v:V}(hc:clean v) (h:H):∀ vs,litems h v=some vs→∀ x∈vs,Mine.okV h x:=by
 intro vs hl x hx
 rcases zah hl with rfl|⟨i,rfl,_⟩
 ·exact zgk (ziS hc.1 hx) (hc.2.2 _ rfl x hx) h
 ·cases hc.1
theorem zjU {vs:List V}(h:∀ v∈vs,v.plain=true):V.plains vs=true:=by
 induction vs with
 |nil=>rfl
 |cons a l ih=>rw[V.plains,h a (List.mem_cons_self ..),ih fun v hv=>h v (List.mem_cons_of_mem _ hv)];rfl
theorem Watch.app {t:Watch}{h:H}(e:t.ok h=true) (k:H):t.ok (h++k)=true:=by
 cases t with
 |none=>rfl
 |some p =>
  have:h[p.1]?=some p.2:=of_decide_eq_true e;show decide ((h++k)[p.1]?=some p.2)=true;rw[List.getElem?_append_left (List.getElem?_eq_some_iff.1 this).1,this];exact decide_eq_true rfl
theorem zle {α:Type}{P:α→Prop}:∀ x∈([]:List α),P x:=fun z_ h=>nomatch h
theorem zac {α:Type}{P:α→Prop}{a:α}{l:List α}(h:P a) (t:∀ x∈l,P x):∀ x∈a::l,P x:=fun x hx=>(List.mem_cons.1 hx).elim (fun e=>e ▸ h) (t x)
theorem zky {h:H}{vs:List V}{i:Int}{m:Nat}(hm:0 < m) (hl:vs.length=m):∃ j:Nat,j < m∧i.fmod m=j∧∃ x,vs[j]?=some x∧pyIdx h (.lst vs) (.int (i.fmod m))=some x:=by
 obtain⟨j,hj,e⟩:=zi9 i m hm;have hx:vs[j]?=some vs[j]:=List.getElem?_eq_getElem (hl ▸ hj);exact⟨j,hj,e,_,hx,by rw[e];exact zh9 rfl hx⟩
noncomputable def cells (ps:List (List Nat)):H:=ps.map fun p=>.list (V.nats p)
namespace L12
/- is_falling: 0 word,1 place -/
noncomputable def zcv:FnDef:=⟨1,2,[
 .for1 1 (.range2 (.int 1) (.bf .len (.var 0))) [
  .ifs (.cmp .le (.bin .add (.slice (.var 0) (some (.var 1)) .none) (.slice (.var 0) .none (some (.var 1)))) (.var 0)) [
   .ret (.bool false)] []],
 .ret (.bool true)]⟩
def zbi (P:Tab):Prop:=P "is_falling"=some zcv
theorem zbi.self {P:Tab}(u:zbi P):P "is_falling"=some zcv:=u
/- pieces: 0 signs,1 size,2 found,3 part,4 word -/
noncomputable def zf4:FnDef:=⟨2,5,[
 .expr (.call false "need_both" [.var 0,.var 1]),
 .asg 2 (.own (.list [])),
 .for1 3 (.range2 (.int 1) (.bin .add (.var 1) (.int 1))) [
  .ifs (.cmp .eq (.bin .mod (.var 1) (.var 3)) (.int 0)) [
   .expr (.extend (.var 2) (.comp (.var 4) 4 (.seq (.call false "all_words" [.var 0,.var 3])) (some (.call false "is_falling" [.var 4]))))] []],
 .ret (.bf .sorted (.var 2))]⟩
def zbb (P:Tab):Prop:=P "pieces"=some zf4∧zaa P∧zag P∧zbi P
theorem zbb.self {P:Tab}(u:zbb P):P "pieces"=some zf4:=And.left u
theorem zbb.need_both {P:Tab}(u:zbb P):zaa P:=And.left (And.right u)
theorem zbb.all_words {P:Tab}(u:zbb P):zag P:=And.left (And.right (And.right u))
theorem zbb.is_falling {P:Tab}(u:zbb P):zbi P:=And.right (And.right (And.right u))
/- least_full: 0 signs,1 size,2 found,3 piece -/
noncomputable def zct:FnDef:=⟨2,4,[
 .asg 2 (.own (.list [])),
 .for1 3 (.seq (.call false "pieces" [.var 0,.var 1])) [
  .expr (.extend (.var 2) (.var 3))],
 .ret (.var 2)]⟩
def zaV (P:Tab):Prop:=P "least_full"=some zct∧zbb P
theorem zaV.self {P:Tab}(u:zaV P):P "least_full"=some zct:=And.left u
theorem zaV.pieces {P:Tab}(u:zaV P):zbb P:=And.right u
/- need_book: 0 signs,1 size,2 book,3 met,4 word -/
noncomputable def zcV:FnDef:=⟨3,5,[
 .expr (.call false "need_both" [.var 0,.var 1]),
 .ifs (.or [.not (.isinst (.var 2) [.list]),.cmp .eq (.bf .len (.var 2)) (.int 0)]) [
  .raise "BadBook"] [],
 .asg 3 (.newDict []),
 .for1 4 (.seq (.var 2)) [
  .ifs (.or [.not (.call false "is_word" [.var 0,.var 4]),.cmp .ne (.bf .len (.var 4)) (.var 1),.cmp .isin (.bf .tuple (.var 4)) (.var 3)]) [
   .raise "BadBook"] [],
  .setIdx (.var 3) (.bf .tuple (.var 4)) (.bool true)]]⟩
def zam (P:Tab):Prop:=P "need_book"=some zcV∧zaa P∧za9 P
theorem zam.self {P:Tab}(u:zam P):P "need_book"=some zcV:=And.left u
theorem zam.need_both {P:Tab}(u:zam P):zaa P:=And.left (And.right u)
theorem zam.is_word {P:Tab}(u:zam P):za9 P:=And.right (And.right u)
/- onward: 0 book,1 found,2 word -/
noncomputable def zf5:FnDef:=⟨1,3,[
 .asg 1 (.newDict []),
 .for1 2 (.seq (.var 0)) [
  .expr (.append (.setdef (.var 1) (.bf .tuple (.slice (.var 2) .none (some (.neg 1)))) (.own (.list []))) (.bf .tuple (.slice (.var 2) (some (.int 1)) .none))),
  .expr (.setdef (.var 1) (.bf .tuple (.slice (.var 2) (some (.int 1)) .none)) (.own (.list [])))],
 .ret (.var 1)]⟩
def zcF (P:Tab):Prop:=P "onward"=some zf5
theorem zcF.self {P:Tab}(u:zcF P):P "onward"=some zf5:=u
/- come_to: 0 ways,1 start,2 found,3 waiting,4 joint -/
noncomputable def zeE:FnDef:=⟨2,5,[
 .asg 2 (.dict1 (.var 1) (.bool true)),
 .asg 3 (.own (.list [.var 1])),
 .while (.cmp .gt (.bf .len (.var 3)) (.int 0)) [
  .for1 4 (.seq (.idx (.var 0) (.pop (.var 3)))) [
   .ifs (.cmp .notIn (.var 4) (.var 2)) [
    .setIdx (.var 2) (.var 4) (.bool true),
    .expr (.append (.var 3) (.var 4))] []]],
 .ret (.var 2)]⟩
def zbV (P:Tab):Prop:=P "come_to"=some zeE
theorem zbV.self {P:Tab}(u:zbV P):P "come_to"=some zeE:=u
/- lack_of: 0 book,1 ways,2 ends,3 joint,4 other,5 found,6 joint -/
noncomputable def zcu:FnDef:=⟨1,7,[
 .asg 1 (.call true "onward" [.var 0]),
 .asg 2 (.newDict []),
 .for1 3 (.seq (.var 1)) [
  .for1 4 (.seq (.idx (.var 1) (.var 3))) [
   .setIdx (.var 2) (.var 4) (.bin .add (.get (.var 2) (.var 4) (.int 0)) (.int 1))]],
 .for1 3 (.seq (.bf .sorted (.var 1))) [
  .ifs (.cmp .ne (.get (.var 2) (.var 3) (.int 0)) (.bf .len (.idx (.var 1) (.var 3)))) [
   .ret (.tup [.str "uneven",.own (.bf .list (.var 3))])] []],
 .asg 5 (.call true "come_to" [.var 1,.bf .tuple (.slice (.bf .min (.var 0)) .none (some (.neg 1)))]),
 .ifs (.cmp .lt (.bf .len (.var 5)) (.bf .len (.var 1))) [
  .ret (.tup [.str "apart",.own (.comp (.bf .list (.var 6)) 6 (.seq (.bf .sorted (.var 5))) .none)])] [],
 .ret .none]⟩
def za4 (P:Tab):Prop:=P "lack_of"=some zcu∧zcF P∧zbV P
theorem za4.self {P:Tab}(u:za4 P):P "lack_of"=some zcu:=And.left u
theorem za4.onward {P:Tab}(u:za4 P):zcF P:=And.left (And.right u)
theorem za4.come_to {P:Tab}(u:za4 P):zbV P:=And.right (And.right u)
/- goes_on: 0 left,1 joint,2 many,3 met,4 waiting,5 words,6 here,7 sign,8 other -/
noncomputable def zeD:FnDef:=⟨3,9,[
 .ifs (.cmp .eq (.var 2) (.int 0)) [
  .ret (.bool true)] [],
 .asg 3 (.dict1 (.var 1) (.bool true)),
 .asg 4 (.own (.list [.var 1])),
 .asg 5 (.int 0),
 .while (.cmp .gt (.bf .len (.var 4)) (.int 0)) [
  .asg 6 (.pop (.var 4)),
  .asg 5 (.bin .add (.var 5) (.bf .len (.get (.var 0) (.var 6) (.list [])))),
  .for1 7 (.seq (.get (.var 0) (.var 6) (.list []))) [
   .asg 8 (.rev (.bin .add (.var 6) (.tup [.var 7]))),
   .ifs (.cmp .notIn (.var 8) (.var 3)) [
    .setIdx (.var 3) (.var 8) (.bool true),
    .expr (.append (.var 4) (.var 8))] []]],
 .ret (.cmp .eq (.var 5) (.var 2))]⟩
def zbD (P:Tab):Prop:=P "goes_on"=some zeD
theorem zbD.self {P:Tab}(u:zbD P):P "goes_on"=some zeD:=u
/- next_sign: 0 left,1 joint,2 many,3 sign,4 other -/
noncomputable def zcS:FnDef:=⟨3,5,[
 .for1 3 (.seq (.bf .sorted (.idx (.var 0) (.var 1)))) [
  .expr (.remove (.idx (.var 0) (.var 1)) (.var 3)),
  .asg 4 (.rev (.bin .add (.var 1) (.tup [.var 3]))),
  .ifs (.call false "goes_on" [.var 0,.var 4,.bin .sub (.var 2) (.int 1)]) [
   .ret (.var 3)] [],
  .expr (.append (.idx (.var 0) (.var 1)) (.var 3))],
 .ret .none]⟩
def zau (P:Tab):Prop:=P "next_sign"=some zcS∧zbD P
theorem zau.self {P:Tab}(u:zau P):P "next_sign"=some zcS:=And.left u
theorem zau.goes_on {P:Tab}(u:zau P):zbD P:=And.right u
/- ring_of: 0 signs,1 size,2 book,3 left,4 word,5 first,6 joint,7 found,8 many,9 sign -/
noncomputable def zez:FnDef:=⟨3,10,[
 .expr (.call false "need_book" [.var 0,.var 1,.var 2]),
 .ifs (.cmp .isNot (.call false "lack_of" [.var 2]) .none) [
  .raise "NoRing"] [],
 .asg 3 (.newDict []),
 .for1 4 (.seq (.var 2)) [
  .expr (.append (.setdef (.var 3) (.bf .tuple (.slice (.var 4) .none (some (.neg 1)))) (.own (.list []))) (.idx (.var 4) (.neg 1)))],
 .asg 5 (.bf .min (.var 2)),
 .asg 6 (.bf .tuple (.slice (.var 5) (some (.int 1)) .none)),
 .expr (.remove (.idx (.var 3) (.bf .tuple (.slice (.var 5) .none (some (.neg 1))))) (.idx (.var 5) (.neg 1))),
 .asg 7 (.own (.list [.idx (.var 5) (.int 0)])),
 .for1 8 (.range3 (.bin .sub (.bf .len (.var 2)) (.int 1)) (.int 0) (.neg 1)) [
  .asg 9 (.call true "next_sign" [.var 3,.var 6,.var 8]),
  .expr (.append (.var 7) (.idx (.bin .add (.var 6) (.tup [.var 9])) (.int 0))),
  .asg 6 (.rev (.bin .add (.var 6) (.tup [.var 9])))],
 .ret (.var 7)]⟩
def zaY (P:Tab):Prop:=P "ring_of"=some zez∧zam P∧za4 P∧zau P
theorem zaY.self {P:Tab}(u:zaY P):P "ring_of"=some zez:=And.left u
theorem zaY.need_book {P:Tab}(u:zaY P):zam P:=And.left (And.right u)
theorem zaY.lack_of {P:Tab}(u:zaY P):za4 P:=And.left (And.right (And.right u))
theorem zaY.next_sign {P:Tab}(u:zaY P):zau P:=And.right (And.right (And.right u))
/- _law_pair: 0 _law_cell,1 _law_some -/
noncomputable def ziD:FnDef:=⟨1,2,[
 .asg 1 (.list [.tup [.int 2,.int 3],.tup [.int 3,.int 2],.tup [.int 2,.int 4],.tup [.int 3,.int 3],.tup [.int 2,.int 2],.tup [.int 4,.int 2],.tup [.int 2,.int 5],.tup [.int 5,.int 2],.tup [.int 3,.int 1],.tup [.int 1,.int 4],.tup [.int 2,.int 6],.tup [.int 9,.int 1],.tup [.int 4,.int 3]]),
 .ifs (.cmp .eq (.bin .mod (.bin .fdiv (.var 0) (.int 13)) (.int 9)) (.int 1)) [
  .ret (.idx (.list [.tup [.int 2,.int 8],.tup [.int 4,.int 4],.tup [.int 3,.int 5],.tup [.int 6,.int 3],.tup [.int 1,.int 8],.tup [.int 9,.int 2],.tup [.int 5,.int 3],.tup [.int 2,.int 7],.tup [.int 3,.int 4],.tup [.int 1,.int 6]]) (.bin .mod (.bin .fdiv (.var 0) (.int 117)) (.int 10)))] [],
 .ret (.idx (.var 1) (.bin .mod (.var 0) (.int 13)))]⟩
def zdq (P:Tab):Prop:=P "_law_pair"=some ziD
theorem zdq.self {P:Tab}(u:zdq P):P "_law_pair"=some ziD:=u
/- _law_number: 0 _law_ring,1 _law_place,2 _law_signs,3 _law_size,4 _law_found,5 _law_step -/
noncomputable def zf3:FnDef:=⟨4,6,[
 .asg 4 (.int 0),
 .for1 5 (.range1 (.var 3)) [
  .asg 4 (.bin .add (.bin .mul (.var 4) (.var 2)) (.idx (.var 0) (.bin .mod (.bin .add (.var 1) (.var 5)) (.bf .len (.var 0)))))],
 .ret (.var 4)]⟩
def zbW (P:Tab):Prop:=P "_law_number"=some zf3
theorem zbW.self {P:Tab}(u:zbW P):P "_law_number"=some zf3:=u
/- _law_words: 0 _law_signs,1 _law_size,2 _law_found,3 _law_step,4 _law_more,5 _law_word,6 _law_sign -/
noncomputable def zhH:FnDef:=⟨2,7,[
 .asg 2 (.list [.list []]),
 .for1 3 (.range1 (.var 1)) [
  .asg 4 (.list []),
  .for1 5 (.seq (.var 2)) [
   .asg 4 (.bin .add (.var 4) (.comp (.bin .add (.var 5) (.list [.var 6])) 6 (.range1 (.var 0)) .none))],
  .asg 2 (.var 4)],
 .ret (.var 2)]⟩
def zcG (P:Tab):Prop:=P "_law_words"=some zhH
theorem zcG.self {P:Tab}(u:zcG P):P "_law_words"=some zhH:=u
/- _law_all: 0 _law_signs,1 _law_size,2 _law_e -/
noncomputable def zoK:FnDef:=⟨2,3,[
 .try [
  .ret (.call false "ring_of" [.var 0,.var 1,.call false "_law_words" [.var 0,.var 1]])] "RingError" 2 []]⟩
def zcK (P:Tab):Prop:=P "_law_all"=some zoK∧zaY P∧zcG P
theorem zcK.self {P:Tab}(u:zcK P):P "_law_all"=some zoK:=And.left u
theorem zcK.ring_of {P:Tab}(u:zcK P):zaY P:=And.left (And.right u)
theorem zcK.l_words {P:Tab}(u:zcK P):zcG P:=And.right (And.right u)
/- law: 0 _law_script,1 _law_signs,2 _law_size,3 _law_ring,4 _law_numbers,5 _law_sign,6 _law_place -/
noncomputable def zmy:FnDef:=⟨1,7,[
 .asgT [1,2] (.call false "_law_pair" [.call false "_law_cell_at" [.var 0,.int 0]]),
 .asg 3 (.call false "least_full" [.var 1,.var 2]),
 .ifs (.or [.not (.isinst (.var 3) [.list]),.cmp .ne (.bf .len (.var 3)) (.call false "_law_power" [.var 1,.var 2])]) [
  .ret (.bool false)] [],
 .ifs (.cmp .ne (.comp (.var 5) 5 (.seq (.var 3)) (some (.or [.isinst (.var 5) [.bool],.not (.cmp2 .le .lt (.int 0) (.var 5) (.var 1))]))) (.list [])) [
  .ret (.bool false)] [],
 .asg 4 (.comp (.call false "_law_number" [.var 3,.var 6,.var 1,.var 2]) 6 (.range1 (.bf .len (.var 3))) .none),
 .ret (.and [.cmp .eq (.bf .sorted (.var 4)) (.bf .listRange (.call false "_law_power" [.var 1,.var 2])),.cmp .eq (.call false "_law_all" [.var 1,.var 2]) (.var 3)])]⟩
def zbq (P:Tab):Prop:=P "law"=some zmy∧zdq P∧zbn P∧zaV P∧zcH P∧zbW P∧zcK P
theorem zbq.self {P:Tab}(u:zbq P):P "law"=some zmy:=And.left u
theorem zbq.l_pair {P:Tab}(u:zbq P):zdq P:=And.left (And.right u)
theorem zbq.l_cell_at {P:Tab}(u:zbq P):zbn P:=And.left (And.right (And.right u))
theorem zbq.least_full {P:Tab}(u:zbq P):zaV P:=And.left (And.right (And.right (And.right u)))
theorem zbq.l_power {P:Tab}(u:zbq P):zcH P:=And.left (And.right (And.right (And.right (And.right u))))
theorem zbq.l_number {P:Tab}(u:zbq P):zbW P:=And.left (And.right (And.right (And.right (And.right (And.right u)))))
theorem zbq.l_all {P:Tab}(u:zbq P):zcK P:=And.right (And.right (And.right (And.right (And.right (And.right u)))))
noncomputable def tl:List (String × FnDef × List String):=[
 ("is_among",zds,["thing","low","high"]),
 ("how_many",zdt,["signs","size","found","turn"]),
 ("need_signs",zcs,["signs"]),
 ("need_size",zcT,["size"]),
 ("need_both",zcU,["signs","size"]),
 ("is_word",zeC,["signs","word"]),
 ("numbered",zdr,["signs","size","number","found","left","turn"]),
 ("all_words",zcW,["signs","size"]),
 ("is_falling",zcv,["word","place"]),
 ("pieces",zf4,["signs","size","found","part"]),
 ("least_full",zct,["signs","size","found","piece"]),
 ("need_book",zcV,["signs","size","book","met","word"]),
 ("onward",zf5,["book","found","word"]),
 ("come_to",zeE,["ways","start","found","waiting","joint"]),
 ("lack_of",zcu,["book","ways","ends","joint","other","found"]),
 ("goes_on",zeD,["left","joint","many","met","waiting","words","here","sign","other"]),
 ("next_sign",zcS,["left","joint","many","sign","other"]),
 ("ring_of",zez,["signs","size","book","left","word","first","joint","found","many","sign"]),
 ("_law_cell_at",zex,["_law_script","_law_k"]),
 ("_law_classes",zew,["_law_e","_law_found"]),
 ("_law_power",zhI,["_law_signs","_law_size","_law_found","_law_step"]),
 ("_law_pair",ziD,["_law_cell","_law_some"]),
 ("_law_number",zf3,["_law_ring","_law_place","_law_signs","_law_size","_law_found","_law_step"]),
 ("_law_words",zhH,["_law_signs","_law_size","_law_found","_law_step","_law_more","_law_word"]),
 ("_law_all",zoK,["_law_signs","_law_size","_law_e"]),
 ("law",zmy,["_law_script","_law_signs","_law_size","_law_ring","_law_numbers"])]
noncomputable def fns:List String:=["is_among","how_many","need_signs","need_size","need_both","is_word","numbered","all_words","is_falling","pieces","least_full","need_book","onward","come_to","lack_of","goes_on","next_sign","ring_of","_law_cell_at","_law_classes","_law_power","_law_pair","_law_number","_law_words","_law_all","law"]
theorem zcg:zao (tabOf tl):=rfl
theorem zdu:za0 (tabOf tl):=rfl
theorem zeF:za3 (tabOf tl):=And.intro rfl zcg
theorem zfe:zbe (tabOf tl):=And.intro rfl zcg
theorem zb2:zaa (tabOf tl):=And.intro rfl (And.intro zeF (And.intro zfe zdu))
theorem zg4:za9 (tabOf tl):=And.intro rfl zcg
theorem zga:zbg (tabOf tl):=rfl
theorem zfg:zag (tabOf tl):=And.intro rfl (And.intro zb2 (And.intro zdu zga))
theorem zeH:zbi (tabOf tl):=rfl
theorem ziI:zbb (tabOf tl):=And.intro rfl (And.intro zb2 (And.intro zfg zeH))
theorem zeG:zaV (tabOf tl):=And.intro rfl ziI
theorem zff:zam (tabOf tl):=And.intro rfl (And.intro zb2 zg4)
theorem ziJ:zcF (tabOf tl):=rfl
theorem zg6:zbV (tabOf tl):=rfl
theorem zg3:za4 (tabOf tl):=And.intro rfl (And.intro ziJ zg6)
theorem zg5:zbD (tabOf tl):=rfl
theorem zfd:zau (tabOf tl):=And.intro rfl zg5
theorem zg2:zaY (tabOf tl):=And.intro rfl (And.intro zff (And.intro zg3 zfd))
theorem zg1:zbn (tabOf tl):=rfl
theorem zjv:zcH (tabOf tl):=rfl
theorem zll:zdq (tabOf tl):=rfl
theorem ziH:zbW (tabOf tl):=rfl
theorem zju:zcG (tabOf tl):=rfl
theorem znl:zcK (tabOf tl):=And.intro rfl (And.intro zg2 zju)
theorem znk:zbq (tabOf tl):=And.intro rfl (And.intro zll (And.intro zg1 (And.intro zeG (And.intro zjv (And.intro ziH znl)))))
end L12
section
variable {n:Nat}{h:H}{F:Fn}
theorem zp8 {α:Type}{t:Watch}{x:Nat}{body:List V→H→RS}(l:List α) (c:α→V) (Inv:List α→List V→H→Prop) (hw:∀ p ρ g,Inv p ρ g→t.ok g=true)
  (hb:∀ p a q ρ g,l=p++a::q→Inv p ρ g→∃ ρ' g',body (ρ.set x (c a)) g=.ok .next ρ' g'∧Inv (p++[a]) ρ' g'){ρ:List V}(h0:Inv [] ρ h) :
  ∃ ρ' g',forL t (bind1 x) body (l.map c) ρ h=.ok .next ρ' g'∧Inv l ρ' g':=by
 have key:∀ (q p:List α) (ρ:List V) (g:H),l=p++q→Inv p ρ g→∃ ρ' g',forL t (bind1 x) body (q.map c) ρ g=.ok .next ρ' g'∧Inv l ρ' g':=by
  intro q
  induction q with
  |nil=>intro p ρ g e hi;rw[List.append_nil] at e;subst e;exact⟨ρ,g,by rw[List.map_nil,zkJ,if_pos (hw _ _ _ hi)],hi⟩
  |cons a q ih =>
   intro p ρ g e hi;obtain⟨ρ1,g1,e1,i1⟩:=hb p a q ρ g e hi;obtain⟨ρ2,g2,e2,i2⟩:=ih (p++[a]) ρ1 g1 (by rw[e,List.append_assoc];rfl) i1
   refine⟨ρ2,g2,?_,i2⟩;rw[List.map_cons,zie,if_pos (hw _ _ _ hi)];show(body (ρ.set x (c a)) g).then _=_;rw[e1,RS.then_next,e2]
 exact key l [] ρ h rfl h0
theorem zc1 {α:Type}{t:Watch}{x:Nat}{it:PIt}{body:List PS}{ρ:List V}{h':H}{l:List α}{c:α→V}(Inv:List α→List V→H→Prop)
  (hi:evIt true F ρ it h=.ok (l.map c,t) h') (hw:∀ p ρ g,Inv p ρ g→t.ok g=true) (h0:Inv [] ρ h')
  (hb:∀ p a q ρ g,l=p++a::q→Inv p ρ g→∃ ρ' g',exSs true F body (ρ.set x (c a)) g=.ok .next ρ' g'∧Inv (p++[a]) ρ' g') :
  ∃ ρ' g',exS true F (.for1 x it body) ρ h=.ok .next ρ' g'∧Inv l ρ' g':=by
 rw[s_for1',if_neg (by decide),hi,R.st_ok]
 exact zp8 (x:=x) (body:=fun ρ h=>exSs true F body ρ h) l c Inv hw hb h0
theorem zdy {s:PS}{ss:List PS}{ρ ρ':List V}{h':H}{r:R V}(e:exS true F s ρ h=.ok .next ρ' h') (k:(exSs true F ss ρ' h').out=r):(exSs true F (s::ss) ρ h).out=r:=by
 rw[ss_cons',e,RS.then_next];exact k
end
namespace L12
section
variable {P:Tab}{n:Nat}{h:H}{F:Fn}
noncomputable def rd (l:List Nat) (z p:Nat):List Nat:=(List.range z).map fun t=>l.getD ((p+t) % l.length) 0
theorem zmP (l:List Nat) (z p:Nat):(rd l z p).length=z:=by simp[rd]
theorem zoe {l:List Nat}(hl:0 < l.length) (i:Nat):l[i % l.length]?=some (l.getD (i % l.length) 0):=by
 have:=Nat.mod_lt i hl;simp[List.getElem?_eq_getElem this]
noncomputable def rws (l:List Nat) (z:Nat):List (List Nat):=(List.range l.length).map (rd l z)
theorem zjO (l:List Nat) (z:Nat):(rws l z).length=l.length:=by simp[rws]
theorem zkV {F:Fn}{ρ:List V}{f:String}{i j:Nat}{v w:V}(e:ρ[i]?=some v) (hv:v.val) (e':ρ[j]?=some w) (hw:w.val):evE true F ρ (.call false f [.var i,.var j]) h=pcall h (F true f [v,w] h):=by
 rw[zan,zde,zcL e hv,R.bind_ok,zde,zcL e' hw];rfl
theorem zh3 {m:Nat}(hm:m≤999999):m < turns:=by
 exact Nat.lt_of_le_of_lt hm (show 999999 < 1000000 by decide)
theorem zoj (h:H) (l:List Nat):frz h.length (h++[.list (V.nats l)]) (.ref h.length)=some (.lst (V.nats l)) :=
 zdi (Nat.le_refl _) (by simp)
theorem zbG {F:Fn}{ρ:List V}{e:PE}{es:List PE}{v:V}{vs:List V}(e1:evE true F ρ e h=.ok v h) (e2:evEs true F ρ es h=.ok vs h):evEs true F ρ (e::es) h=.ok (v::vs) h:=by rw[zde,e1,R.bind_ok,e2];rfl
theorem zrm {l:List Nat}{k:Nat}(hk:k < l.length):l[k]?=some (l.getD k 0):=by
 rw[List.getD_eq_getElem?_getD,List.getElem?_eq_getElem hk];rfl
theorem zqs (u:zbn P) (s:List Int) (k:Nat):pcall h (run P (n+1) true "_law_cell_at" [V.ints s,.int k] h)=.ok (.int (cellAt s k)) h:=by
 rw[zjf u n true s k h,zbv rfl]
noncomputable def zi (l:List Nat):List Int:=l.map fun d:Nat=>(d:Int)
theorem zmB {a b:List Nat}(e:zi a=zi b):a=b:=by
 unfold zi at e;exact List.map_inj_right (fun x y h=>Int.natCast_inj.1 h) |>.1 e
theorem zbl (l:List Nat):asInts (V.nats l)=some (zi l):=by
 induction l with
 |nil=>rfl
 |cons d l ih=>rw[zbR,asInts,ih];rfl
theorem zcn {α β:Type}{f:V→Option α}(c:β→V) (k:β→α):∀ (l:List β),(∀ b∈l,f (c b)=some (k b))→keyed f (l.map c)=some (l.map fun b=>(k b,c b))
 |[],_=>rfl
 |b::l,e=>by
  rw[List.map_cons,zeg,e b (List.mem_cons_self ..),zcn c k l fun x hx=>e x (List.mem_cons_of_mem _ hx)];rfl
theorem zqM {F:Fn}{ρ:List V}{a b:PE}{h:H}{v w:V}{t:Bool}(ea:evE true F ρ a h=.ok v h) (eb:evE true F ρ b h=.ok w h) (e:pyEq h v w=some t):evE true F ρ (.cmp .ne a b) h=.ok (.bool (!t)) h:=by
 rw[zaj,ea,R.bind_ok,eb,R.bind_ok];show R.opt (Option.map V.bool (Option.map (!·) (pyEq h v w))) h=_;rw[e];rfl
theorem zru {F:Fn}{ρ:List V}{a b:PE}{h:H}{v w:V}{t:Bool}(ea:evE true F ρ a h=.ok v h) (eb:evE true F ρ b h=.ok w h) (e:pyEq h v w=some t):evE true F ρ (.cmp .eq a b) h=.ok (.bool t) h:=by
 rw[zaj,ea,R.bind_ok,eb,R.bind_ok];show R.opt (Option.map V.bool (pyEq h v w)) h=_;rw[e];rfl
theorem zhY {F:Fn}{ρ:List V}{h:H}{e:PE}{vs:List V}(ee:evE true F ρ e h=.ok (.lst vs) h):evE true F ρ (.own e) h=.ok (.ref h.length) (h++[.list vs]):=by
 rw[zay,ee];rfl
end
noncomputable def turn (w:List Nat) (p:Nat):List Nat:=w.drop p++w.take p
theorem zln (w:List Nat) (p:Nat):(turn w p).length=w.length:=by
 unfold turn;rw[List.length_append,Nat.add_comm,← List.length_append,List.take_append_drop]
section
variable {q:Bool}{F:Fn}{ρ:List V}{h h':H}{e t:PE}{v:V}{x:Nat}{ss a b:List PS}
theorem zcI (he:evE q F ρ e h=.ok v h'):exSs q F (.asg x e::ss) ρ h=exSs q F ss (ρ.set x v) h':=by rw[ss_cons',s_asg',he];rfl
theorem zby (he:evE q F ρ e h=.ok v h'):exSs q F (.expr e::ss) ρ h=exSs q F ss ρ h':=by rw[ss_cons',s_expr',he];rfl
theorem zeR (ht:evE q F ρ t h=.ok (.bool true) h'):exSs q F (.ifs t a b::ss) ρ h=exSs q F (a++ss) ρ h':=by rw[ss_cons',s_ifs,ht,zdM];rfl
theorem zdT (ht:evE q F ρ t h=.ok (.bool false) h'):exSs q F (.ifs t a b::ss) ρ h=exSs q F (b++ss) ρ h':=by rw[ss_cons',s_ifs,ht,zdM];rfl
end
theorem zbs (h:H) (c:Cell):(h++[c])[h.length]?=some c:=by rw[List.getElem?_append_right (Nat.le_refl _),Nat.sub_self];rfl
theorem zdd (h:H) (c d:Cell):(h++[c]).set h.length d=h++[d]:=by rw[List.set_append_right _ _ (Nat.le_refl _),Nat.sub_self];rfl
theorem zcl (L:List (List Nat)):(V.lists L).length=L.length:=List.length_map ..
theorem zdA (A B:List (List Nat)):V.lists (A++B)=V.lists A++V.lists B:=List.map_append ..
theorem lists_plains (L:List (List Nat)):V.plains (V.lists L)=true:=zjU fun v hv=>by
 obtain⟨l,_,rfl⟩:=List.mem_map.1 hv;exact zcy l
theorem range_at {n:Nat}{p q:List Nat}{a:Nat}(h:List.range n=p++a::q):a=p.length∧p.length < n:=by
 have e:=congrArg (·[p.length]?) h;simp only[List.getElem?_append_right (Nat.le_refl _),Nat.sub_self,List.getElem?_cons_zero] at e;obtain⟨h1,h2⟩:=List.getElem?_eq_some_iff.1 e;rw[List.length_range] at h1;rw[List.getElem_range] at h2;exact⟨h2.symm,h1⟩
noncomputable def pre (w:List Nat):List Nat:=w.take (w.length - 1)
noncomputable def suf (w:List Nat):List Nat:=w.drop 1
theorem within {α:Type} [DecidableEq α]:∀ {a b:List α},a.Nodup→(∀ x∈a,x∈b)→a.length≤b.length
 |[],_,_,_=>Nat.zero_le _
 |x::a,b,hn,hs=>by
  rw[List.nodup_cons] at hn;have hx:=hs x (List.mem_cons_self ..);have:=within (a:=a) (b:=b.erase x) hn.2 fun y hy=>(List.mem_erase_of_ne (a:=y) (b:=x) fun e=>hn.1 (e ▸ hy)).2 (hs y (List.mem_cons_of_mem _ hy));rw[List.length_erase_of_mem hx] at this;exact Nat.add_le_of_le_sub (List.length_pos_of_mem hx) this
section
variable {P:Tab}{n:Nat}{h g:H}
theorem znY {F:Fn}{ρ:List V}{a b:PE}{x y:Nat}(ea:evE true F ρ a g=.ok (.int x) g) (eb:evE true F ρ b g=.ok (.int y) g) (hy:0 < y):evE true F ρ (.bin .mod a b) g=.ok (.int ((x % y:Nat):Int)) g :=
 (zmv ea eb (Int.natCast_ne_zero.2 (Nat.ne_of_gt hy))).trans (by rw[Int.fmod_eq_emod_of_nonneg _ (Int.natCast_nonneg y)];rfl)
theorem zq4 {F:Fn}{ρ:List V}{a b:PE}{x y:Nat}(ea:evE true F ρ a g=.ok (.int x) g) (eb:evE true F ρ b g=.ok (.int y) g) (hy:0 < y):evE true F ρ (.bin .fdiv a b) g=.ok (.int ((x / y:Nat):Int)) g :=
 (zk9 ea eb (Int.natCast_ne_zero.2 (Nat.ne_of_gt hy))).trans (by rw[zmj])
end
section
variable {P:Tab}{n:Nat}{h g:H}{F:Fn}{ρ:List V}
theorem zqQ {a e:PE}{v:V}{l:List Nat}{p:Nat}(ea:evE true F ρ a h=.ok v h) (hl:IsL h v l) (ee:evE true F ρ e h=.ok (.int p) h):evE true F ρ (.slice a .none (some e)) h=.ok (.lst (V.nats (l.take p))) h:=by
 rw[zas,ea,R.bind_ok,zpl,R.bind_ok,zpk,ee,R.bind_ok,R.bind_ok,zlr hl p,zgs];rfl
theorem zjK {a e:PE}{v:V}{l:List Nat}{p:Nat}(ea:evE true F ρ a h=.ok v h) (hl:IsL h v l) (ee:evE true F ρ e h=.ok (.int p) h):evE true F ρ (.slice a (some e) .none) h=.ok (.lst (V.nats (l.drop p))) h:=by
 rw[zas,ea,R.bind_ok,zpk,ee,R.bind_ok,R.bind_ok,zpl,R.bind_ok,ziM hl p,zgt];rfl
theorem zcJ {a:PE}{v:V}{vs:List V}(ea:evE true F ρ a h=.ok v h) (hl:litems h v=some vs):evE true F ρ (.bf .len a) h=.ok (.int vs.length) h:=by
 rw[znd (f:=.len) rfl,ea,R.bind_ok,zmX hl];rfl
theorem zm2 {a i:PE}{v x:V}{vs:List V}{j:Nat}(ea:evE true F ρ a h=.ok v h) (ei:evE true F ρ i h=.ok (.int j) h) (hl:litems h v=some vs) (hj:vs[j]?=some x):evE true F ρ (.idx a i) h=.ok x h:=by
 rw[zak,ea,R.bind_ok,ei,R.bind_ok,zh9 hl hj];rfl
theorem zlf {a b:PE}{v w:V}{vs ws:List V}(ea:evE true F ρ a h=.ok v h) (eb:evE true F ρ b h=.ok w h) (hv:litems h v=some vs) (hw:litems h w=some ws) (hl:vs.length+ws.length≤1000000):evE true F ρ (.bin .add a b) h=.ok (.lst (vs++ws)) h:=by
 rw[zbz,ea,R.bind_ok,eb,R.bind_ok,zqB hv hw hl];rfl
end
section
variable {P:Tab}{n:Nat}{h g:H}{F:Fn}{ρ:List V}
end
theorem zej {α β:Type}{lt:α→α→Bool}{lt':β→β→Bool}(f:α→β) (e:∀ a b,lt' (f a) (f b)=lt a b):∀ l:List α,isort lt' (l.map f)=(isort lt l).map f
 |[]=>rfl
 |x::xs=>by
  have ins:∀ l:List α,isort.insertBy' lt' (f x) (l.map f)=(isort.insertBy' lt x l).map f:=by
   intro l
   induction l with
   |nil=>rfl
   |cons y l ih =>
    rw[List.map_cons,zdK,zdK,e y x]
    cases lt y x with
    |true=>rw[if_pos rfl,if_pos rfl,ih,List.map_cons]
    |false=>rfl
  rw[List.map_cons,zn9,zej f e xs,ins];rfl
noncomputable def wlt (a b:List Nat):Bool:=lexLt (zi a) (zi b)
theorem zgo:Ord wlt:=⟨fun a=>zho _,fun a b c=>zkd _ _ _,fun a b h1 h2=>zmB (zhn _ _ h1 h2)⟩
noncomputable def srt (l:List (List Nat)):List (List Nat):=isort wlt l
theorem zcZ (l:List (List Nat)):(srt l).Perm l:=zbx l
theorem zmJ (l:List (List Nat)):(srt l).Pairwise fun a b=>wlt b a=false:=zdJ (lt:=wlt) (le:=fun a b=>wlt b a=false) (fun a b e=>zgo.asymm e) (fun a b e=>e) (fun a b c e1 e2=>zgo.le_tr e1 e2) l
theorem zgd {α:Type}{le:α→α→Prop}:∀ {a b:List α},a.Perm b→a.Pairwise le→b.Pairwise le→(∀ x y,le x y→le y x→x=y)→a=b
 |[],b,p,_,_,_=>(List.nil_perm.1 p).symm
 |x::a,[],p,_,_,_=>absurd p.length_eq (by simp)
 |x::a,y::b,p,ha,hb,anti=>by
  have hx:x∈y::b:=p.mem_iff.1 (List.mem_cons_self ..);have hy:y∈x::a:=p.mem_iff.2 (List.mem_cons_self ..);have e:x=y:=by
   rcases List.mem_cons.1 hx with e|hx'
   ·exact e
   ·rcases List.mem_cons.1 hy with e|hy'
    ·exact e.symm
    ·exact anti x y ((List.pairwise_cons.1 ha).1 y hy') ((List.pairwise_cons.1 hb).1 x hx')
  subst e;rw[zgd (List.perm_cons x |>.1 p) (List.pairwise_cons.1 ha).2 (List.pairwise_cons.1 hb).2 anti]
theorem zo3 {a b:List (List Nat)}(p:a.Perm b):srt a=srt b :=
 zgd ((zcZ a).trans (p.trans (zcZ b).symm)) (zmJ a) (zmJ b) fun x y h1 h2=>zgo.tot x y h2 h1
theorem zjH (l:List (List Nat)):(srt l).length=l.length:=(zcZ l).length_eq
theorem zns {l:List (List Nat)}{x:List Nat}:x∈srt l↔x∈l:=(zcZ l).mem_iff
theorem zlp {a b:List (List Nat)}(ha:a.Nodup) (hb:b.Nodup) (h:∀ x,x∈a↔x∈b):srt a=srt b:=zo3 ((List.perm_ext_iff_of_nodup ha hb).2 h)
theorem zjJ {c:List Nat→V}{ts:List (List Nat)}(h64:ts.length < 257):sortBy lexLt (ts.map fun t=>(zi t,c t))=some ((srt ts).map c):=by
 have e:isort (fun a b:List Int × V=>lexLt a.1 b.1) (ts.map fun t=>(zi t,c t))=(srt ts).map fun t=>(zi t,c t):=zej (lt:=wlt) (fun t=>(zi t,c t)) (fun a b=>rfl) ts;unfold sortBy;rw[if_pos,e,List.map_map];rfl
 rw[Bool.and_eq_true];refine⟨decide_eq_true (by rw[List.length_map];exact h64),?_⟩
 rw[List.all_eq_true];intro p hp;rw[List.all_eq_true];intro q hq;obtain⟨a,_,rfl⟩:=List.mem_map.1 hp;obtain⟨b,_,rfl⟩:=List.mem_map.1 hq;exact decide_eq_true fun e=>by rw[zmB e]
theorem zge (h:H) (ts:List (List Nat)) (h64:ts.length < 257):sortVs h (V.lists ts)=some (V.lists (srt ts)):=by
 cases ts with
 |nil=>rfl
 |cons t ts =>
  have e1:keyed keyI (V.lists (t::ts))=none:=rfl;have e2:keyed (keyL h) (V.lists (t::ts))=some ((t::ts).map fun t=>(zi t,.lst (V.nats t))):=zcn (f:=keyL h) (fun t:List Nat=>V.lst (V.nats t)) zi _ fun t z_=>zbl t;unfold sortVs;rw[e1,e2];exact zjJ h64
noncomputable def V.tw (l:List Nat):V:=.tup (V.nats l)
noncomputable def tups (ls:List (List Nat)):List V:=ls.map V.tw
theorem zdV (h:H) (ts:List (List Nat)) (h64:ts.length < 257) (h0:ts.length < 2∨∀ t∈ts,t≠[]):sortVs h (tups ts)=some (tups (srt ts)):=by
 cases ts with
 |nil=>rfl
 |cons t ts =>
  have e1:keyed keyI (tups (t::ts))=none:=rfl;have e2:keyed (keyL h) (tups (t::ts))=none:=rfl;have e4:∀ t:List Nat,t≠[]→keyT1 (V.tw t)=some (zi t):=fun t ht=>by
   cases t with
   |nil=>exact absurd rfl ht
   |cons d l=>exact zbl (d::l)
  unfold sortVs;rw[e1,e2]
  by_cases ha:∀ x∈t::ts,x≠[]
  ·have e3:keyed keyT1 (tups (t::ts))=some ((t::ts).map fun t=>(zi t,V.tw t)):=zcn (f:=keyT1) V.tw zi _ fun t ht=>e4 t (ha t ht)
   show(match keyed keyT1 (tups (t::ts)) with
    |some l=>sortBy lexLt l
    |none=>if(tups (t::ts)).length < 2 then some (tups (t::ts)) else Option.none)=_
   rw[e3];exact zjJ h64
  ·have h1:=h0.resolve_right ha
   have e:ts=[]:=List.eq_nil_of_length_eq_zero (Nat.lt_one_iff.1 (Nat.lt_of_succ_lt_succ h1));subst e;have e5:t=[]:=Classical.byContradiction fun e=>ha fun x hx=>by rw[List.mem_singleton.1 hx];exact e
   subst e5
   rfl
theorem zj9 {h:H}{L:List (V × List Nat)}{p:V × List Nat}(hL:∀ q∈p::L,IsL h q.1 q.2):∃ q∈p::L,minVs h ((p::L).map (·.1))=some q.1∧∀ t∈p::L,wlt t.2 q.2=false:=by
 have key:∀ (L:List (V × List Nat)) (p:V × List Nat),∃ q∈p::L,zcj (zi p.2) p.1 (L.map fun t=>(zi t.2,t.1))=q.1∧∀ t∈p::L,wlt t.2 q.2=false:=by
  intro L
  induction L with
  |nil=>intro p;exact⟨p,List.mem_cons_self ..,rfl,fun t ht=>by rw[List.mem_singleton.1 ht];exact zgo.irr _⟩
  |cons a L ih =>
   intro p;rw[List.map_cons,zeb]
   cases hlt:lexLt (zi a.2) (zi p.2) with
   |true =>
    obtain⟨q,hq,e,hm⟩:=ih a;refine⟨q,List.mem_cons_of_mem _ hq,e,fun t ht=>?_⟩
    rcases List.mem_cons.1 ht with rfl|ht
    ·exact zgo.le_tr (hm a (List.mem_cons_self ..)) (zgo.asymm hlt)
    ·exact hm t ht
   |false =>
    obtain⟨q,hq,e,hm⟩:=ih p;refine⟨q,?_,e,fun t ht=>?_⟩
    ·rcases List.mem_cons.1 hq with rfl|hq
     ·exact List.mem_cons_self ..
     ·exact List.mem_cons_of_mem _ (List.mem_cons_of_mem _ hq)
    ·rcases List.mem_cons.1 ht with rfl|ht
     ·exact hm _ (List.mem_cons_self ..)
     ·rcases List.mem_cons.1 ht with rfl|ht
      ·exact zgo.le_tr (hm p (List.mem_cons_self ..)) hlt
      ·exact hm t (List.mem_cons_of_mem _ ht)
 obtain⟨q,hq,e,hm⟩:=key L p;refine⟨q,hq,?_,hm⟩;unfold minVs;rw[zcn (f:=keyL h) (fun t:V × List Nat=>t.1) (fun t=>zi t.2) (p::L) fun t ht=>by
  unfold keyL;rw[show litems h t.1=some (V.nats t.2) from hL t ht];exact zbl t.2]
 exact congrArg some e
theorem zdY {h:H}{v:V}{vs:List V}(hl:litems h v=some vs):sitems h v=some vs:=by
 rcases zah hl with rfl|⟨i,rfl,hc⟩
 ·rfl
 ·show(match (match h[i]? with|some (.dict es)=>some es|_=>Option.none) with|some es=>some (es.map Prod.fst)|Option.none=>litems h (.ref i))=_
  rw[hc];exact hl
theorem zdZ {h:H}{r:Nat}{es:List (V × V)}(hc:h[r]?=some (.dict es)):sitems h (.ref r)=some (es.map (·.1)):=by
 show(match (match h[r]? with|some (.dict es)=>some es|_=>Option.none) with|some es=>some (es.map Prod.fst)|Option.none=>litems h (.ref r))=_
 rw[hc]
theorem zch {F:Fn}{ρ:List V}{h:H}{a:PE}{v:V}{vs S:List V}(ea:evE true F ρ a h=.ok v h) (hl:sitems h v=some vs) (hs:sortVs h vs=some S):evE true F ρ (.bf .sorted a) h=.ok (.lst S) h:=by
 rw[znd (f:=.sorted) rfl,ea,R.bind_ok];show R.opt ((sitems h v).bind fun vs=>(sortVs h vs).map V.lst) h=_;rw[hl,Option.bind_some,hs];rfl
theorem zh2:∀ {a b:List Nat},V.nats a=V.nats b→a=b
 |[],[],_=>rfl
 |[],_::_,e=>nomatch e
 |_::_,[],e=>nomatch e
 |x::a,y::b,e=>by
  rw[zbR,zbR] at e;obtain⟨e1,e2⟩:=List.cons.inj e;rw[zh2 e2,Int.natCast_inj.1 (V.int.inj e1)]
theorem zjw {a b:List Nat}(e:V.tw a=V.tw b):a=b:=zh2 (V.tup.inj e)
theorem zb9 (t:List Nat):keyOk (V.tw t)=true:=by
 show(asInts (V.nats t)).isSome=true;rw[zbl];rfl
theorem zgN (k k' v:V):∀ es:List (V × V),dfind k (dput k' v es)=if k=k' then some v else dfind k es
 |[]=>rfl
 |(k0,v0)::es=>by
  rw[zgO]
  by_cases e:k'=k0
  ·rw[if_pos e,zcb,zcb]
   subst e
   by_cases e2:k=k'
   ·rw[if_pos e2,if_pos e2]
   ·rw[if_neg e2,if_neg e2,if_neg e2]
  ·rw[if_neg e,zcb,zcb,zgN k k' v es]
   by_cases e2:k=k0
   ·subst e2
    rw[if_pos rfl,if_neg (fun q=>e q.symm),if_pos rfl]
   ·rw[if_neg e2,if_neg e2]
theorem ziq (k v:V):∀ es:List (V × V),(dput k v es).length≤es.length+1
 |[]=>Nat.le_refl _
 |(k',v')::es=>by
  rw[zgO]
  by_cases e:k=k'
  ·rw[if_pos e];exact Nat.le_succ _
  ·rw[if_neg e,List.length_cons,List.length_cons];exact Nat.succ_le_succ (ziq k v es)
noncomputable def dk (f:List Nat→V) (K:List (List Nat)):List (V × V):=K.map fun j=>(V.tw j,f j)
theorem zbC (f:List Nat→V) (t:List Nat):∀ K:List (List Nat),dfind (V.tw t) (dk f K)=if t∈K then some (f t) else Option.none
 |[]=>rfl
 |j::K=>by
  show(if V.tw t=V.tw j then some (f j) else dfind (V.tw t) (dk f K))=_
  by_cases e:t=j
  ·subst e;rw[if_pos rfl,if_pos (List.mem_cons_self ..)]
  ·rw[if_neg fun q=>e (zjw q),zbC f t K]
   by_cases h:t∈K
   ·rw[if_pos h,if_pos (List.mem_cons_of_mem _ h)]
   ·rw[if_neg h,if_neg fun q=>(List.mem_cons.1 q).elim e h]
theorem zir (f:List Nat→V) (K:List (List Nat)) (t:List Nat):dk f (K++[t])=dk f K++[(V.tw t,f t)]:=List.map_append ..
theorem dput_new {f:List Nat→V}{t:List Nat}{v:V}:∀ {K:List (List Nat)},t ∉ K→dput (V.tw t) v (dk f K)=dk f K++[(V.tw t,v)]
 |[],_=>rfl
 |j::K,h=>by
  show(if V.tw t=V.tw j then _ else(V.tw j,f j)::dput (V.tw t) v (dk f K))=_;rw[if_neg fun q=>h (by rw[zjw q];exact List.mem_cons_self ..),dput_new fun q=>h (List.mem_cons_of_mem _ q)];rfl
theorem ze2 (f:List Nat→V) (K:List (List Nat)):(dk f K).length=K.length:=List.length_map ..
theorem zhv (f:List Nat→V) (K:List (List Nat)):(dk f K).map (·.1)=tups K:=by
 unfold dk tups;rw[List.map_map];rfl
section
variable {P:Tab}{n:Nat}{h g:H}{F:Fn}{ρ:List V}
theorem zfk {o i e:PE}{ss:List PS}{r:Nat}{t:List Nat}{v:V}{es:List (V × V)}(ee:evE true F ρ e h=.ok v h) (eo:evE true F ρ o h=.ok (.ref r) h) (ei:evE true F ρ i h=.ok (V.tw t) h) (hr:h[r]?=some (.dict es)) (hl:es.length≤1000) :
  exSs true F (.setIdx o i e::ss) ρ h=exSs true F ss ρ (h.set r (.dict (dput (V.tw t) v es))):=by
 have e:seti h (.ref r) (V.tw t) v=some (h.set r (.dict (dput (V.tw t) v es))):=by
  unfold seti;dsimp only;rw[hr];dsimp only;rw[zb9,decide_eq_true hl];rfl
 rw[ss_cons',zmQ,ee,R.st_ok,eo,R.st_ok,ei,R.st_ok,e];rfl
theorem zkx {r:Nat}{t:List Nat}{es:List (V × V)}(hr:h[r]?=some (.dict es)):pyIn h (V.tw t) (.ref r)=some (dfind (V.tw t) es).isSome:=by
 show(match h[r]? with|some (.dict es)=>if keyOk (V.tw t) then some (dfind (V.tw t) es).isSome else Option.none|_=>isIn h (V.tw t) (.ref r))=_
 rw[hr];show(if keyOk (V.tw t) then some (dfind (V.tw t) es).isSome else Option.none)=_;rw[zb9];rfl
theorem zrl {a b:PE}{r:Nat}{t:List Nat}{f:List Nat→V}{K:List (List Nat)}(ea:evE true F ρ a h=.ok (V.tw t) h) (eb:evE true F ρ b h=.ok (.ref r) h) (hr:h[r]?=some (.dict (dk f K))):evE true F ρ (.cmp .isin a b) h=.ok (.bool (decide (t∈K))) h:=by
 rw[zaj,ea,R.bind_ok,eb,R.bind_ok];show R.opt ((pyIn h (V.tw t) (.ref r)).map V.bool) h=_;rw[zkx hr,zbC]
 by_cases e:t∈K
 ·rw[if_pos e,decide_eq_true e];rfl
 ·rw[if_neg e,decide_eq_false e];rfl
theorem zgr {a b:PE}{r:Nat}{t:List Nat}{f:List Nat→V}{K:List (List Nat)}(ea:evE true F ρ a h=.ok (V.tw t) h) (eb:evE true F ρ b h=.ok (.ref r) h) (hr:h[r]?=some (.dict (dk f K))):evE true F ρ (.cmp .notIn a b) h=.ok (.bool (!decide (t∈K))) h:=by
 rw[zaj,ea,R.bind_ok,eb,R.bind_ok];show R.opt (((pyIn h (V.tw t) (.ref r)).map (!·)).map V.bool) h=_;rw[zkx hr,zbC]
 by_cases e:t∈K
 ·rw[if_pos e,decide_eq_true e];rfl
 ·rw[if_neg e,decide_eq_false e];rfl
theorem zdv {a:PE}{v:V}{l:List Nat}(ea:evE true F ρ a h=.ok v h) (hl:IsL h v l):evE true F ρ (.bf .tuple a) h=.ok (V.tw l) h:=by
 rw[znd (f:=.tuple) rfl,ea,R.bind_ok]
 rcases zah hl with rfl|⟨i,rfl,hc⟩
 ·rfl
 ·show R.opt (Option.map _ (match h[i]? with|some (.list vs)=>some vs|_=>Option.none)) h=_
  rw[hc];rfl
structure HB (h:H) (bv:V) (L:List (V × List Nat)):Prop where
 it:litems h bv=some (L.map (·.1))
 wd:∀ p∈L,IsL h p.1 p.2
theorem HB.app {bv:V}{L:List (V × List Nat)}(b:HB h bv L) (k:H):HB (h++k) bv L:=⟨ze0 b.it k,fun p hp=>(b.wd p hp).app k⟩
structure GW (S Z:Nat) (B:List (List Nat)):Prop where
 nodup:B.Nodup
 ne:B≠[]
 len:∀ w∈B,w.length=Z
 lt:∀ w∈B,∀ d∈w,d < S
 few:B.length≤1000
theorem zrx {a b c:PE}{x y z:Bool}(ea:evE true F ρ a h=.ok (.bool x) h) (eb:evE true F ρ b h=.ok (.bool y) h) (ec:evE true F ρ c h=.ok (.bool z) h):evE true F ρ (.or [a,b,c]) h=.ok (.bool (x||(y||z))) h:=by
 rw[zaE,znK,ea,R.bind_ok]
 cases x with
 |true=>rfl
 |false =>
  show evOr true F ρ [b,c] h=_;rw[znK,eb,R.bind_ok]
  cases y with
  |true=>rfl
  |false=>exact ec
theorem zdz {a:PE}{x:Bool}(ea:evE true F ρ a h=.ok (.bool x) h):evE true F ρ (.not a) h=.ok (.bool (!x)) h:=by rw[zbM,ea];rfl
theorem zqK {a b:PE}{x y:Bool}(ea:evE true F ρ a h=.ok (.bool x) h) (eb:evE true F ρ b h=.ok (.bool y) h):evE true F ρ (.or [a,b]) h=.ok (.bool (x||y)) h:=by
 rw[zaE,znK,ea,R.bind_ok]
 cases x with
 |true=>rfl
 |false=>exact eb
theorem zks {a:PE}{v:V}{vs:List V}(ea:evE true F ρ a h=.ok v h) (hl:litems h v=some vs):evE true F ρ (.isinst a [.list]) h=.ok (.bool true) h:=by
 rw[zaJ,ea,R.bind_ok,show isTys h v [.list]=some true by unfold isTys;rw[zkt hl]];rfl
theorem zfO {w:V}{vs:List V}(hl:litems h w=some vs):∃ t:Watch,∀ k,iterOf (h++k) w=some (vs,t)∧t.ok (h++k)=true:=by
 rcases zah hl with rfl|⟨i,rfl,hc⟩
 ·exact⟨Option.none,fun k=>⟨rfl,rfl⟩⟩
 ·refine⟨some (i,.list vs),fun k=>?_⟩
  have e:(h++k)[i]?=some (.list vs):=by rw[List.getElem?_append_left (List.getElem?_eq_some_iff.1 hc).1];exact hc
  refine⟨?_,decide_eq_true e⟩;show(match (h++k)[i]? with|some (.list vs)=>some (vs,some (i,Cell.list vs))|some (.dict es)=>some (es.map Prod.fst,some (i,.dict es))|none=>Option.none)=_
  rw[e]
structure Fit (S Z:Nat):Prop where
 s1:1≤S
 s9:S≤9
 z1:1≤Z
 z8:Z≤8
 few:S ^ Z≤256
theorem zmY {a b c:PE}{x y z:Nat}(ea:evE true F ρ a h=.ok (.int x) h) (eb:evE true F ρ b h=.ok (.int y) h) (ec:evE true F ρ c h=.ok (.int z) h) (h1:x≤y) (h2:y≤z):evE true F ρ (.cmp2 .le .le a b c) h=.ok (.bool true) h:=by
 rw[zaD,ea,R.bind_ok,eb,R.bind_ok,cmp_le_int,decide_eq_true (Int.ofNat_le.2 h1)];show(evE true F ρ c h).bind _=_;rw[ec,R.bind_ok,cmp_le_int,decide_eq_true (Int.ofNat_le.2 h2)];rfl
theorem zhG (u:zao P){a lo hi:Nat}(h1:lo≤a) (h2:a≤hi):pcall h (run P (n+1) true "is_among" [.int a,.int lo,.int hi] h)=.ok (.bool true) h:=by
 rw[start u.self rfl (ρ:=[.int a,.int lo,.int hi]) rfl (zbA (zmY (F:=run P n) (ρ:=[.int a,.int lo,.int hi]) (h:=h) (a:=.var 1) (b:=.var 0) (c:=.var 2) rfl rfl rfl h1 h2)),pcall_bool]
theorem zk8 (u:zaa P){S Z:Nat}(f:Fit S Z):pcall h (run P (n+3) true "need_both" [.int S,.int Z] h)=.ok .none h:=by
 have e1:pcall h (run P (n+2) true "need_signs" [.int S] h)=.ok .none h:=by
  rw[start u.need_signs.self rfl (ρ:=[.int S]) rfl (zdD (h':=h) (r:=.ok .none h) (zdz (zeq (b:=.int 1) (c:=.glob "MOST_SIGNS" 9) (zcL (v:=.int S) rfl trivial) rfl rfl (zhG (n:=n) u.need_signs.is_among (lo:=1) (hi:=9) f.s1 f.s9))) rfl),pcall_none]
 have e2:pcall h (run P (n+2) true "need_size" [.int Z] h)=.ok .none h:=by
  rw[start u.need_size.self rfl (ρ:=[.int Z]) rfl (zdD (h':=h) (r:=.ok .none h) (zdz (zeq (b:=.int 1) (c:=.glob "MOST_SIZE" 8) (zcL (v:=.int Z) rfl trivial) rfl rfl (zhG (n:=n) u.need_size.is_among (lo:=1) (hi:=8) f.z1 f.z8))) rfl),pcall_none]
 have e3:evE true (run P (n+2)) [.int S,.int Z] (.cmp .gt (.call false "how_many" [.var 0,.var 1]) (.glob "MOST_WORDS" 256)) h=.ok (.bool false) h:=by
  rw[zaj,zcq (a:=.var 0) (b:=.var 1) (v:=.int S) (w:=.int Z) rfl rfl (by rw[zel u.how_many (n+1) S (Nat.lt_of_le_of_lt f.s9 (by decide)) Z (Nat.le_trans f.z8 (by decide)),pcall_int]),R.bind_ok]
  show R.opt ((pyCmp .gt h (.int ((S:Int) ^ Z)) (.int 256)).map V.bool) h=_;rw[cmp_gt_int,← Int.natCast_pow,decide_eq_false (p:=(256:Int) < ((S ^ Z:Nat):Int)) (Int.not_lt.2 (Int.ofNat_le.2 f.few))];rfl
 rw[start u.self rfl (ρ:=[.int S,.int Z]) rfl (zd7 (zgR (a:=.var 0) (zcL (v:=.int S) rfl trivial) e1) (zd7 (zgR (a:=.var 1) (zcL (v:=.int Z) rfl trivial) e2) (zdD (r:=.ok .none h) e3 rfl))),pcall_none]
theorem zoY (u:za9 P){S:Nat}{w:V}{l:List Nat}(hl:IsL h w l) (h1:1≤l.length) (h8:l.length≤8) (hd:∀ d∈l,d < S):pcall h (run P (n+2) true "is_word" [.int S,w] h)=.ok (.bool true) h:=by
 have v1:evE true (run P (n+1)) [.int S,w,.undef] (.var 1) h=.ok w h:=zcL rfl hl.val;have ln:=zcJ v1 hl;rw[nats_length] at ln;obtain⟨t,ht,hto⟩:=zn8 hl;have hit:evIt true (run P (n+1)) [.int S,w,.undef] (.seq (.var 1)) h=.ok (l.map V.nat,t) h:=by rw[zpo,v1,R.bind_ok,ht];rfl
 have ec:=zeo (F:=run P (n+1)) (ρ:=[.int S,w,.undef]) (elt:=.call false "is_among" [.var 2,.int 0,.bin .sub (.var 0) (.int 1)]) (x:=2) hit hto (fun z_=>.bool true) (fun d hm=>zeq (v:=.int d) (w:=.int 0) (x:=.int ((S - 1:Nat):Int)) rfl rfl ((zoG (x:=S) (y:=1) rfl rfl).trans (by rw[Int.ofNat_sub (Nat.lt_of_le_of_lt (Nat.zero_le _) (hd d hm))];rfl)) (zhG (n:=n) u.is_among (lo:=0) (Nat.zero_le _) (Nat.le_sub_one_of_lt (hd d hm)))) (zea (by rw[List.length_map];exact Nat.le_trans h8 (by decide)))
 rw[start u.self rfl (ρ:=[.int S,w,.undef]) rfl (zdD (zqK (zdz (zks v1 hl)) (zdz (zmY (x:=1) rfl ln (z:=8) rfl h1 h8))) (zbA (v:=.bool true) ?_)),pcall_bool];rw[znd (f:=.all) rfl,ec,R.bind_ok,bf_all,asBools_map l fun z_=>true];show R.ok (V.bool ((l.map fun z_=>true).all id)) h=_;rw[List.all_map];exact congrArg (fun b=>R.ok (V.bool b) h) (List.all_eq_true.2 fun z_ z_=>rfl)
theorem zlN (u:zam P){S Z:Nat}{bv:V}{L:List (V × List Nat)}(hf:Fit S Z) (b:HB h bv L) (w:GW S Z (L.map (·.2))):run P (n+4) true "need_book" [.int S,.int Z,bv] h=.ok .none (h++[.dict (dk (fun z_=>.bool true) (L.map (·.2)))]):=by
 have hv:=(zd6 b.it).val;refine start u.self rfl (ρ:=[.int S,.int Z,bv,.undef,.undef]) rfl ?_;refine zd7 (h':=h) ?_ (zdD (h':=h) ((zqK (zdz (zks (a:=.var 2) (zcL (v:=bv) rfl hv) b.it)) (zk7 (y:=0) (zcJ (a:=.var 2) (zcL (v:=bv) rfl hv) b.it) (b:=.int 0) rfl)).trans ?_) (zbr (v:=.ref h.length) (h':=h++[.dict (dk (fun z_=>.bool true) [])]) rfl (ρ':=[.int S,.int Z,bv,.ref h.length,.undef]) rfl ?_))
 ·rw[zkV (v:=.int S) (w:=.int Z) rfl trivial rfl trivial,zk8 u.need_both hf]
 ·have:¬ (((L.map (·.1)).length:Nat):Int)=0:=fun e=>w.ne (by
   rw[List.length_map] at e;rw[List.eq_nil_of_length_eq_zero (Int.natCast_eq_zero.1 e)];rfl)
  rw[decide_eq_false this];rfl
 ·obtain⟨t,ht⟩:=zfO b.it
  refine zhh (l:=L) (c:=(·.1)) (t:=t) (fun z_ w=>[.int S,.int Z,bv,.ref h.length,w]) (fun p=>h++[.dict (dk (fun z_=>.bool true) (p.map (·.2)))]) .undef (h':=h++[.dict (dk (fun z_=>.bool true) [])]) ?_ (fun p=>(ht _).2) rfl rfl ?_ fun w=>rfl
  ·rw[i_seq,zcL (v:=bv) rfl hv,R.bind_ok,(ht _).1];rfl
  ·intro p a q x hp
   have ha:a∈L:=by rw[hp];exact List.mem_append_right _ (List.mem_cons_self ..)
   have hm:a.2∈L.map (·.2):=List.mem_map.2 ⟨a,ha,rfl⟩;have new:a.2 ∉ p.map (·.2):=fun e=>by
    have:=w.nodup;rw[hp,List.map_append,List.nodup_append] at this;exact this.2.2 _ e _ (List.mem_cons_self ..) rfl
   have hlen:p.length≤1000:=by
    have:=w.few;rw[hp,List.length_map,List.length_append] at this;exact Nat.le_trans (Nat.le_add_right ..) this
   show exSs true (run P (n+3)) _ [.int S,.int Z,bv,.ref h.length,a.1] _=.ok .next [.int S,.int Z,bv,.ref h.length,a.1] _;generalize hd:dk (fun z_=>V.bool true) (p.map (·.2))=es;have hr:(h++[Cell.dict es])[h.length]?=some (.dict (dk (fun z_=>V.bool true) (p.map (·.2)))):=by rw[hd];exact zbs _ _
   have hw:=(b.wd a ha).app [Cell.dict es];have v4:evE true (run P (n+3)) [.int S,.int Z,bv,.ref h.length,a.1] (.var 4) (h++[.dict es])=.ok a.1 (h++[.dict es]):=zcL rfl hw.val;have c1:evE true (run P (n+3)) [.int S,.int Z,bv,.ref h.length,a.1] (.call false "is_word" [.var 0,.var 4]) (h++[.dict es])=.ok (.bool true) (h++[.dict es]):=by
    rw[zkV (v:=.int S) (w:=a.1) rfl trivial rfl hw.val,zoY (n:=n+1) u.is_word hw (by rw[w.len _ hm];exact hf.z1) (by rw[w.len _ hm];exact hf.z8) (w.lt _ hm)]
   have c2:=zqM (F:=run P (n+3)) (ρ:=[.int S,.int Z,bv,.ref h.length,a.1]) (a:=.bf .len (.var 4)) (b:=.var 1) (w:=.int Z) (t:=true) (zcJ v4 hw) rfl (by rw[pyEq_int,nats_length,w.len _ hm,decide_eq_true rfl])
   have c3:=zrl (F:=run P (n+3)) (ρ:=[.int S,.int Z,bv,.ref h.length,a.1]) (a:=.bf .tuple (.var 4)) (b:=.var 3) (zdv v4 hw) rfl hr;rw[decide_eq_false new] at c3;rw[zdT (zrx (zdz c1) c2 c3)];show exSs true (run P (n+3)) [.setIdx (.var 3) (.bf .tuple (.var 4)) (.bool true)] _ _=_;rw[zfk (o:=.var 3) rfl rfl (zdv v4 hw) hr (by rw[ze2,List.length_map];exact hlen),dput_new new,zdd,List.map_append,List.map_singleton,zir];rfl
theorem zpI (u:zam P){S Z:Nat}{bv:V}{L:List (V × List Nat)}(hf:Fit S Z) (b:HB h bv L) (w:GW S Z (L.map (·.2))):pcall h (run P (n+4) true "need_book" [.int S,.int Z,bv] h)=.ok .none h:=by
 rw[zlN u hf b w,zd5 _ _ rfl]
end
def Ext (h g:H):Prop:=g.take h.length=h
theorem Ext.refl (h:H):Ext h h:=List.take_length
theorem Ext.app {h g:H}(e:Ext h g) (k:H):Ext h (g++k):=by
 unfold Ext at *
 rw[List.take_append_of_le_length,e];rw[←e,List.length_take];exact Nat.min_le_right ..
theorem Ext.set {h g:H}(e:Ext h g){r:Nat}(hr:h.length≤r) (c:Cell):Ext h (g.set r c):=by
 unfold Ext at *
 rw[List.take_set_of_le hr,e]
theorem Ext.len {h g:H}(e:Ext h g):h.length≤g.length:=by
 unfold Ext at e;rw[←e,List.length_take];exact Nat.min_le_right ..
theorem Ext.eq {h g:H}(e:Ext h g):h++g.drop h.length=g:=by
 unfold Ext at e
 conv=>lhs;lhs;rw[←e]
 exact List.take_append_drop ..
theorem Ext.L {h g:H}(e:Ext h g){v:V}{l:List Nat}(i:IsL h v l):IsL g v l:=by rw[←e.eq];exact i.app _
theorem Ext.B {h g:H}(e:Ext h g){v:V}{L:List (V × List Nat)}(i:HB h v L):HB g v L:=by rw[←e.eq];exact i.app _
theorem Ext.W {h g:H}(e:Ext h g){t:Watch}{v:V}{vs:List V}(i:∀ k,iterOf (h++k) v=some (vs,t)∧t.ok (h++k)=true):iterOf g v=some (vs,t)∧t.ok g=true:=by rw[←e.eq];exact i _
theorem Ext.tr {h g k:H}(e1:Ext h g) (e2:Ext g k):Ext h k:=by
 unfold Ext at *
 have:=congrArg (List.take h.length) e2;rw[List.take_take,Nat.min_eq_left (Ext.len e1),e1] at this;exact this
noncomputable def touch (K:List (List Nat)) (j:List Nat):List (List Nat):=if j∈K then K else K++[j]
theorem zbK {K:List (List Nat)}{j x:List Nat}:x∈touch K j↔x∈K∨x=j:=by
 unfold touch
 by_cases h:j∈K
 ·rw[if_pos h];exact⟨.inl,fun q=>q.elim id fun e=>e ▸ h⟩
 ·rw[if_neg h,List.mem_append,List.mem_singleton]
theorem zdR (K:List (List Nat)) (j:List Nat):(touch K j).length≤K.length+1:=by
 unfold touch
 by_cases h:j∈K
 ·rw[if_pos h];exact Nat.le_succ _
 ·rw[if_neg h,List.length_append];exact Nat.le_refl _
structure Ways (b:Nat) (g:H) (d:Nat) (K:List (List Nat)) (r:List Nat→Nat) (T:List Nat→List V):Prop where
 dc:g[d]?=some (.dict (dk (fun j=>.ref (r j)) K))
 ls:∀ j∈K,g[r j]?=some (.list (T j))
 nd:K.Nodup
 inj:∀ i∈K,∀ j∈K,r i=r j→i=j
 lo:∀ j∈K,b≤r j
section
variable {P:Tab}{n b d:Nat}{h g:H}{F:Fn}{ρ:List V}{K:List (List Nat)}{r:List Nat→Nat}{T:List Nat→List V}
theorem zjM {o k e:PE}{j:List Nat}{v:V}{res:R V}(eo:evE true F ρ o g=.ok (.ref d) g) (ek:evE true F ρ k g=.ok (V.tw j) g){es:List (V × V)}(hd:g[d]?=some (.dict es)) (ee:evE true F ρ e g=.ok v h){es':List (V × V)}(hd':h[d]?=some (.dict es')) (hr:(match dfind (V.tw j) es' with
  |some v=>R.ok v h
  |Option.none=>if es'.length≤1000 then .ok v (h.set d (.dict (es'++[(V.tw j,v)]))) else .bad)=res):evE true F ρ (.setdef o k e) g=res:=by
 have hc:dcell g (.ref d)=true:=by
  show(match g[d]? with|some (.dict _)=>true|_=>false)=true
  rw[hd]
 rw[zaG,eo,R.bind_ok,if_pos hc,ek,R.bind_ok,ee,R.bind_ok];show(match h[d]? with|some (.dict es)=>if keyOk (V.tw j) then _ else R.bad|_=>.bad)=_
 rw[hd'];show(if keyOk (V.tw j) then _ else R.bad)=_;rw[zb9,if_pos rfl];exact hr
theorem Ways.touch (W:Ways b g d K r T) (j:List Nat) (hb:b≤g.length) (hK:K.length≤1000) (hT:j ∉ K→T j=[]) (hbd:b≤d):∃ g' r',Ways b g' d (L12.touch K j) r' T∧b≤g'.length∧(∀ h,h.length≤b→Ext h g→Ext h g') ∧
  ∀ (F:Fn) (ρ:List V) (o k:PE),evE true F ρ o g=.ok (.ref d) g→evE true F ρ k g=.ok (V.tw j) g→evE true F ρ (.setdef o k (.own (.list []))) g=.ok (.ref (r' j)) g':=by
 have up:∀ i,i < g.length→(g++[Cell.list []])[i]?=g[i]?:=fun i hi=>List.getElem?_append_left hi;have lt:∀ {i:Nat}{c:Cell},g[i]?=some c→i < g.length:=fun e=>(List.getElem?_eq_some_iff.1 e).1;have hd1:(g++[Cell.list []])[d]?=some (.dict (dk (fun j=>.ref (r j)) K)):=(up _ (lt W.dc)).trans W.dc
 by_cases hj:j∈K
 ·refine⟨g++[.list []],r,?_,?_,fun h hh e=>e.app _,fun F ρ o k eo ek=>?_⟩
  ·unfold L12.touch;rw[if_pos hj]
   exact⟨hd1,fun i hi=>(up _ (lt (W.ls i hi))).trans (W.ls i hi),W.nd,W.inj,W.lo⟩
  ·rw[List.length_append];exact Nat.le_trans hb (Nat.le_add_right ..)
  ·refine zjM eo ek W.dc (h:=g++[.list []]) (v:=.ref g.length) rfl hd1 ?_
   rw[zbC,if_pos hj]
 ·refine⟨(g++[Cell.list []]).set d (.dict (dk (fun j=>.ref (r j)) K++[(V.tw j,.ref g.length)])),fun i=>if i=j then g.length else r i,?_,?_,fun h hh e=>(e.app _).set (Nat.le_trans hh hbd) _,fun F ρ o k eo ek=>?_⟩
  ·unfold L12.touch;rw[if_neg hj]
   have ne:∀ {i:Nat}{vs:List V},(g++[Cell.list []])[i]?=some (.list vs)→d≠i:=fun e q=>by subst q;rw[hd1] at e;cases e
   have rk:∀ i∈K,(if i=j then g.length else r i)=r i:=fun i hi=>if_neg fun(e:i=j)=>hj (e ▸ hi);refine⟨?_,fun i hi=>?_,?_,fun x hx y hy e=>?_,fun i hi=>?_⟩
   ·rw[List.getElem?_set_self (by rw[List.length_append];exact Nat.lt_add_right _ (lt W.dc)),zir,if_pos rfl]
    refine congrArg some (congrArg Cell.dict (congrArg (·++_) (List.map_congr_left fun i hi=>?_)));dsimp only;rw[rk i hi]
   ·rcases List.mem_append.1 hi with hi|hi
    ·have e:=(up _ (lt (W.ls i hi))).trans (W.ls i hi)
     rw[rk i hi,List.getElem?_set_ne (ne e),e]
    ·rw[List.mem_singleton] at hi;subst hi
     have e:(g++[Cell.list []])[g.length]?=some (.list []):=zbs _ _;rw[if_pos rfl,List.getElem?_set_ne (ne e),e,hT hj]
   ·rw[List.nodup_append]
    exact⟨W.nd,by simp,fun x hx y hy e=>hj (by rw[List.mem_singleton.1 hy] at e;rw[←e];exact hx)⟩
   ·have old:∀ i∈K,r i≠g.length:=fun i hi=>Nat.ne_of_lt (lt (W.ls i hi))
    rcases List.mem_append.1 hx with kx|kx<;>rcases List.mem_append.1 hy with ky|ky
    ·rw[rk x kx,rk y ky] at e;exact W.inj x kx y ky e
    ·rw[rk x kx,if_pos (List.mem_singleton.1 ky)] at e;exact absurd e (old x kx)
    ·rw[rk y ky,if_pos (List.mem_singleton.1 kx)] at e;exact absurd e.symm (old y ky)
    ·rw[List.mem_singleton.1 kx,List.mem_singleton.1 ky]
   ·rcases List.mem_append.1 hi with hi|hi
    ·rw[rk i hi];exact W.lo i hi
    ·rw[List.mem_singleton.1 hi,if_pos rfl];exact hb
  ·rw[List.length_set,List.length_append];exact Nat.le_trans hb (Nat.le_add_right ..)
  ·refine zjM eo ek W.dc (h:=g++[.list []]) (v:=.ref g.length) rfl hd1 ?_
   rw[zbC,if_neg hj];dsimp only;rw[if_pos rfl,ze2];exact if_pos hK
theorem Ways.push (W:Ways b g d K r T){j:List Nat}(hj:j∈K) (l:List V):Ways b (g.set (r j) (.list l)) d K r (fun i=>if i=j then l else T i):=by
 have lt:r j < g.length:=(List.getElem?_eq_some_iff.1 (W.ls j hj)).1;refine⟨?_,fun i hi=>?_,W.nd,W.inj,W.lo⟩
 ·rw[List.getElem?_set_ne (fun e=>by have:=W.ls j hj;rw[e,W.dc] at this;cases this)];exact W.dc
 ·by_cases e:i=j
  ·subst e;rw[if_pos rfl,List.getElem?_set_self lt]
  ·rw[if_neg e,List.getElem?_set_ne fun q=>e (W.inj i hi j hj q.symm)];exact W.ls i hi
end
noncomputable def tails (B:List (List Nat)) (j:List Nat):List (List Nat):=(B.filter fun w=>decide (pre w=j)).map suf
def isJ (B:List (List Nat)) (j:List Nat):Prop:=∃ w∈B,j=pre w∨j=suf w
noncomputable def tV (B:List (List Nat)) (j:List Nat):List V:=tups (tails B j)
theorem zjE (B:List (List Nat)) (w:List Nat):(fun j=>if j=pre w then tups (tails B (pre w)++[suf w]) else tV B j)=tV (B++[w]):=by
 funext j
 unfold tV tails;rw[List.filter_append,List.map_append]
 by_cases e:j=pre w
 ·rw[if_pos e,List.filter_cons_of_pos (p:=fun w=>decide (pre w=j)) (decide_eq_true e.symm),e];rfl
 ·rw[if_neg e,List.filter_cons_of_neg (p:=fun w=>decide (pre w=j)) (by rw[decide_eq_false fun q=>e q.symm];exact Bool.false_ne_true)];exact congrArg tups (List.append_nil _).symm
theorem zgb {B:List (List Nat)}{j:List Nat}(h:∀ w∈B,pre w≠j):tails B j=[]:=by
 unfold tails;rw[List.filter_eq_nil_iff.2];rfl
 intro w hw e;exact h w hw (of_decide_eq_true e)
theorem zoa {B:List (List Nat)}{w j:List Nat}:isJ (B++[w]) j↔(isJ B j∨j=pre w)∨j=suf w:=by
 constructor
 ·rintro⟨x,hx,e⟩
  rcases List.mem_append.1 hx with hx|hx
  ·exact .inl (.inl ⟨x,hx,e⟩)
  ·rw[List.mem_singleton.1 hx] at e
   exact e.elim (fun e=>.inl (.inr e)) .inr
 ·rintro((⟨x,hx,e⟩|e)|e)
  ·exact⟨x,List.mem_append_left _ hx,e⟩
  ·exact⟨w,List.mem_append_right _ (List.mem_cons_self ..),.inl e⟩
  ·exact⟨w,List.mem_append_right _ (List.mem_cons_self ..),.inr e⟩
theorem zow (n:Nat):cut n (-1)=n - 1:=by
 unfold cut;rw[if_pos (by decide)]
 cases n with
 |zero=>rfl
 |succ m=>rw[zd9];rfl
theorem znu {α:Type}(vs:List α):slc vs Option.none (some (-1))=vs.take (vs.length - 1):=by
 show(vs.take (cut vs.length (-1))).drop 0=_;rw[zow,List.drop_zero]
section
variable {P:Tab}{n b d:Nat}{h g:H}{F:Fn}{ρ:List V}{K:List (List Nat)}{r:List Nat→Nat}
theorem zhS {a:PE}{v:V}{l:List Nat}(ea:evE true F ρ a h=.ok v h) (hl:IsL h v l):evE true F ρ (.slice a .none (some (.neg 1))) h=.ok (.lst (V.nats (pre l))) h:=by
 rw[zas,ea,R.bind_ok,zpl,R.bind_ok,zpk];show R.opt (zbF h v Option.none (some (.int (-1)))) h=_;rw[zfn hl _ _ Option.none (some (-1)) rfl rfl,znu,nats_length,zgs];rfl
theorem zmL {a:PE}{v:V}{l:List Nat}(ea:evE true F ρ a h=.ok v h) (hl:IsL h v l):evE true F ρ (.slice a (some (.int 1)) .none) h=.ok (.lst (V.nats (suf l))) h:=zjK (p:=1) ea hl rfl
theorem zcd {o a:PE}{c:Nat}{vs:List V}{y:V}{g':H}(eo:evE true F ρ o g=.ok (.ref c) g') (hc:g'[c]?=some (.list vs)) (ea:evE true F ρ a g'=.ok y g') (hl:vs.length≤1000):evE true F ρ (.append o a) g=.ok .none (g'.set c (.list (vs++[y]))):=by
 rw[zaI,eo,R.bind_ok,if_pos (zed hc),ea,R.bind_ok,zcx hc _ .none (vs++[y]) rfl (by rw[List.length_append];exact Nat.le_trans (Nat.succ_le_succ hl) (by decide))]
inductive InvO (h:H) (bv:V) (p:List (V × List Nat)):List V→H→Prop
 |mk (K:List (List Nat)) (r:List Nat→Nat) (w:V) (g:H) (x:Ext h g) (W:Ways h.length g h.length K r (tV (p.map (·.2)))) (hK:∀ j,j∈K↔isJ (p.map (·.2)) j) (hl:K.length≤2 * p.length):InvO h bv p [bv,.ref h.length,w] g
theorem zhg {bv:V}{p:List (V × List Nat)}{a:V × List Nat}(hp:p.length≤400) (ha:IsL h a.1 a.2) (I:InvO h bv p ρ g):∃ ρ' g',exSs true F [
  .expr (.append (.setdef (.var 1) (.bf .tuple (.slice (.var 2) .none (some (.neg 1)))) (.own (.list []))) (.bf .tuple (.slice (.var 2) (some (.int 1)) .none))),
  .expr (.setdef (.var 1) (.bf .tuple (.slice (.var 2) (some (.int 1)) .none)) (.own (.list [])))] (ρ.set 2 a.1) g=.ok .next ρ' g'∧InvO h bv (p++[a]) ρ' g':=by
 obtain⟨K,r,w,g,e,W,hK,hl⟩:=I;have pe:∀ g',Ext h g'→evE true F [bv,.ref h.length,a.1] (.bf .tuple (.slice (.var 2) .none (some (.neg 1)))) g'=.ok (V.tw (pre a.2)) g':=fun g' e'=>zdv (zhS (zcL (v:=a.1) rfl (e'.L ha).val) (e'.L ha)) (IsL.lst _ _);have se:∀ g',Ext h g'→evE true F [bv,.ref h.length,a.1] (.bf .tuple (.slice (.var 2) (some (.int 1)) .none)) g'=.ok (V.tw (suf a.2)) g':=fun g' e'=>zdv (zmL (zcL (v:=a.1) rfl (e'.L ha).val) (e'.L ha)) (IsL.lst _ _)
 obtain⟨g1,r1,W1,b1,x1,v1⟩:=W.touch (pre a.2) e.len (Nat.le_trans hl (Nat.le_trans (Nat.mul_le_mul_left 2 hp) (by decide))) (fun q=>congrArg tups (zgb fun w hw e=>q ((hK _).2 ⟨w,hw,.inl e.symm⟩))) (Nat.le_refl _)
 have e1:=x1 h (Nat.le_refl _) e;have mj:pre a.2∈touch K (pre a.2):=zbK.2 (.inr rfl);have W2:=W1.push mj (tups (tails (p.map (·.2)) (pre a.2)++[suf a.2]));rw[zjE] at W2;have hle:(tups (tails (p.map (·.2)) (pre a.2))).length≤1000:=by
  unfold tups tails;rw[List.length_map,List.length_map];refine Nat.le_trans (List.length_filter_le ..) ?_;rw[List.length_map];exact Nat.le_trans hp (by decide)
 have s1:=zcd (v1 F [bv,.ref h.length,a.1] (.var 1) _ rfl (pe g e)) (show g1[r1 (pre a.2)]?=some (.list (tups (tails (p.map (·.2)) (pre a.2)))) from W1.ls _ mj) (se g1 e1) hle;have e2:=e1.set (W1.lo _ mj) (.list (tups (tails (p.map (·.2)) (pre a.2))++[V.tw (suf a.2)]));have tt:tups (tails (p.map (·.2)) (pre a.2))++[V.tw (suf a.2)]=tups (tails (p.map (·.2)) (pre a.2)++[suf a.2]):=by unfold tups;rw[List.map_append];rfl
 rw[tt] at s1 e2;generalize g1.set (r1 (pre a.2)) (.list (tups (tails (p.map (·.2)) (pre a.2)++[suf a.2])))=g2 at s1 e2 W2;have k2:=zdR K (pre a.2);have mm:∀ j,j∈touch (touch K (pre a.2)) (suf a.2)↔isJ ((p++[a]).map (·.2)) j:=fun j=>by
  rw[List.map_append,List.map_singleton,zoa,zbK,zbK,hK]
 obtain⟨g3,r3,W3,b3,x3,v3⟩:=W2.touch (suf a.2) e2.len (Nat.le_trans k2 (Nat.le_trans (Nat.succ_le_succ (Nat.le_trans hl (Nat.mul_le_mul_left 2 hp))) (by decide))) (fun q=>congrArg tups (zgb fun w hw e=>q (zbK.2 (by
  rcases List.mem_append.1 hw with hw|hw
  ·exact .inl ((hK _).2 ⟨w,hw,.inl e.symm⟩)
  ·rw[List.mem_singleton.1 hw] at e;exact .inr e.symm)))) (Nat.le_refl _)
 have k3:=zdR (touch K (pre a.2)) (suf a.2);refine⟨_,g3,?_,_,r3,a.1,_,x3 h (Nat.le_refl _) e2,?_,mm,?_⟩
 ·show exSs true F _ [bv,.ref h.length,a.1] g=_
  rw[zby s1,zby (v3 F [bv,.ref h.length,a.1] (.var 1) _ rfl (se g2 e2))];rfl
 ·rw[List.map_append];exact W3
 ·rw[List.length_append];exact Nat.le_trans k3 (Nat.succ_le_succ (Nat.le_trans k2 (Nat.succ_le_succ hl)))
theorem zi2 (u:zcF P){bv:V}{L:List (V × List Nat)}(hb:HB h bv L) (hL:L.length≤400):∃ g K r,run P (n+1) true "onward" [bv] h=.ok (.ref h.length) g∧Ext h g∧Ways h.length g h.length K r (tV (L.map (·.2)))∧∀ j,j∈K↔isJ (L.map (·.2)) j:=by
 have hv:=(zd6 hb.it).val;obtain⟨t,ht⟩:=zfO hb.it;have e0:Ext h (h++[Cell.dict []]):=(Ext.refl h).app _;obtain⟨ρ',g',e,⟨K,r,w,g',x,W,hK,_⟩⟩:=zc1 (F:=run P n) (h:=h++[.dict []]) (x:=2) (it:=.seq (.var 0)) (body:=[
  .expr (.append (.setdef (.var 1) (.bf .tuple (.slice (.var 2) .none (some (.neg 1)))) (.own (.list []))) (.bf .tuple (.slice (.var 2) (some (.int 1)) .none))),
  .expr (.setdef (.var 1) (.bf .tuple (.slice (.var 2) (some (.int 1)) .none)) (.own (.list [])))]) (ρ:=[bv,.ref h.length,.undef]) (t:=t) (l:=L) (c:=(·.1)) (h':=h++[.dict []]) (InvO h bv) (by rw[i_seq,zcL (v:=bv) rfl hv,R.bind_ok,(ht _).1];rfl) (fun p ρ g I=>by
   obtain⟨_,_,_,_,e,_⟩:=I;exact(e.W ht).2) ⟨[],fun z_=>0,.undef,_,e0,⟨zbs _ _,fun z_ h=>(nomatch h),.nil,fun z_ h=>(nomatch h),fun z_ h=>(nomatch h)⟩,fun j=>⟨fun h=>(nomatch h),fun⟨_,h,_⟩=>(nomatch h)⟩,Nat.zero_le _⟩ (fun p a q ρ g hp I=>by
   have ha:a∈L:=by rw[hp];exact List.mem_append_right _ (List.mem_cons_self ..)
   refine zhg ?_ (hb.wd a ha) I;rw[hp,List.length_append] at hL;exact Nat.le_trans (Nat.le_add_right ..) hL)
 exact⟨g',K,r,start u.self rfl (ρ:=[bv,.undef,.undef]) rfl (zbr (v:=.ref h.length) (h':=h++[.dict []]) rfl (ρ':=[bv,.ref h.length,.undef]) rfl (zdy e (zbA rfl))),x,W,hK⟩
end
inductive Rch (B:List (List Nat)) (s:List Nat):List Nat→Prop
 |base:Rch B s s
 |step {w:List Nat}:w∈B→Rch B s (pre w)→Rch B s (suf w)
theorem zgc {B:List (List Nat)}{j t:List Nat}:t∈tails B j↔∃ w∈B,pre w=j∧suf w=t:=by
 unfold tails;rw[List.mem_map];exact⟨fun⟨w,hw,e⟩=>⟨w,(List.mem_filter.1 hw).1,of_decide_eq_true (List.mem_filter.1 hw).2,e⟩,fun⟨w,hw,e1,e2⟩=>⟨w,List.mem_filter.2 ⟨hw,decide_eq_true e1⟩,e2⟩⟩
theorem Rch.isJ {B:List (List Nat)}{s x:List Nat}(hs:isJ B s) (r:Rch B s x):isJ B x:=by
 cases r with
 |base=>exact hs
 |step hw _=>exact⟨_,hw,.inr rfl⟩
structure Cm (B:List (List Nat)) (s:List Nat) (D Wt M:List (List Nat)):Prop where
 nd:M.Nodup
 nd2:(D++Wt).Nodup
 mem:∀ x,x∈M↔x∈D∨x∈Wt
 rch:∀ x∈M,Rch B s x
theorem Cm.one {B:List (List Nat)}{s:List Nat}:Cm B s [] [s] [s]:=⟨List.nodup_cons.2 ⟨fun h=>(nomatch h),.nil⟩,List.nodup_cons.2 ⟨fun h=>(nomatch h),.nil⟩,fun x=>⟨.inr,fun h=>h.resolve_left fun h=>(nomatch h)⟩,fun x hx=>by rw[List.mem_singleton.1 hx];exact .base⟩
theorem Cm.add {B:List (List Nat)}{s t:List Nat}{D Wt M:List (List Nat)}(c:Cm B s D Wt M) (ht:t ∉ M) (hr:Rch B s t):Cm B s D (Wt++[t]) (M++[t]):=by
 refine⟨?_,?_,fun x=>?_,fun x hx=>?_⟩
 ·rw[List.nodup_append]
  exact⟨c.nd,by simp,fun x hx y hy e=>ht (by rw[List.mem_singleton.1 hy] at e;rw[←e];exact hx)⟩
 ·rw[←List.append_assoc,List.nodup_append]
  exact⟨c.nd2,by simp,fun x hx y hy e=>ht (by rw[List.mem_singleton.1 hy] at e;rw[←e];exact(c.mem x).2 (List.mem_append.1 hx))⟩
 ·rw[List.mem_append,List.mem_append,c.mem,or_assoc]
 ·rcases List.mem_append.1 hx with hx|hx
  ·exact c.rch x hx
  ·rw[List.mem_singleton.1 hx];exact hr
theorem Cm.take {B:List (List Nat)}{s t:List Nat}{D Wt M:List (List Nat)}(c:Cm B s D (Wt++[t]) M):Cm B s (D++[t]) Wt M:=by
 have p:(D++(Wt++[t])).Perm (D++[t]++Wt):=by
  rw[List.append_assoc];exact(List.perm_append_comm).append_left D
 refine⟨c.nd,p.nodup_iff.1 c.nd2,fun x=>?_,c.rch⟩;rw[c.mem,List.mem_append,List.mem_append,or_assoc,or_comm (a:=x∈Wt)]
section
variable {P:Tab}{n b d:Nat}{h g:H}{F:Fn}{ρ:List V}{K:List (List Nat)}{r:List Nat→Nat}{B:List (List Nat)}{s:List Nat}
theorem zhU {t:PE}{body:List PS}(Inv:Nat→List V→H→Prop) (Post:List V→H→Prop) (m:Nat) (hm:m < turns) (h0:Inv m ρ h)
  (hs:∀ k ρ g,Inv k ρ g→(evE true F ρ t g=.ok (.bool false) g∧Post ρ g)∨(evE true F ρ t g=.ok (.bool true) g∧∃ k' ρ' g',k'+1=k∧exSs true F body ρ g=.ok .next ρ' g'∧Inv k' ρ' g')) :
  ∃ ρ' g',exS true F (.while t body) ρ h=.ok .next ρ' g'∧Post ρ' g':=by
 rw[zgj,if_neg (by decide)]
 have key:∀ N k,k < N→∀ ρ g,Inv k ρ g→∃ ρ' g',whileL (fun ρ h=>evE true F ρ t h) (fun ρ h=>exSs true F body ρ h) N ρ g=.ok .next ρ' g'∧Post ρ' g':=by
  intro N
  induction N with
  |zero=>intro k hk;exact absurd hk (Nat.not_lt_zero _)
  |succ N ih =>
   intro k hk ρ g I
   rcases hs k ρ g I with⟨e,p⟩|⟨e,k',ρ1,g1,hk',e1,I1⟩
   ·refine⟨ρ,g,?_,p⟩
    show((evE true F ρ t g).st ρ _)=_;rw[e];rfl
   ·obtain⟨ρ2,g2,e2,p⟩:=ih k' (Nat.lt_of_succ_lt_succ (show k'+1 < N+1 by rw[hk'];exact hk)) ρ1 g1 I1
    refine⟨ρ2,g2,?_,p⟩;show((evE true F ρ t g).st ρ _)=_;rw[e];show(exSs true F body ρ g).then _=_;rw[e1,RS.then_next,e2]
 exact key turns m hm ρ h h0
noncomputable def tt:List Nat→V:=fun z_=>.bool true
noncomputable def HC (g:H) (M Wt:List (List Nat)):H:=g++[.dict (dk tt M),.list (tups Wt)]
theorem zoT (M Wt:List (List Nat)):(HC g M Wt)[g.length]?=some (.dict (dk tt M)):=by
 unfold HC;rw[List.getElem?_append_right (Nat.le_refl _),Nat.sub_self];rfl
theorem zoS (M Wt:List (List Nat)):(HC g M Wt)[g.length+1]?=some (.list (tups Wt)):=by
 unfold HC;rw[List.getElem?_append_right (Nat.le_add_right ..),Nat.add_sub_cancel_left];rfl
theorem zqC (M M' Wt:List (List Nat)):(HC g M Wt).set g.length (.dict (dk tt M'))=HC g M' Wt:=by
 unfold HC;rw[List.set_append_right _ _ (Nat.le_refl _),Nat.sub_self];rfl
theorem zmA (M Wt Wt':List (List Nat)):(HC g M Wt).set (g.length+1) (.list (tups Wt'))=HC g M Wt':=by
 unfold HC;rw[List.set_append_right _ _ (Nat.le_add_right ..),Nat.add_sub_cancel_left];rfl
theorem zqN {M Wt:List (List Nat)}{i:Nat}{c:Cell}(e:g[i]?=some c):(HC g M Wt)[i]?=some c:=by
 unfold HC;rw[List.getElem?_append_left (List.getElem?_eq_some_iff.1 e).1];exact e
theorem zdE (A:List (List Nat)) (t:List Nat):tups A++[V.tw t]=tups (A++[t]):=by unfold tups;rw[List.map_append];rfl
theorem tups_len (A:List (List Nat)):(tups A).length=A.length:=List.length_map ..
noncomputable def ctBody:List PS:=[
   .ifs (.cmp .notIn (.var 4) (.var 2)) [
    .setIdx (.var 2) (.var 4) (.bool true),
    .expr (.append (.var 3) (.var 4))] []]
noncomputable abbrev Ec (d g:Nat) (s w:V):List V:=[.ref d,s,.ref g,.ref (g+1),w]
theorem zqp {D Wt M:List (List Nat)}{t:List Nat}{sv:V}(c:Cm B s D Wt M) (ht:Rch B s t) (hM:M.length≤1000) (hW:Wt.length≤1000):∃ Wt' M',Cm B s D Wt' M'∧(∀ x∈M,x∈M')∧t∈M'∧exSs true F ctBody (Ec d g.length sv (V.tw t)) (HC g M Wt)=.ok .next (Ec d g.length sv (V.tw t)) (HC g M' Wt'):=by
 have e:=zgr (F:=F) (ρ:=Ec d g.length sv (V.tw t)) (a:=.var 4) (b:=.var 2) (t:=t) rfl rfl (zoT (g:=g) M Wt)
 by_cases h:t∈M
 ·rw[decide_eq_true h] at e
  exact⟨Wt,M,c,fun x hx=>hx,h,(zdT e).trans rfl⟩
 ·rw[decide_eq_false h] at e
  refine⟨Wt++[t],M++[t],c.add h ht,fun x hx=>List.mem_append_left _ hx,List.mem_append_right _ (List.mem_cons_self ..),?_⟩;unfold ctBody;rw[zeR e];show exSs true F [.setIdx (.var 2) (.var 4) (.bool true),.expr (.append (.var 3) (.var 4))] _ _=_;rw[zfk (o:=.var 2) (i:=.var 4) (t:=t) (v:=.bool true) rfl rfl rfl (zoT M Wt) (by rw[ze2];exact hM),dput_new h,show dk tt M++[(V.tw t,V.bool true)]=dk tt (M++[t]) from(zir tt M t).symm,zqC,zby (zcd (o:=.var 3) (a:=.var 4) (y:=V.tw t) rfl (zoS (M++[t]) Wt) rfl (by rw[tups_len];exact hW)),zdE,zmA];rfl
end
section
variable {P:Tab}{n b d:Nat}{h g:H}{F:Fn}{ρ:List V}{K:List (List Nat)}{r:List Nat→Nat}{B:List (List Nat)}{s:List Nat}
theorem Cm.inK {D Wt M:List (List Nat)}(c:Cm B s D Wt M) (hK:∀ j,j∈K↔isJ B j) (hs:s∈K):(∀ x∈M,x∈K)∧M.length≤K.length∧(D++Wt).length≤K.length:=by
 have h1:∀ x∈M,x∈K:=fun x hx=>(hK x).2 ((c.rch x hx).isJ ((hK s).1 hs));exact⟨h1,within c.nd h1,within c.nd2 fun x hx=>h1 x ((c.mem x).2 (List.mem_append.1 hx))⟩
theorem zm3 {a:PE}{v:V}{vs:List V}(ea:evE true F ρ a h=.ok v h) (hl:litems h v=some vs):evE true F ρ (.cmp .gt (.bf .len a) (.int 0)) h=.ok (.bool (decide (0 < vs.length))) h:=by
 rw[zaj,zcJ ea hl,R.bind_ok];show R.opt ((pyCmp .gt h (.int vs.length) (.int 0)).map V.bool) h=_;rw[cmp_gt_int];exact congrArg (fun x=>R.ok (V.bool x) h) (decide_eq_decide.2 Int.natCast_pos)
theorem zhX {o:PE}{c:Nat}{vs:List V}{y:V}(eo:evE true F ρ o h=.ok (.ref c) h) (hc:h[c]?=some (.list (vs++[y]))) (hl:vs.length≤1000):evE true F ρ (.pop o) h=.ok y (h.set c (.list vs)):=by
 rw[qE_34,eo,R.bind_ok,zcx hc _ y vs _ (Nat.le_trans hl (by decide))]
 rw[List.getLast?_concat,List.dropLast_concat];rfl
theorem zdL {i:Nat}{t:List Nat}{es:List (V × V)}{v:V}(hd:h[i]?=some (.dict es)) (hv:dfind (V.tw t) es=some v):pyIdx h (.ref i) (V.tw t)=some v:=by
 unfold pyIdx;dsimp only;rw[hd];dsimp only;rw[zb9,if_pos rfl,hv]
theorem zeh {i:Nat}{vs:List V}(e:h[i]?=some (.list vs)):iterOf h (.ref i)=some (vs,some (i,.list vs)):=by
 show(match h[i]? with|some (.list vs)=>some (vs,some (i,Cell.list vs))|some (.dict es)=>some (es.map Prod.fst,some (i,.dict es))|none=>Option.none)=_
 rw[e]
inductive InvC (B:List (List Nat)) (s:List Nat) (g:H) (d N:Nat) (k:Nat):List V→H→Prop
 |mk (D Wt M:List (List Nat)) (w:V) (c:Cm B s D Wt M) (hc:∀ x∈D,∀ y∈tails B x,y∈M) (hm:s∈M) (hk:D.length+k=N):InvC B s g d N k (Ec d g.length (V.tw s) w) (HC g M Wt)
inductive PostC (B:List (List Nat)) (s:List Nat) (g:H) (d:Nat):List V→H→Prop
 |mk (M:List (List Nat)) (w:V) (hn:M.Nodup) (hr:∀ x,x∈M↔Rch B s x):PostC B s g d (Ec d g.length (V.tw s) w) (HC g M [])
inductive InvT (B:List (List Nat)) (s:List Nat) (g:H) (d:Nat) (D M q:List (List Nat)):List V→H→Prop
 |mk (Wt' M':List (List Nat)) (w:V) (c:Cm B s D Wt' M') (hM:∀ x∈M,x∈M') (hq:∀ y∈q,y∈M'):InvT B s g d D M q (Ec d g.length (V.tw s) w) (HC g M' Wt')
theorem zmq (W:Ways b g d K r (tV B)) (hK:∀ j,j∈K↔isJ B j) (hs:s∈K) (hn:K.length≤1000){D Wt M:List (List Nat)}{t:List Nat}{w:V}(c:Cm B s D (Wt++[t]) M) (hc:∀ x∈D,∀ y∈tails B x,y∈M) (hm:s∈M){k:Nat}(hk:D.length+k=K.length):∃ k' ρ' g',k'+1=k∧exSs true F [.for1 4 (.seq (.idx (.var 0) (.pop (.var 3)))) ctBody] (Ec d g.length (V.tw s) w) (HC g M (Wt++[t]))=.ok .next ρ' g'∧InvC B s g d K.length k' ρ' g':=by
 have c1:=c.take;have htM:t∈M:=(c.mem t).2 (.inr (List.mem_append_right _ (List.mem_cons_self ..)));have htK:t∈K:=(c.inK hK hs).1 t htM;have ls:=W.ls t htK;have pe:evE true F (Ec d g.length (V.tw s) w) (.pop (.var 3)) (HC g M (Wt++[t]))=.ok (V.tw t) (HC g M Wt):=by
  rw[zhX (o:=.var 3) (vs:=tups Wt) (y:=V.tw t) rfl (by rw[zdE];exact zoS _ _) (by
   rw[tups_len];have:=(c.inK hK hs).2.2;rw[List.length_append,List.length_append] at this;exact Nat.le_trans (Nat.le_trans (Nat.le_trans (Nat.le_succ _) (Nat.le_add_left ..)) this) hn),zmA]
 have ie:evIt true F (Ec d g.length (V.tw s) w) (.seq (.idx (.var 0) (.pop (.var 3)))) (HC g M (Wt++[t]))=.ok ((tails B t).map V.tw,some (r t,.list (tups (tails B t)))) (HC g M Wt):=by
  rw[i_seq,zak,show evE true F (Ec d g.length (V.tw s) w) (.var 0) (HC g M (Wt++[t]))=.ok (.ref d) _ from rfl,R.bind_ok,pe,R.bind_ok,zdL (v:=.ref (r t)) (zqN W.dc) (by rw[zbC,if_pos htK]),R.opt_some,R.bind_ok,zeh (zqN ls)];rfl
 obtain⟨ρ',g',e,⟨Wt',M',w',c',hM',hq⟩⟩:=zc1 (F:=F) (x:=4) (body:=ctBody) (InvT B s g d (D++[t]) M) ie (fun q ρ g' I=>by
   obtain⟨Wt',M',w',_⟩:=I;exact decide_eq_true (zqN ls)) ⟨Wt,M,w,c1,fun x hx=>hx,fun z_ h=>nomatch h⟩ (fun q a q' ρ g' hp I=>by
   obtain⟨Wt',M',w',c',hM',hq⟩:=I;have ht:Rch B s a:=by
    obtain⟨w,hw,e1,e2⟩:=zgc.1 (show a∈tails B t by rw[hp];exact List.mem_append_right _ (List.mem_cons_self ..))
    rw[←e2];refine .step hw ?_;rw[e1];exact c.rch t htM
   have hl:=(c'.inK hK hs).2;rw[List.length_append] at hl;obtain⟨Wt2,M2,c2,h2,h3,e2⟩:=zqp (F:=F) (d:=d) (g:=g) (sv:=V.tw s) c' ht (Nat.le_trans hl.1 hn) (Nat.le_trans (Nat.le_trans (Nat.le_add_left ..) hl.2) hn);refine⟨_,_,e2,Wt2,M2,_,c2,fun x hx=>h2 x (hM' x hx),fun y hy=>?_⟩
   rcases List.mem_append.1 hy with hy|hy
   ·exact h2 y (hq y hy)
   ·rw[List.mem_singleton.1 hy];exact h3)
 have hl:=(c'.inK hK hs).2.2;rw[List.length_append,List.length_append] at hl;have hk1:1≤k:=Nat.le_of_add_le_add_left (a:=D.length) (by rw[hk];exact Nat.le_trans (Nat.le_add_right ..) hl)
 refine⟨k - 1,_,_,Nat.sub_add_cancel hk1,by rw[ss_cons',e];rfl,D++[t],Wt',M',w',c',fun x hx y hy=>?_,hM' s hm,by
  rw[List.length_append];show D.length+1+(k - 1)=_;rw[Nat.add_assoc,Nat.add_comm 1,Nat.sub_add_cancel hk1];exact hk⟩
 rcases List.mem_append.1 hx with hx|hx
 ·exact hM' y (hc x hx y hy)
 ·rw[List.mem_singleton.1 hx] at hy;exact hq y hy
theorem zis {i:Nat}(e:ρ[i]?=some (V.tw s)):evE true F ρ (.dict1 (.var i) (.bool true)) g=.ok (.ref g.length) (g++[.dict (dk tt [s])]):=by
 have:setiD (g++[.dict []]) g.length (V.tw s) (.bool true)=some (g++[.dict (dk tt [s])]):=by
  unfold setiD;rw[zbs];dsimp only;rw[zb9,zdd];rfl
 rw[zav,zcL e trivial,R.bind_ok];show(match setiD (g++[.dict []]) g.length (V.tw s) (.bool true) with|some h'=>R.ok (V.ref g.length) h'|Option.none=>R.bad)=_
 rw[this]
theorem zmr (u:zbV P) (W:Ways b g d K r (tV B)) (hK:∀ j,j∈K↔isJ B j) (hs:s∈K) (hn:K.length≤1000):∃ M,M.Nodup∧(∀ x,x∈M↔Rch B s x)∧run P (n+1) true "come_to" [.ref d,V.tw s] g=.ok (.ref g.length) (HC g M []):=by
 obtain⟨ρ',g',e,⟨M,w,hM,hr⟩⟩:=zhU (F:=run P n) (t:=.cmp .gt (.bf .len (.var 3)) (.int 0)) (body:=[.for1 4 (.seq (.idx (.var 0) (.pop (.var 3)))) ctBody]) (ρ:=Ec d g.length (V.tw s) .undef) (h:=HC g [s] [s]) (InvC B s g d K.length) (PostC B s g d) K.length (zh3 (Nat.le_trans hn (by decide)))
  ⟨[],[s],[s],.undef,Cm.one,fun z_ h=>(nomatch h),List.mem_cons_self ..,Nat.zero_add _⟩ (fun k ρ g' I=>by
   obtain⟨D,Wt,M,w,c,hc,hm,hk⟩:=I;have t:=zm3 (F:=run P n) (ρ:=Ec d g.length (V.tw s) w) (a:=.var 3) (v:=.ref (g.length+1)) rfl (zaL (zoS M Wt));rw[tups_len] at t
   rcases List.eq_nil_or_concat Wt with rfl|⟨Wt0,t0,rfl⟩
   ·refine .inl ⟨t,M,w,c.nd,fun x=>⟨c.rch x,fun hx=>?_⟩⟩
    induction hx with
    |base=>exact hm
    |step hw _ ih =>
     refine hc _ (((c.mem _).1 ih).resolve_right fun h=>nomatch h) _ (zgc.2 ⟨_,hw,rfl,rfl⟩)
   ·rw[List.concat_eq_append] at *
    rw[decide_eq_true (by rw[List.length_append];exact Nat.succ_pos _)] at t
    exact .inr ⟨t,zmq W hK hs hn c hc hm hk⟩)
 refine⟨M,hM,hr,start u.self rfl (ρ:=[.ref d,V.tw s,.undef,.undef,.undef]) rfl (zbr (v:=.ref g.length) (h':=g++[.dict (dk tt [s])]) ?_ (ρ':=[.ref d,V.tw s,.ref g.length,.undef,.undef]) rfl (zbr (v:=.ref (g.length+1)) (h':=HC g [s] [s]) ?_ (ρ':=Ec d g.length (V.tw s) .undef) rfl (zdy e (zbA rfl))))⟩
 ·exact zis rfl
 ·have e2:evE true (run P n) [.ref d,V.tw s,.ref g.length,.undef,.undef] (.list [.var 1]) (g++[.dict (dk tt [s])])=.ok (.lst (tups [s])) (g++[.dict (dk tt [s])]):=rfl
  rw[zhY e2];unfold HC;rw[List.length_append,List.append_assoc];rfl
end
noncomputable def outs (B:List (List Nat)) (j:List Nat):Nat:=(B.filter fun w=>decide (pre w=j)).length
noncomputable def ins (B:List (List Nat)) (j:List Nat):Nat:=(B.filter fun w=>decide (suf w=j)).length
theorem zjD (B:List (List Nat)) (j:List Nat):(tails B j).length=outs B j:=List.length_map ..
theorem zcP {B:List (List Nat)}(w:List Nat):∀ {K:List (List Nat)},K.Nodup→(K.flatMap fun k=>B.filter fun w=>decide (pre w=k)).count w=if pre w∈K then B.count w else 0
 |[],_=>rfl
 |k::K,hn=>by
  rw[List.nodup_cons] at hn;rw[List.flatMap_cons,List.count_append,zcP w hn.2]
  by_cases e:pre w=k
  ·have h1:(B.filter fun w=>decide (pre w=k)).count w=B.count w:=List.count_filter (decide_eq_true e)
   rw[h1,if_neg (by rw[e];exact hn.1),if_pos (by rw[e];exact List.mem_cons_self ..)];rfl
  ·have h1:(B.filter fun w=>decide (pre w=k)).count w=0:=List.count_eq_zero.2 fun h=>e (of_decide_eq_true (List.mem_filter.1 h).2)
   rw[h1,Nat.zero_add]
   by_cases h2:pre w∈K
   ·rw[if_pos h2,if_pos (List.mem_cons_of_mem _ h2)]
   ·rw[if_neg h2,if_neg fun q=>(List.mem_cons.1 q).elim e h2]
theorem zk2 {B K:List (List Nat)}(hn:K.Nodup) (hK:∀ w∈B,pre w∈K) (j:List Nat):(K.flatMap (tails B)).count j=ins B j:=by
 have p:(K.flatMap fun k=>B.filter fun w=>decide (pre w=k)).Perm B:=List.perm_iff_count.2 fun w=>by
  rw[zcP w hn]
  by_cases h:pre w∈K
  ·rw[if_pos h]
  ·rw[if_neg h];exact(List.count_eq_zero.2 fun q=>h (hK w q)).symm
 have e:K.flatMap (tails B)=(K.flatMap fun k=>B.filter fun w=>decide (pre w=k)).map suf:=by
  rw[List.map_flatMap];rfl
 rw[e,(p.map suf).count_eq,List.count_eq_countP,List.countP_map,List.countP_eq_length_filter];exact congrArg List.length (List.filter_congr fun w z_=>Bool.eq_iff_iff.2 ⟨fun q=>decide_eq_true (eq_of_beq q),fun q=>beq_iff_eq.2 (of_decide_eq_true q)⟩)
structure Cnt (es:List (V × V)) (Tl:List (List Nat)):Prop where
 get:∀ j,(dfind (V.tw j) es).getD (.int 0)=.int (Tl.count j)
 len:es.length≤Tl.length
theorem Cnt.put {es:List (V × V)}{Tl:List (List Nat)}(c:Cnt es Tl) (j:List Nat):Cnt (dput (V.tw j) (.int ((Tl.count j:Nat)+1)) es) (Tl++[j]):=by
 refine⟨fun i=>?_,Nat.le_trans (ziq ..) (by rw[List.length_append];exact Nat.succ_le_succ c.len)⟩
 rw[zgN,List.count_append]
 by_cases e:i=j
 ·subst e
  rw[if_pos rfl,List.count_singleton_self];rfl
 ·rw[if_neg fun q=>e (zjw q),c.get,List.count_singleton,if_neg (by simpa using fun q=>e q.symm)];rfl
section
variable {P:Tab}{n b d:Nat}{h g:H}{F:Fn}{ρ:List V}{K:List (List Nat)}{r:List Nat→Nat}{B:List (List Nat)}{s:List Nat}
theorem zm4 {o k:PE}{i:Nat}{t:List Nat}{es:List (V × V)}(eo:evE true F ρ o h=.ok (.ref i) h) (ek:evE true F ρ k h=.ok (V.tw t) h) (hd:h[i]?=some (.dict es)):evE true F ρ (.get o k (.int 0)) h=.ok ((dfind (V.tw t) es).getD (.int 0)) h:=by
 have hc:dcell h (.ref i)=true:=by
  show(match h[i]? with|some (.dict _)=>true|_=>false)=true
  rw[hd]
 rw[zaw,eo,R.bind_ok,if_pos hc,ek,R.bind_ok];show(match h[i]? with|some (.dict es)=>if keyOk (V.tw t) then R.ok ((dfind (V.tw t) es).getD (.int 0)) h else R.bad|_=>.bad)=_
 rw[hd];show(if keyOk (V.tw t) then _ else R.bad)=_;rw[zb9,if_pos rfl]
theorem zkm {i:Nat}{es:List (V × V)}(e:h[i]?=some (.dict es)):iterOf h (.ref i)=some (es.map (·.1),some (i,.dict es)):=by
 show(match h[i]? with|some (.list vs)=>some (vs,some (i,Cell.list vs))|some (.dict es)=>some (es.map Prod.fst,some (i,.dict es))|none=>Option.none)=_
 rw[e]
theorem zcf {c:Cell}{i:Nat}{k:H}(e:g[i]?=some c):(g++k)[i]?=some c:=by rw[List.getElem?_append_left (List.getElem?_eq_some_iff.1 e).1];exact e
noncomputable abbrev Ea (bv:V) (d e:Nat) (j o f x:V):List V:=[bv,.ref d,.ref e,j,o,f,x]
noncomputable def enIn:List PS:=[.setIdx (.var 2) (.var 4) (.bin .add (.get (.var 2) (.var 4) (.int 0)) (.int 1))]
noncomputable def enBody:List PS:=[.for1 4 (.seq (.idx (.var 1) (.var 3))) enIn]
inductive InvE (g:H) (bv:V) (d:Nat) (f x:V) (Tl:List (List Nat)):List V→H→Prop
 |mk (es:List (V × V)) (j o:V) (c:Cnt es Tl):InvE g bv d f x Tl (Ea bv d g.length j o f x) (g++[.dict es])
inductive InvD (g:H) (bv:V) (d:Nat) (j f x:V) (Tl:List (List Nat)):List V→H→Prop
 |mk (es:List (V × V)) (o:V) (c:Cnt es Tl):InvD g bv d j f x Tl (Ea bv d g.length j o f x) (g++[.dict es])
theorem zmm (W:Ways b g d K r (tV B)){j:List Nat}(hj:j∈K){bv o f x:V}{es:List (V × V)}{Tl:List (List Nat)}(c:Cnt es Tl) (hT:Tl.length+(tails B j).length≤1000):∃ es' o',Cnt es' (Tl++tails B j) ∧
  exSs true F enBody (Ea bv d g.length (V.tw j) o f x) (g++[.dict es])=.ok .next (Ea bv d g.length (V.tw j) o' f x) (g++[.dict es']):=by
 have ie:evIt true F (Ea bv d g.length (V.tw j) o f x) (.seq (.idx (.var 1) (.var 3))) (g++[.dict es])=.ok ((tails B j).map V.tw,some (r j,.list (tups (tails B j)))) (g++[.dict es]):=by
  rw[i_seq,zak,show evE true F (Ea bv d g.length (V.tw j) o f x) (.var 1) (g++[.dict es])=.ok (.ref d) _ from rfl,R.bind_ok,show evE true F (Ea bv d g.length (V.tw j) o f x) (.var 3) (g++[.dict es])=.ok (V.tw j) _ from rfl,R.bind_ok,zdL (v:=.ref (r j)) (zcf W.dc) (by rw[zbC,if_pos hj]),R.opt_some,R.bind_ok,zeh (zcf (W.ls j hj))];rfl
 obtain⟨ρ',g',e,⟨es',o',c'⟩⟩:=zc1 (F:=F) (x:=4) (body:=enIn) (fun q=>InvD g bv d (V.tw j) f x (Tl++q)) ie (fun q ρ g' I=>by
   obtain⟨es',o',_⟩:=I;exact decide_eq_true (zcf (W.ls j hj))) ⟨es,o,by rw[List.append_nil];exact c⟩ (fun q a q' ρ g' hp I=>by
   obtain⟨es',o',c'⟩:=I;have ge:=zla (zm4 (F:=F) (ρ:=Ea bv d g.length (V.tw j) (V.tw a) f x) (o:=.var 2) (k:=.var 4) (t:=a) rfl rfl (zbs g (.dict es')) |>.trans (by rw[c'.get])) (b:=.int 1) (y:=1) rfl
   have hl:es'.length≤1000:=by
    refine Nat.le_trans c'.len (Nat.le_trans ?_ hT);rw[hp,List.length_append,List.length_append];exact Nat.add_le_add_left (Nat.le_add_right ..) _
   refine⟨_,_,?_,_,V.tw a,by rw[←List.append_assoc];exact c'.put a⟩
   unfold enIn;show exSs true F _ (Ea bv d g.length (V.tw j) (V.tw a) f x) _=_;rw[zfk (o:=.var 2) (i:=.var 4) (t:=a) ge rfl rfl (zbs _ _) hl,zdd];rfl)
 exact⟨es',o',c',by unfold enBody;rw[ss_cons',e];rfl⟩
theorem zml (W:Ways b g d K r (tV B)) (hK:∀ w∈B,pre w∈K) (hl:(K.flatMap (tails B)).length≤1000){bv f x:V}:∃ es j o,(∀ j,(dfind (V.tw j) es).getD (.int 0)=.int (ins B j)) ∧
  exS true F (.for1 3 (.seq (.var 1)) enBody) (Ea bv d g.length .undef .undef f x) (g++[.dict []])=.ok .next (Ea bv d g.length j o f x) (g++[.dict es]):=by
 have ie:evIt true F (Ea bv d g.length .undef .undef f x) (.seq (.var 1)) (g++[.dict []])=.ok (K.map V.tw,some (d,.dict (dk (fun j=>.ref (r j)) K))) (g++[.dict []]):=by
  rw[i_seq,show evE true F (Ea bv d g.length .undef .undef f x) (.var 1) (g++[.dict []])=.ok (.ref d) _ from rfl,R.bind_ok,zkm (zcf W.dc),zhv];rfl
 obtain⟨ρ',g',e,⟨es,j,o,c⟩⟩:=zc1 (F:=F) (x:=3) (body:=enBody) (fun q=>InvE g bv d f x (q.flatMap (tails B))) ie (fun q ρ g' I=>by
   obtain⟨es',j,o',_⟩:=I;exact decide_eq_true (zcf W.dc)) ⟨[],_,_,fun j=>rfl,Nat.le_refl _⟩ (fun q a q' ρ g' hp I=>by
   obtain⟨es',j,o',c'⟩:=I;obtain⟨es2,o2,c2,e2⟩:=zmm (F:=F) (bv:=bv) (o:=o') (f:=f) (x:=x) W (j:=a) (by rw[hp];exact List.mem_append_right _ (List.mem_cons_self ..)) c' (by
    refine Nat.le_trans ?_ hl;rw[hp,List.flatMap_append,List.length_append,List.flatMap_cons,List.length_append];exact Nat.add_le_add_left (Nat.le_add_right ..) _)
   refine⟨_,_,e2,es2,V.tw a,o2,?_⟩;rw[List.flatMap_append,List.flatMap_cons,List.flatMap_nil,List.append_nil];exact c2)
 exact⟨es,j,o,fun i=>by rw[c.get,zk2 W.nd hK],e⟩
end
noncomputable def ddp (l:List (List Nat)) (k:Nat):List (List Nat):=((List.range k).filter fun i=>!decide (l.getD i []∈l.take i)).map fun i=>l.getD i []
theorem zmp (l:List (List Nat)) (k:Nat):ddp l (k+1)=if l.getD k []∈l.take k then ddp l k else ddp l k++[l.getD k []]:=by
 unfold ddp;rw[List.range_succ,List.filter_append,List.map_append]
 by_cases e:l.getD k []∈l.take k
 ·rw[if_pos e,List.filter_cons_of_neg (by rw[decide_eq_true e];decide)];exact List.append_nil _
 ·rw[if_neg e,List.filter_cons_of_pos (by rw[decide_eq_false e];rfl)];rfl
theorem zc7 (l:List (List Nat)):∀ k,k≤l.length→(ddp l k).Nodup∧∀ x,x∈ddp l k↔x∈l.take k
 |0,_=>⟨.nil,fun x=>⟨fun h=>(nomatch h),fun h=>(nomatch h)⟩⟩
 |k+1,hk=>by
  obtain⟨h1,h2⟩:=zc7 l k (Nat.le_of_succ_le hk);have e:l.take (k+1)=l.take k++[l.getD k []]:=by
   rw[List.take_succ_eq_append_getElem hk,List.getD_eq_getElem?_getD,List.getElem?_eq_getElem hk];rfl
  rw[zmp,e];generalize l.getD k []=y at *
  by_cases hy:y∈l.take k
  ·rw[if_pos hy]
   refine⟨h1,fun x=>?_⟩;rw[h2,List.mem_append,List.mem_singleton];exact⟨.inl,fun q=>q.elim id fun e=>e ▸ hy⟩
  ·rw[if_neg hy]
   refine⟨?_,fun x=>by rw[List.mem_append,List.mem_append,h2]⟩
   rw[List.nodup_append];exact⟨h1,by simp,fun x hx z hz e=>hy (by rw[List.mem_singleton.1 hz] at e;rw[←e];exact(h2 x).1 hx)⟩
noncomputable def ends2 (B:List (List Nat)):List (List Nat):=B.map pre++B.map suf
noncomputable def JS (B:List (List Nat)):List (List Nat):=srt (ddp (ends2 B) (ends2 B).length)
theorem zh8 (B:List (List Nat)):(ddp (ends2 B) (ends2 B).length).Nodup:=(zc7 _ _ (Nat.le_refl _)).1
theorem zm0 {B:List (List Nat)}{x:List Nat}:x∈ddp (ends2 B) (ends2 B).length↔isJ B x:=by
 rw[(zc7 _ _ (Nat.le_refl _)).2,List.take_length];unfold ends2 isJ;rw[List.mem_append,List.mem_map,List.mem_map]
 constructor
 ·rintro(⟨w,hw,e⟩|⟨w,hw,e⟩)
  ·exact⟨w,hw,.inl e.symm⟩
  ·exact⟨w,hw,.inr e.symm⟩
 ·rintro⟨w,hw,e|e⟩
  ·exact .inl ⟨w,hw,e.symm⟩
  ·exact .inr ⟨w,hw,e.symm⟩
theorem ze9 {B:List (List Nat)}{x:List Nat}:x∈JS B↔isJ B x:=zns.trans zm0
theorem zrr {B K:List (List Nat)}(hn:K.Nodup) (hK:∀ j,j∈K↔isJ B j):srt K=JS B:=zlp hn (zh8 B) fun x=>(hK x).trans zm0.symm
theorem zmz (B:List (List Nat)):(JS B).Nodup:=(zcZ _).nodup_iff.2 (zh8 B)
structure JB (B:List (List Nat)):Prop where
 few:∀ K:List (List Nat),K.Nodup→(∀ j∈K,isJ B j)→K.length < 257
 flat:∀ K:List (List Nat),K.Nodup→(∀ j∈K,isJ B j)→K.length < 2∨∀ t∈K,t≠[]
 ne:B≠[]
 cnt:B.length < 257
theorem znN (w:List Nat):(pre w).length=w.length - 1:=by unfold pre;rw[List.length_take,Nat.min_eq_left (Nat.sub_le ..)]
theorem zg8 (w:List Nat):(suf w).length=w.length - 1:=by unfold suf;rw[List.length_drop]
theorem zku {B:List (List Nat)}{Z:Nat}(hz:∀ w∈B,w.length=Z){j:List Nat}(hj:isJ B j):j.length=Z - 1:=by
 obtain⟨w,hw,rfl|rfl⟩:=hj
 ·rw[znN,hz w hw]
 ·rw[zg8,hz w hw]
def Least (B:List (List Nat)) (m:List Nat):Prop:=m∈B∧∀ t∈B,wlt t m=false
theorem Least.eq {B:List (List Nat)}{a b:List Nat}(ha:Least B a) (hb:Least B b):a=b:=zgo.tot _ _ (hb.2 a ha.1) (ha.2 b hb.1)
inductive Lack (b:Nat) (B:List (List Nat)) (v:V) (g:H):Prop
 |uneven (c:Nat) (j:List Nat) (p q:List (List Nat)) (e:v=.tup [.str "uneven",.ref c]) (lo:b≤c) (at':g[c]?=some (.list (V.nats j))) (js:JS B=p++j::q) (ev:∀ i∈p,ins B i=outs B i) (ne:ins B j≠outs B j)
 |apart (c:Nat) (m:List Nat) (M:List (List Nat)) (e:v=.tup [.str "apart",.ref c]) (lo:b≤c) (at':g[c]?=some (.list (V.lists (srt M)))) (ev:∀ i∈JS B,ins B i=outs B i) (le:Least B m) (nd:M.Nodup) (mem:∀ x,x∈M↔Rch B (pre m) x) (lt:M.length < (JS B).length)
 |fine (m:List Nat) (M:List (List Nat)) (e:v=.none) (ev:∀ i∈JS B,ins B i=outs B i) (le:Least B m) (nd:M.Nodup) (mem:∀ x,x∈M↔Rch B (pre m) x) (ge:¬ M.length < (JS B).length)
theorem zjW {B K:List (List Nat)}(hn:K.Nodup) (hK:∀ w∈B,pre w∈K):(K.flatMap (tails B)).length=B.length:=by
 have p:(K.flatMap fun k=>B.filter fun w=>decide (pre w=k)).Perm B:=List.perm_iff_count.2 fun w=>by
  rw[zcP w hn]
  by_cases h:pre w∈K
  ·rw[if_pos h]
  ·rw[if_neg h];exact(List.count_eq_zero.2 fun q=>h (hK w q)).symm
 have e:K.flatMap (tails B)=(K.flatMap fun k=>B.filter fun w=>decide (pre w=k)).map suf:=by
  rw[List.map_flatMap];rfl
 rw[e,List.length_map,p.length_eq]
section
variable {P:Tab}{n b d:Nat}{h g:H}{F:Fn}{ρ:List V}{K:List (List Nat)}{r:List Nat→Nat}{B:List (List Nat)}{s:List Nat}
theorem callT {f:String}{args:List PE}{vs:List V}{v:V}{h' h'':H}(ea:evEs true F ρ args h=.ok vs h'') (hc:F true f vs h''=.ok v h'):evE true F ρ (.call true f args) h=.ok v h':=by
 rw[zan,ea,R.bind_ok];exact hc
theorem zmN {α:Type}{F:Fn}{t:Watch}{x:Nat}{it:PIt}{body:List PS}{ρ:List V}{h h':H}{l:List α}{c:α→V}(Inv:List α→List V→H→Prop) (Post:V→List V→H→Prop)
  (hi:evIt true F ρ it h=.ok (l.map c,t) h') (hw:∀ p ρ g,Inv p ρ g→t.ok g=true) (h0:Inv [] ρ h')
  (hb:∀ p a q ρ g,l=p++a::q→Inv p ρ g→(∃ ρ' g',exSs true F body (ρ.set x (c a)) g=.ok .next ρ' g'∧Inv (p++[a]) ρ' g')∨∃ v ρ' g',exSs true F body (ρ.set x (c a)) g=.ok (.ret v) ρ' g'∧Post v ρ' g') :
  (∃ ρ' g',exS true F (.for1 x it body) ρ h=.ok .next ρ' g'∧Inv l ρ' g')∨∃ v ρ' g',exS true F (.for1 x it body) ρ h=.ok (.ret v) ρ' g'∧Post v ρ' g':=by
 rw[s_for1',if_neg (by decide),hi,R.st_ok]
 have key:∀ (q p:List α) (ρ:List V) (g:H),l=p++q→Inv p ρ g→(∃ ρ' g',forL t (bind1 x) (fun ρ h=>exSs true F body ρ h) (q.map c) ρ g=.ok .next ρ' g'∧Inv l ρ' g')∨∃ v ρ' g',forL t (bind1 x) (fun ρ h=>exSs true F body ρ h) (q.map c) ρ g=.ok (.ret v) ρ' g'∧Post v ρ' g':=by
  intro q
  induction q with
  |nil=>intro p ρ g e hi;rw[List.append_nil] at e;subst e;exact .inl ⟨ρ,g,by rw[List.map_nil,zkJ,if_pos (hw _ _ _ hi)],hi⟩
  |cons a q ih =>
   intro p ρ g e hi;have st:∀ R,(exSs true F body (ρ.set x (c a)) g).then (fun ρ h=>forL t (bind1 x) (fun ρ h=>exSs true F body ρ h) (q.map c) ρ h)=R→forL t (bind1 x) (fun ρ h=>exSs true F body ρ h) ((a::q).map c) ρ g=R:=fun R e=>by
    rw[List.map_cons,zie,if_pos (hw _ _ _ hi)];exact e
   rcases hb p a q ρ g e hi with⟨ρ1,g1,e1,i1⟩|⟨v,ρ1,g1,e1,i1⟩
   ·rcases ih (p++[a]) ρ1 g1 (by rw[e,List.append_assoc];rfl) i1 with⟨ρ2,g2,e2,i2⟩|⟨v,ρ2,g2,e2,i2⟩
    ·exact .inl ⟨ρ2,g2,st _ (by rw[e1,RS.then_next];exact e2),i2⟩
    ·exact .inr ⟨v,ρ2,g2,st _ (by rw[e1,RS.then_next];exact e2),i2⟩
   ·exact .inr ⟨v,ρ1,g1,st _ (by rw[e1];rfl),i1⟩
 exact key l [] ρ h' rfl h0
theorem zmU {st:PS}{ss:List PS}{v:V}{ρ':List V}{g':H}(e:exS true F st ρ h=.ok (.ret v) ρ' g'):(exSs true F (st::ss) ρ h).out=.ok v g':=by rw[ss_cons',e];rfl
theorem Ways.app {T:List Nat→List V}(W:Ways b g d K r T) (k:H):Ways b (g++k) d K r T:=⟨zcf W.dc,fun j hj=>zcf (W.ls j hj),W.nd,W.inj,W.lo⟩
theorem zkf {a:PE}{i:Nat}{es:List (V × V)}(ea:evE true F ρ a h=.ok (.ref i) h) (hd:h[i]?=some (.dict es)):evE true F ρ (.bf .len a) h=.ok (.int es.length) h:=by
 rw[znd (f:=.len) rfl,ea,R.bind_ok];show R.opt (match h[i]? with|some (.list vs)=>some (V.int vs.length)|some (.dict es)=>some (.int es.length)|none=>Option.none) h=_
 rw[hd];rfl
noncomputable def unBody:List PS:=[
  .ifs (.cmp .ne (.get (.var 2) (.var 3) (.int 0)) (.bf .len (.idx (.var 1) (.var 3)))) [
   .ret (.tup [.str "uneven",.own (.bf .list (.var 3))])] []]
theorem zqP (W:Ways b g d K r (tV B)){j:List Nat}(hj:j∈K){bv o f x:V}{e:Nat}{es:List (V × V)}(he:g[e]?=some (.dict es)) (hc:∀ j,(dfind (V.tw j) es).getD (.int 0)=.int (ins B j)) :
  evE true F (Ea bv d e (V.tw j) o f x) (.cmp .ne (.get (.var 2) (.var 3) (.int 0)) (.bf .len (.idx (.var 1) (.var 3)))) g=.ok (.bool (!decide (ins B j=outs B j))) g:=by
 have e1:=(zm4 (F:=F) (ρ:=Ea bv d e (V.tw j) o f x) (o:=.var 2) (k:=.var 3) (t:=j) rfl rfl he).trans (by rw[hc])
 have e2:evE true F (Ea bv d e (V.tw j) o f x) (.idx (.var 1) (.var 3)) g=.ok (.ref (r j)) g:=by
  rw[zak,show evE true F (Ea bv d e (V.tw j) o f x) (.var 1) g=.ok (.ref d) _ from rfl,R.bind_ok,show evE true F (Ea bv d e (V.tw j) o f x) (.var 3) g=.ok (V.tw j) _ from rfl,R.bind_ok,zdL (v:=.ref (r j)) W.dc (by rw[zbC,if_pos hj])];rfl
 have e3:=(zcJ e2 (zaL (W.ls j hj))).trans (by unfold tV;rw[tups_len,zjD])
 exact zqM e1 e3 (by rw[pyEq_int,decide_eq_decide.2 Int.natCast_inj])
theorem znj (W:Ways b g d K r (tV B)){j:List Nat}(hj:j∈K){bv o f x:V}{e:Nat}{es:List (V × V)}(he:g[e]?=some (.dict es)) (hc:∀ j,(dfind (V.tw j) es).getD (.int 0)=.int (ins B j)) :
  exSs true F unBody (Ea bv d e (V.tw j) o f x) g=if ins B j=outs B j then .ok .next (Ea bv d e (V.tw j) o f x) g else .ok (.ret (.tup [.str "uneven",.ref g.length])) (Ea bv d e (V.tw j) o f x) (g++[.list (V.nats j)]):=by
 have t:=zqP (F:=F) (bv:=bv) (o:=o) (f:=f) (x:=x) W hj he hc;unfold unBody
 by_cases q:ins B j=outs B j
 ·rw[decide_eq_true q] at t
  rw[if_pos q,zdT t];rfl
 ·rw[decide_eq_false q] at t
  rw[if_neg q,zeR t];rfl
end
section
variable {P:Tab}{n b d:Nat}{h g:H}{F:Fn}{ρ:List V}{K:List (List Nat)}{r:List Nat→Nat}{B:List (List Nat)}{s:List Nat}
theorem zmV {a:PE}{bv:V}{L:List (V × List Nat)}(ea:evE true F ρ a h=.ok bv h) (hb:HB h bv L) (hL:L≠[]):∃ q∈L,evE true F ρ (.bf .min a) h=.ok q.1 h∧Least (L.map (·.2)) q.2:=by
 cases L with
 |nil=>exact absurd rfl hL
 |cons p L =>
  obtain⟨q,hq,e,hm⟩:=zj9 hb.wd;refine⟨q,hq,?_,List.mem_map.2 ⟨q,hq,rfl⟩,fun t ht=>?_⟩
  ·rw[znd (f:=.min) rfl,ea,R.bind_ok]
   show R.opt ((litems h bv).bind (minVs h)) h=_;rw[hb.it,Option.bind_some,e];rfl
  ·obtain⟨x,hx,rfl⟩:=List.mem_map.1 ht
   exact hm x hx
theorem zmx {i:Nat}{M:List (List Nat)}{x:V}{w1 w2 w3 w4 w5:V}(hd:g[i]?=some (.dict (dk tt M))) (h64:M.length < 257) (h0:M.length < 2∨∀ t∈M,t≠[]):evE true F [w1,w2,w3,w4,w5,.ref i,x] (.own (.comp (.bf .list (.var 6)) 6 (.seq (.bf .sorted (.var 5))) .none)) g=.ok (.ref g.length) (g++[.list (V.lists (srt M))]):=by
 refine zhY ?_;refine zeo (l:=srt M) (c:=V.tw) (t:=Option.none) (zei (vs:=tups (srt M)) (zch (a:=.var 5) (v:=.ref i) (vs:=tups M) rfl (by rw[zdZ hd,zhv]) (zdV g M h64 h0))) rfl (fun t=>.lst (V.nats t)) (fun a z_=>rfl) (zea ?_)
 rw[List.length_map,zjH];exact Nat.le_trans (Nat.le_of_lt h64) (by decide)
inductive InvU (G:H) (bv:V) (d e:Nat) (o:V) (B p:List (List Nat)):List V→H→Prop
 |mk (w:V) (ev:∀ i∈p,ins B i=outs B i):InvU G bv d e o B p (Ea bv d e w o .undef .undef) G
inductive EndU (G:H) (B:List (List Nat)):V→H→Prop
 |mk (j:List Nat) (p q:List (List Nat)) (hpq:JS B=p++j::q) (hp:∀ i∈p,ins B i=outs B i) (hj:ins B j≠outs B j):EndU G B (.tup [.str "uneven",.ref G.length]) (G++[.list (V.nats j)])
theorem zl2 (u:za4 P){bv:V}{L:List (V × List Nat)}(hb:HB h bv L) (jb:JB (L.map (·.2))):∃ v g',run P (n+2) true "lack_of" [bv] h=.ok v g'∧Ext h g'∧Lack h.length (L.map (·.2)) v g':=by
 have hv:=(zd6 hb.it).val;have hL:L.length < 257:=by have:=jb.cnt;rw[List.length_map] at this;exact this
 obtain⟨g,K,r,e1,x1,W,hK⟩:=zi2 (n:=n) u.onward hb (Nat.le_trans (Nat.le_of_lt hL) (by decide))
 generalize hB:L.map (·.2)=B at *
 have hpre:∀ w∈B,pre w∈K:=fun w hw=>(hK _).2 ⟨w,hw,.inl rfl⟩;obtain⟨es,j0,o0,hes,e2⟩:=zml (F:=run P (n+1)) (bv:=bv) (f:=.undef) (x:=.undef) W hpre (by rw[zjW W.nd hpre];exact Nat.le_trans (Nat.le_of_lt jb.cnt) (by decide))
 have W2:=W.app [.dict es];have x2:=x1.app [.dict es];have hE:(g++[Cell.dict es])[g.length]?=some (.dict es):=zbs _ _;have hJ:srt K=JS B:=zrr W.nd hK;have k64:=jb.few K W.nd fun j hj=>(hK j).1 hj;have kfl:=jb.flat K W.nd fun j hj=>(hK j).1 hj;have go:∀ res,(exSs true (run P (n+1)) (zcu.body.drop 3) (Ea bv h.length g.length j0 o0 .undef .undef) (g++[.dict es])).out=res→run P (n+2) true "lack_of" [bv] h=res:=fun res hres =>
  start u.self rfl (ρ:=[bv,.undef,.undef,.undef,.undef,.undef,.undef]) rfl (zbr (v:=.ref h.length) (h':=g) (callT (zbG (zcL (v:=bv) rfl hv) rfl) e1) (ρ':=[bv,.ref h.length,.undef,.undef,.undef,.undef,.undef]) rfl (zbr (v:=.ref g.length) (h':=g++[Cell.dict []]) rfl (ρ':=Ea bv h.length g.length .undef .undef .undef .undef) rfl (zdy e2 hres)))
 generalize hG:g++[Cell.dict es]=G at *
 have ie:evIt true (run P (n+1)) (Ea bv h.length g.length j0 o0 .undef .undef) (.seq (.bf .sorted (.var 1))) G=.ok ((JS B).map V.tw,Option.none) G:=by
  rw[←hJ];exact zei (zch (a:=.var 1) (v:=.ref h.length) (vs:=tups K) rfl (by rw[zdZ W2.dc,zhv]) (zdV G K k64 kfl))
 have inK:∀ j∈JS B,j∈K:=fun j hj=>(hK j).2 (ze9.1 hj)
 rcases zmN (F:=run P (n+1)) (x:=3) (body:=unBody) (InvU G bv h.length g.length o0 B) (fun v z_=>EndU G B v) ie (fun z_ z_ z_ z_=>rfl) ⟨j0,fun z_ h=>nomatch h⟩ (fun p j q ρ g' hp I=>by
  obtain⟨w,ev⟩:=I;have x:=znj (F:=run P (n+1)) (bv:=bv) (o:=o0) (f:=.undef) (x:=.undef) W2 (inK j (by rw[hp];exact List.mem_append_right _ (List.mem_cons_self ..))) hE hes
  by_cases hj:ins B j=outs B j
  ·rw[if_pos hj] at x
   refine .inl ⟨_,_,x,_,fun i hi=>?_⟩
   rcases List.mem_append.1 hi with hi|hi
   ·exact ev i hi
   ·rw[List.mem_singleton.1 hi];exact hj
  ·rw[if_neg hj] at x
   exact .inr ⟨_,_,_,x,j,p,q,hp,ev,hj⟩) with⟨ρ',g',e3,⟨w,hev⟩⟩|⟨v,ρ',g',e3,⟨j,p,q,hpq,hp,hj⟩⟩
 ·have hbG:=x2.B hb
  obtain⟨m,hm,em,le⟩:=zmV (F:=run P (n+1)) (ρ:=Ea bv h.length g.length w o0 .undef .undef) (a:=.var 0) (zcL rfl hv) hbG (fun e=>jb.ne (by rw[←hB,e];rfl))
  rw[hB] at le;have hs:pre m.2∈K:=hpre _ le.1;obtain⟨M,hM,hr,e4⟩:=zmr (n:=n) u.come_to W2 hK hs (Nat.le_trans (Nat.le_of_lt k64) (by decide))
  have ea:evEs true (run P (n+1)) (Ea bv h.length g.length w o0 .undef .undef) [.var 1,.bf .tuple (.slice (.bf .min (.var 0)) .none (some (.neg 1)))] G=.ok [.ref h.length,V.tw (pre m.2)] G :=
   zbG rfl (zbG (zdv (zhS em (hbG.wd m hm)) (IsL.lst _ _)) rfl)
  have x3:Ext h (HC G M []):=x2.app _;have lK:(JS B).length=K.length:=by rw[←hJ,zjH]
  have lt:evE true (run P (n+1)) (Ea bv h.length g.length w o0 (.ref G.length) .undef) (.cmp .lt (.bf .len (.var 5)) (.bf .len (.var 1))) (HC G M [])=.ok (.bool (decide (M.length < (JS B).length))) (HC G M []):=by
   rw[zaj,zkf (a:=.var 5) rfl (zoT M []),R.bind_ok,zkf (a:=.var 1) rfl (zqN W2.dc),R.bind_ok,ze2,ze2,cmp_lt_int,lK];exact congrArg (fun x=>R.ok (V.bool x) _) (decide_eq_decide.2 Int.ofNat_lt)
  have go2:∀ res,(exSs true (run P (n+1)) (zcu.body.drop 5) (Ea bv h.length g.length w o0 (.ref G.length) .undef) (HC G M [])).out=res→run P (n+2) true "lack_of" [bv] h=res:=fun res hres =>
   go res (zdy e3 (zbr (callT ea e4) (ρ':=Ea bv h.length g.length w o0 (.ref G.length) .undef) rfl hres))
  by_cases hlt:M.length < (JS B).length
  ·rw[decide_eq_true hlt] at lt
   have hMJ:∀ j∈M,isJ B j:=fun j hj=>((hr j).1 hj).isJ ((hK _).1 hs);refine⟨_,_,go2 _ (zlJ lt (zbA (v:=.tup [.str "apart",.ref (HC G M []).length]) (h':=HC G M []++[.list (V.lists (srt M))]) ?_)),x3.app _,.apart (HC G M []).length m.2 M rfl x3.len (zbs _ _) hev le hM hr hlt⟩;have e6:=zmx (F:=run P (n+1)) (x:=.undef) (w1:=bv) (w2:=.ref h.length) (w3:=.ref g.length) (w4:=w) (w5:=o0) (zoT (g:=G) M []) (jb.few M hM hMJ) (jb.flat M hM hMJ)
   rw[zaC,zde,zbO,R.bind_ok,zde,e6];rfl
  ·rw[decide_eq_false hlt] at lt
   exact⟨.none,_,go2 _ (zdD lt (zbA rfl)),x3,.fine m.2 M rfl hev le hM hr hlt⟩
 ·exact⟨_,_,go _ (zmU e3),x2.app [.list (V.nats j)],.uneven G.length j p q rfl x2.len (zbs _ _) hpq hp hj⟩
end
def Bal (L:List (List Nat)) (j s:List Nat):Prop:=∀ x,outs L x+(if x=s then 1 else 0)=ins L x+(if x=j then 1 else 0)
noncomputable def cP (L A:List (List Nat)):Nat:=(L.filter fun w=>decide (pre w∈A)).length
noncomputable def cS (L A:List (List Nat)):Nat:=(L.filter fun w=>decide (suf w∈A)).length
theorem zix {f:List Nat→List Nat}{x:List Nat}{A:List (List Nat)}(hx:x ∉ A):∀ L:List (List Nat),(L.filter fun w=>decide (f w∈x::A)).length=(L.filter fun w=>decide (f w=x)).length+(L.filter fun w=>decide (f w∈A)).length
 |[]=>rfl
 |w::L=>by
  have ih:=zix (f:=f) hx L;have pos:∀ (p:List Nat→Bool),p w=true→((w::L).filter p).length=(L.filter p).length+1:=fun p h=>by rw[List.filter_cons_of_pos h];rfl
  have neg:∀ (p:List Nat→Bool),p w=false→((w::L).filter p).length=(L.filter p).length:=fun p h=>by rw[List.filter_cons_of_neg (by rw[h];exact Bool.false_ne_true)]
  by_cases h1:f w=x
  ·rw[pos (fun w=>decide (f w∈x::A)) (decide_eq_true (by rw[h1];exact List.mem_cons_self ..)),pos (fun w=>decide (f w=x)) (decide_eq_true h1),neg (fun w=>decide (f w∈A)) (decide_eq_false (by rw[h1];exact hx)),ih];exact Nat.add_right_comm _ _ _
  ·rw[neg (fun w=>decide (f w=x)) (decide_eq_false h1)]
   by_cases h2:f w∈A
   ·rw[pos (fun w=>decide (f w∈x::A)) (decide_eq_true (List.mem_cons_of_mem _ h2)),pos (fun w=>decide (f w∈A)) (decide_eq_true h2),ih];rfl
   ·rw[neg (fun w=>decide (f w∈x::A)) (decide_eq_false fun q=>(List.mem_cons.1 q).elim h1 h2),neg (fun w=>decide (f w∈A)) (decide_eq_false h2),ih]
theorem Bal.sum {L:List (List Nat)}{j s:List Nat}(b:Bal L j s):∀ {A:List (List Nat)},A.Nodup→cP L A+(if s∈A then 1 else 0)=cS L A+(if j∈A then 1 else 0)
 |[],_=>by
  have:∀ f:List Nat→List Nat,(L.filter fun w=>decide (f w∈([]:List (List Nat))))=[]:=fun f=>List.filter_eq_nil_iff.2 fun w z_=>by simp
  unfold cP cS;rw[this,this];rfl
 |x::A,hn=>by
  rw[List.nodup_cons] at hn;have ih:=b.sum hn.2;have hb:=b x;unfold outs ins at hb;unfold cP cS at *
  rw[zix hn.1,zix hn.1];have e:∀ y:List Nat,(if y∈x::A then 1 else 0)=(if x=y then 1 else 0)+(if y∈A then 1 else 0:Nat):=fun y=>by
   by_cases h1:x=y
   ·rw[if_pos h1,if_pos (by rw[h1];exact List.mem_cons_self ..),if_neg (by rw[←h1];exact hn.1)]
   ·rw[if_neg h1,Nat.zero_add]
    by_cases h2:y∈A
    ·rw[if_pos h2,if_pos (List.mem_cons_of_mem _ h2)]
    ·rw[if_neg h2,if_neg fun q=>(List.mem_cons.1 q).elim (fun q=>h1 q.symm) h2]
  rw[e,e,Nat.add_add_add_comm,hb,ih,Nat.add_add_add_comm]
theorem zgQ {f:List Nat→Bool}{L:List (List Nat)}{e:List Nat}(he:e∈L):(L.filter f).length=((L.erase e).filter f).length+(if f e=true then 1 else 0):=by
 have p:=(List.perm_cons_erase he).filter f;rw[p.length_eq]
 by_cases h:f e=true
 ·rw[List.filter_cons_of_pos h,if_pos h];rfl
 ·rw[List.filter_cons_of_neg h,if_neg h];rfl
theorem Bal.step {L:List (List Nat)}{j s e:List Nat}(b:Bal L j s) (he:e∈L) (hj:pre e=j):Bal (L.erase e) (suf e) s:=fun x=>by
 have hb:=b x;unfold outs ins at *
 rw[zgQ (f:=fun w=>decide (pre w=x)) he,zgQ (f:=fun w=>decide (suf w=x)) he] at hb;have e1:(if decide (pre e=x)=true then 1 else 0:Nat)=if x=j then 1 else 0:=by
  by_cases h:x=j
  ·rw[if_pos h,if_pos (decide_eq_true (by rw[hj,h]))]
  ·rw[if_neg h,if_neg (by rw[decide_eq_false fun q=>h (q.symm.trans hj)];exact Bool.false_ne_true)]
 have e2:(if decide (suf e=x)=true then 1 else 0:Nat)=if x=suf e then 1 else 0:=by
  by_cases h:x=suf e
  ·rw[if_pos h,if_pos (decide_eq_true h.symm)]
  ·rw[if_neg h,if_neg (by rw[decide_eq_false fun q=>h q.symm];exact Bool.false_ne_true)]
 rw[e1,e2] at hb;exact Nat.add_right_cancel ((Nat.add_right_comm _ _ _).trans hb)
def AllR (L:List (List Nat)) (j:List Nat):Prop:=∀ w∈L,Rch L j (pre w)
def Good (L:List (List Nat)) (e:List Nat):Prop:=AllR (L.erase e) (suf e)
theorem zlz (L:List (List Nat)) (s:List Nat):∃ A:List (List Nat),A.Nodup∧∀ x,x∈A↔Rch L s x:=by
 have h:=Classical.propDecidable;refine⟨(ddp (s::L.map suf) (s::L.map suf).length).filter fun x=>@decide (Rch L s x) (h _),(zc7 _ _ (Nat.le_refl _)).1.filter _,fun x=>?_⟩;rw[List.mem_filter,(zc7 _ _ (Nat.le_refl _)).2,List.take_length,decide_eq_true_eq];refine⟨And.right,fun r=>⟨?_,r⟩⟩
 cases r with
 |base=>exact List.mem_cons_self ..
 |step hw _=>exact List.mem_cons_of_mem _ (List.mem_map.2 ⟨_,hw,rfl⟩)
theorem zlG {L:List (List Nat)}{j x:List Nat}(r:Rch L j x):x=j∨∃ e∈L,pre e=j:=by
 induction r with
 |base=>exact .inl rfl
 |step hw _ ih=>exact .inr (ih.elim (fun e=>⟨_,hw,e⟩) id)
theorem back {L:List (List Nat)}{j e:List Nat}(ar:AllR L j) (h:Rch (L.erase e) (suf e) j):Good L e:=by
 intro w hw;have key:∀ x,Rch L j x→Rch (L.erase e) (suf e) x:=fun x r=>by
  induction r with
  |base=>exact h
  |@step w' hw' _ ih =>
   by_cases q:w'=e
   ·rw[q];exact .base
   ·exact .step ((List.mem_erase_of_ne q).2 hw') ih
 exact key _ (ar w (List.mem_of_mem_erase hw))
theorem shut {L:List (List Nat)}{j s e:List Nat}(b:Bal L j s) (he:e∈L) (hj:pre e=j) (h:¬ Rch (L.erase e) (suf e) j):Rch (L.erase e) (suf e) s∧∀ w∈L.erase e,Rch (L.erase e) (suf e) (suf w)→Rch (L.erase e) (suf e) (pre w):=by
 obtain⟨A,nd,mem⟩:=zlz (L.erase e) (suf e);have hs:=(b.step he hj).sum nd;rw[if_pos ((mem _).2 .base)] at hs;have sub:∀ w∈L.erase e,decide (pre w∈A)=true→decide (suf w∈A)=true:=fun w hw q=>decide_eq_true ((mem _).2 (.step hw ((mem _).1 (of_decide_eq_true q))));have le:cP (L.erase e) A≤cS (L.erase e) A:=by
  unfold cP cS;rw[←List.countP_eq_length_filter,← List.countP_eq_length_filter];exact List.countP_mono_left sub
 have s1:s∈A:=Classical.byContradiction fun q=>by rw[if_neg q] at hs;exact absurd hs (Nat.ne_of_lt (Nat.lt_succ_of_le le))
 rw[if_pos s1] at hs;refine⟨(mem s).1 s1,fun w hw r=>Classical.byContradiction fun q=>?_⟩;have:=zep (p:=fun w=>decide (pre w∈A)) (q:=fun w=>decide (suf w∈A)) sub ⟨w,hw,decide_eq_false fun m=>q ((mem _).1 m),decide_eq_true ((mem _).2 r)⟩;rw[List.countP_eq_length_filter,List.countP_eq_length_filter] at this;exact absurd (Nat.succ.inj hs) (Nat.ne_of_lt this)
theorem zi7 {L:List (List Nat)}{s e:List Nat}(b:Bal L s s) (ar:AllR L s) (he:e∈L) (hs:pre e=s):Good L e :=
 Classical.byContradiction fun q=>(fun h=>q (back ar (shut b he hs h).1)) fun h=>q (back ar h)
theorem zkC {L:List (List Nat)}{j s:List Nat}(nd:L.Nodup) (b:Bal L j s) (ar:AllR L j) (hL:L≠[]):∃ e∈L,pre e=j∧Good L e:=by
 obtain⟨e1,h1,p1⟩:∃ e∈L,pre e=j:=by
  cases L with
  |nil=>exact absurd rfl hL
  |cons w L=>exact(zlG (ar w (List.mem_cons_self ..))).elim (fun e=>⟨w,List.mem_cons_self ..,e⟩) id
 by_cases h2:∃ e∈L,pre e=j∧e≠e1
 ·obtain⟨e2,h2,p2,ne⟩:=h2
  by_cases q1:Rch (L.erase e1) (suf e1) j
  ·exact⟨e1,h1,p1,back ar q1⟩
  ·by_cases q2:Rch (L.erase e2) (suf e2) j
   ·exact⟨e2,h2,p2,back ar q2⟩
   ·obtain⟨s1,w1⟩:=shut b h1 p1 q1
    obtain⟨s2,_⟩:=shut b h2 p2 q2;have key:∀ x,Rch (L.erase e2) (suf e2) x→¬ Rch (L.erase e1) (suf e1) x:=fun x r=>by
     induction r with
     |base=>exact fun q=>q1 (by rw[←p2];exact w1 e2 ((List.mem_erase_of_ne ne).2 h2) q)
     |@step w hw r ih =>
      by_cases q:w=e1
      ·rw[q,p1] at r;exact absurd r q2
      ·exact fun t=>ih (w1 w ((List.mem_erase_of_ne q).2 (List.mem_of_mem_erase hw)) t)
    exact absurd s1 (key s s2)
 ·refine⟨e1,h1,p1,fun w hw=>?_⟩
  have only:∀ e∈L,pre e=j→e=e1:=fun e he hp=>Classical.byContradiction fun q=>h2 ⟨e,he,hp,q⟩;have key:∀ x,Rch L j x→x=j∨Rch (L.erase e1) (suf e1) x:=fun x r=>by
   induction r with
   |base=>exact .inl rfl
   |@step w' hw' _ ih =>
    by_cases q:w'=e1
    ·rw[q];exact .inr .base
    ·refine .inr (.step ((List.mem_erase_of_ne q).2 hw') (ih.resolve_left fun h=>q (only w' hw' h)))
  have hw':=List.mem_of_mem_erase hw;refine(key _ (ar w hw')).resolve_left fun h=>?_;rw[only w hw' h] at hw;exact(List.Nodup.not_mem_erase nd) hw
theorem Bal.nil {j s:List Nat}(b:Bal [] j s):j=s:=by
 have:=b s;rw[if_pos rfl] at this
 by_cases h:s=j
 ·exact h.symm
 ·rw[if_neg h] at this;exact absurd this (show ¬ 0+1=0+0 by decide)
noncomputable def lst (w:List Nat):Nat:=w.getD (w.length - 1) 0
theorem zd4 (j:List Nat) (s:Nat):pre (j++[s])=j:=by
 unfold pre;rw[List.length_append,List.length_singleton,Nat.add_sub_cancel,List.take_left'];rfl
theorem zmW (j:List Nat) (s:Nat):lst (j++[s])=s:=by
 unfold lst;rw[List.length_append,List.length_singleton,Nat.add_sub_cancel,List.getD_eq_getElem?_getD,List.getElem?_append_right (Nat.le_refl _),Nat.sub_self];rfl
theorem zbJ {w:List Nat}(h:0 < w.length):pre w++[lst w]=w:=by
 have e:=List.take_append_drop (w.length - 1) w;have hl:w.length - 1 < w.length:=Nat.sub_lt h Nat.one_pos;rw[List.drop_eq_getElem_cons hl,Nat.sub_add_cancel h,List.drop_length] at e;unfold pre lst;rw[List.getD_eq_getElem?_getD,List.getElem?_eq_getElem hl];exact e
theorem zmD {j:List Nat}{a b:Nat}(e:j++[a]=j++[b]):a=b:=by
 have:=List.append_cancel_left e;exact(List.cons.inj this).1
structure Lf (b:Nat) (g:H) (d:Nat) (K:List (List Nat)) (r:List Nat→Nat) (C:List Nat→List Nat) (L:List (List Nat)):Prop where
 W:Ways b g d K r fun j=>V.nats (C j)
 nd:∀ j,(C j).Nodup
 mem:∀ j s,s∈C j↔j++[s]∈L
 inK:∀ j,j ∉ K→C j=[]
theorem zmM {C:List Nat→List Nat}{L:List (List Nat)}(nd:∀ j,(C j).Nodup) (mem:∀ j s,s∈C j↔j++[s]∈L) (hL:L.Nodup) (h0:∀ w∈L,0 < w.length) (j:List Nat):(C j).length=outs L j:=by
 have p:((C j).map fun s=>j++[s]).Perm (L.filter fun w=>decide (pre w=j)):=by
  refine(List.perm_ext_iff_of_nodup ?_ (hL.filter _)).2 fun w=>?_
  ·rw[List.Nodup,List.pairwise_map]
   exact(nd j).imp fun ne e=>ne (zmD e)
  ·rw[List.mem_map,List.mem_filter,decide_eq_true_eq]
   constructor
   ·rintro⟨s,hs,rfl⟩
    exact⟨(mem j s).1 hs,zd4 j s⟩
   ·rintro⟨hw,rfl⟩
    exact⟨lst w,(mem _ _).2 (by rw[zbJ (h0 w hw)];exact hw),zbJ (h0 w hw)⟩
 unfold outs;rw[←p.length_eq,List.length_map]
section
variable {P:Tab}{n b d:Nat}{h g:H}{F:Fn}{ρ:List V}{K:List (List Nat)}{r:List Nat→Nat}{C:List Nat→List Nat}{L:List (List Nat)}{s:List Nat}
theorem zkD {o k e:PE}{i:Nat}{t:List Nat}{z:V}{es:List (V × V)}(eo:evE true F ρ o h=.ok (.ref i) h) (ek:evE true F ρ k h=.ok (V.tw t) h) (ee:evE true F ρ e h=.ok z h) (hd:h[i]?=some (.dict es)):evE true F ρ (.get o k e) h=.ok ((dfind (V.tw t) es).getD z) h:=by
 have hc:dcell h (.ref i)=true:=by
  show(match h[i]? with|some (.dict _)=>true|_=>false)=true
  rw[hd]
 rw[zaw,eo,R.bind_ok,if_pos hc,ek,R.bind_ok,ee,R.bind_ok];show(match h[i]? with|some (.dict es)=>if keyOk (V.tw t) then R.ok ((dfind (V.tw t) es).getD z) h else R.bad|_=>.bad)=_
 rw[hd];show(if keyOk (V.tw t) then _ else R.bad)=_;rw[zb9,if_pos rfl]
theorem Lf.get (f:Lf b g d K r C L) (t:List Nat) (k:H):∃ v w,litems (g++k) v=some (V.nats (C t))∧(∀ k',iterOf (g++k') v=some ((C t).map fun s:Nat=>V.int s,w)∧Watch.ok w (g++k')=true) ∧
  ∀ (F:Fn) (ρ:List V) (o x:PE),evE true F ρ o (g++k)=.ok (.ref d) (g++k)→evE true F ρ x (g++k)=.ok (V.tw t) (g++k)→evE true F ρ (.get o x (.list [])) (g++k)=.ok v (g++k):=by
 by_cases ht:t∈K
 ·have hl:=f.W.ls t ht
  refine⟨.ref (r t),some (r t,.list (V.nats (C t))),zaL (zcf hl),fun k'=>⟨zeh (zcf hl),decide_eq_true (zcf hl)⟩,fun F ρ o x eo ex=>?_⟩;rw[zkD eo ex (z:=.lst []) rfl (zcf f.W.dc),zbC,if_pos ht];rfl
 ·refine⟨.lst [],Option.none,by rw[f.inK t ht];rfl,fun k'=>⟨by rw[f.inK t ht];rfl,rfl⟩,fun F ρ o x eo ex=>?_⟩
  rw[zkD eo ex (z:=.lst []) rfl (zcf f.W.dc),zbC,if_neg ht];rfl
theorem zjF {a c:PE}{j:List Nat}{s:Nat}(ea:evE true F ρ a h=.ok (V.tw j) h) (ec:evE true F ρ c h=.ok (.int s) h) (hj:j.length≤1000):evE true F ρ (.bin .add a (.tup [c])) h=.ok (V.tw (j++[s])) h:=by
 rw[zbz,ea,R.bind_ok,zaC,zbG ec (rfl:evEs true F ρ [] h=.ok [] h),R.bind_ok];show R.opt (mkT (V.nats j++[.int s])) h=_;rw[zpM (by rw[List.length_append,nats_length];exact Nat.le_trans (Nat.succ_le_succ hj) (by decide))]
 unfold V.tw;rw[zat];rfl
theorem zfi {a c:PE}{j:List Nat}{s:Nat}(ea:evE true F ρ a h=.ok (V.tw j) h) (ec:evE true F ρ c h=.ok (.int s) h) (hj:j.length≤1000):evE true F ρ (.rev (.bin .add a (.tup [c]))) h=.ok (V.tw (suf (j++[s]))) h:=by
 rw[zaB,zjF ea ec hj,R.bind_ok];have:tailOf (V.tw (j++[s]))=some (.tup ((V.nats (j++[s])).drop 1)):=if_pos (by rw[nats_length,List.length_append];exact Nat.succ_pos _)
 rw[this,zgt];rfl
noncomputable def goBody:List PS:=[
   .asg 8 (.rev (.bin .add (.var 6) (.tup [.var 7]))),
   .ifs (.cmp .notIn (.var 8) (.var 3)) [
    .setIdx (.var 3) (.var 8) (.bool true),
    .expr (.append (.var 4) (.var 8))] []]
noncomputable abbrev Eg (d g:Nat) (s:V) (many words:Int) (here sign other:V):List V:=[.ref d,s,.int many,.ref g,.ref (g+1),.int words,here,sign,other]
theorem zp7 {D Wt M:List (List Nat)}{t:List Nat}{sg:Nat}{sv ov:V}{many words:Int}(c:Cm L s D Wt M) (hr:Rch L s (suf (t++[sg]))) (ht:t.length≤1000) (hM:M.length≤1000) (hW:Wt.length≤1000):∃ Wt' M',Cm L s D Wt' M'∧(∀ x∈M,x∈M')∧suf (t++[sg])∈M' ∧
  exSs true F goBody (Eg d g.length sv many words (V.tw t) (.int sg) ov) (HC g M Wt)=.ok .next (Eg d g.length sv many words (V.tw t) (.int sg) (V.tw (suf (t++[sg])))) (HC g M' Wt'):=by
 have e1:=zfi (F:=F) (ρ:=Eg d g.length sv many words (V.tw t) (.int sg) ov) (h:=HC g M Wt) (a:=.var 6) (c:=.var 7) (j:=t) (s:=sg) rfl rfl ht;generalize suf (t++[sg])=o at *
 have e:=zgr (F:=F) (ρ:=Eg d g.length sv many words (V.tw t) (.int sg) (V.tw o)) (a:=.var 8) (b:=.var 3) (t:=o) rfl rfl (zoT (g:=g) M Wt);unfold goBody;rw[zcI e1];show ∃ Wt' M',_∧_∧_∧exSs true F _ (Eg d g.length sv many words (V.tw t) (.int sg) (V.tw o)) _=_
 by_cases h:o∈M
 ·rw[decide_eq_true h] at e
  exact⟨Wt,M,c,fun x hx=>hx,h,(zdT e).trans rfl⟩
 ·rw[decide_eq_false h] at e
  refine⟨Wt++[o],M++[o],c.add h hr,fun x hx=>List.mem_append_left _ hx,List.mem_append_right _ (List.mem_cons_self ..),?_⟩;rw[zeR e];show exSs true F [.setIdx (.var 3) (.var 8) (.bool true),.expr (.append (.var 4) (.var 8))] _ _=_;rw[zfk (o:=.var 3) (i:=.var 8) (t:=o) (v:=.bool true) rfl rfl rfl (zoT M Wt) (by rw[ze2];exact hM),dput_new h,show dk tt M++[(V.tw o,V.bool true)]=dk tt (M++[o]) from(zir tt M o).symm,zqC,zby (zcd (o:=.var 4) (a:=.var 8) (y:=V.tw o) rfl (zoS (M++[o]) Wt) rfl (by rw[tups_len];exact hW)),zdE,zmA];rfl
end
section
variable {P:Tab}{n b d:Nat}{h g:H}{F:Fn}{ρ:List V}{K:List (List Nat)}{r:List Nat→Nat}{C:List Nat→List Nat}{L:List (List Nat)}{s:List Nat}
theorem Cm.inU {D Wt M:List (List Nat)}(c:Cm L s D Wt M):M.length≤L.length+1∧(D++Wt).length≤L.length+1:=by
 have h1:∀ x∈M,x∈s::L.map suf:=fun x hx=>by
  cases c.rch x hx with
  |base=>exact List.mem_cons_self ..
  |step hw _=>exact List.mem_cons_of_mem _ (List.mem_map.2 ⟨_,hw,rfl⟩)
 have e:(s::L.map suf).length=L.length+1:=congrArg (·+1) (List.length_map ..);rw[←e];exact⟨within c.nd h1,within c.nd2 fun x hx=>h1 x ((c.mem x).2 (List.mem_append.1 hx))⟩
theorem zoC {D:List (List Nat)}{t:List Nat}(ht:t ∉ D):cP L (D++[t])=cP L D+outs L t:=by
 have e:cP L (D++[t])=cP L (t::D):=congrArg List.length (List.filter_congr fun w z_=>decide_eq_decide.2 (by rw[List.mem_append,List.mem_singleton,List.mem_cons,or_comm]))
 rw[e,Nat.add_comm];exact zix (f:=pre) ht L
noncomputable def zhu:List PS:=[
  .asg 6 (.pop (.var 4)),
  .asg 5 (.bin .add (.var 5) (.bf .len (.get (.var 0) (.var 6) (.list [])))),
  .for1 7 (.seq (.get (.var 0) (.var 6) (.list []))) goBody]
inductive InvG (L:List (List Nat)) (s:List Nat) (g:H) (d:Nat) (many:Int) (k:Nat):List V→H→Prop
 |mk (D Wt M:List (List Nat)) (he sg ot:V) (c:Cm L s D Wt M) (hc:∀ w∈L,pre w∈D→suf w∈M) (hm:s∈M) (hk:D.length+k=L.length+1):InvG L s g d many k (Eg d g.length (V.tw s) many (cP L D:Nat) he sg ot) (HC g M Wt)
inductive EndG (L:List (List Nat)) (s:List Nat) (g:H) (d:Nat) (many:Int):List V→H→Prop
 |mk (D M:List (List Nat)) (he sg ot:V) (c:Cm L s D [] M) (hc:∀ w∈L,pre w∈D→suf w∈M) (hm:s∈M):EndG L s g d many (Eg d g.length (V.tw s) many (cP L D:Nat) he sg ot) (HC g M [])
inductive InvH (L:List (List Nat)) (s:List Nat) (g:H) (d:Nat) (many:Int) (D:List (List Nat)) (t:List Nat) (M:List (List Nat)) (q:List Nat):List V→H→Prop
 |mk (Wt' M':List (List Nat)) (sg ot:V) (c:Cm L s (D++[t]) Wt' M') (hM:∀ x∈M,x∈M') (hq:∀ a∈q,suf (t++[a])∈M'):InvH L s g d many D t M q (Eg d g.length (V.tw s) many (cP L (D++[t]):Nat) (V.tw t) sg ot) (HC g M' Wt')
theorem zmg (f:Lf b g d K r C L) (hL:L.Nodup) (h0:∀ w∈L,0 < w.length) (h9:∀ w∈L,w.length≤9) (hs:s.length≤9) (hn:L.length≤900){many:Int}{D Wt M:List (List Nat)}{t:List Nat}{he sg ot:V}(c:Cm L s D (Wt++[t]) M) (hc:∀ w∈L,pre w∈D→suf w∈M) (hm:s∈M){k:Nat}(hk:D.length+k=L.length+1) :
  ∃ k' ρ' g',k'+1=k∧exSs true F zhu (Eg d g.length (V.tw s) many (cP L D:Nat) he sg ot) (HC g M (Wt++[t]))=.ok .next ρ' g'∧InvG L s g d many k' ρ' g':=by
 have c1:=c.take;have htM:t∈M:=(c.mem t).2 (.inr (List.mem_append_right _ (List.mem_cons_self ..)));have htD:t ∉ D:=fun q=>(List.nodup_append.1 c.nd2).2.2 t q t (List.mem_append_right _ (List.mem_cons_self ..)) rfl;have ht9:t.length≤9:=by
  cases c.rch t htM with
  |base=>exact hs
  |step hw _=>rw[zg8];exact Nat.le_trans (Nat.sub_le ..) (h9 _ hw)
 have hU:=c.inU.2;rw[List.length_append,List.length_append] at hU;have pe:evE true F (Eg d g.length (V.tw s) many (cP L D:Nat) he sg ot) (.pop (.var 4)) (HC g M (Wt++[t]))=.ok (V.tw t) (HC g M Wt):=by
  rw[zhX (o:=.var 4) (vs:=tups Wt) (y:=V.tw t) rfl (by rw[zdE];exact zoS _ _) (by
   rw[tups_len];exact Nat.le_trans (Nat.le_trans (Nat.le_succ _) (Nat.le_trans (Nat.le_add_left ..) hU)) (Nat.le_trans (Nat.succ_le_succ hn) (by decide))),zmA]
 obtain⟨v,w,hv,hw,hg⟩:=f.get t [.dict (dk tt M),.list (tups Wt)];have wl:(C t).length=outs L t:=zmM f.nd f.mem hL h0 t;have ew:evE true F (Eg d g.length (V.tw s) many (cP L D:Nat) (V.tw t) sg ot) (.bin .add (.var 5) (.bf .len (.get (.var 0) (.var 6) (.list [])))) (HC g M Wt)=.ok (.int (cP L (D++[t]):Nat)) (HC g M Wt):=by
  refine(zla (x:=(cP L D:Nat)) rfl (zcJ (hg F _ (.var 0) (.var 6) rfl rfl) hv)).trans ?_;rw[nats_length,wl,zoC htD,Int.natCast_add];rfl
 have ie:evIt true F (Eg d g.length (V.tw s) many (cP L (D++[t]):Nat) (V.tw t) sg ot) (.seq (.get (.var 0) (.var 6) (.list []))) (HC g M Wt)=.ok ((C t).map fun s:Nat=>V.int s,w) (HC g M Wt):=by
  rw[i_seq,show evE true F (Eg d g.length (V.tw s) many (cP L (D++[t]):Nat) (V.tw t) sg ot) (.get (.var 0) (.var 6) (.list [])) (HC g M Wt)=.ok v (HC g M Wt) from hg F _ (.var 0) (.var 6) rfl rfl,R.bind_ok,show iterOf (HC g M Wt) v=_ from(hw _).1];rfl
 obtain⟨ρ',g',e,⟨Wt',M',sg',ot',c',hM',hq⟩⟩:=zc1 (F:=F) (x:=7) (body:=goBody) (InvH L s g d many D t M) ie (fun q ρ g' I=>by
   obtain⟨Wt',M',sg',ot',_⟩:=I;exact(hw _).2) ⟨Wt,M,sg,ot,c1,fun x hx=>hx,fun z_ h=>nomatch h⟩ (fun q a q' ρ g' hp I=>by
   obtain⟨Wt',M',sg',ot',c',hM',hq⟩:=I;have ha:a∈C t:=by rw[hp];exact List.mem_append_right _ (List.mem_cons_self ..)
   have hl:=c'.inU;rw[List.length_append] at hl;have h1000:L.length+1≤1000:=Nat.le_trans (Nat.succ_le_succ hn) (by decide)
   obtain⟨Wt2,M2,c2,h2,h3,e2⟩:=zp7 (F:=F) (d:=d) (g:=g) (t:=t) (sg:=a) (sv:=V.tw s) (ov:=ot') (many:=many) (words:=(cP L (D++[t]):Nat)) c' (.step ((f.mem t a).1 ha) (by rw[zd4];exact c.rch t htM)) (Nat.le_trans ht9 (by decide)) (Nat.le_trans hl.1 h1000) (Nat.le_trans (Nat.le_trans (Nat.le_add_left ..) hl.2) h1000)
   refine⟨_,_,e2,Wt2,M2,_,_,c2,fun x hx=>h2 x (hM' x hx),fun y hy=>?_⟩
   rcases List.mem_append.1 hy with hy|hy
   ·exact h2 _ (hq y hy)
   ·rw[List.mem_singleton.1 hy];exact h3)
 have hk1:1≤k:=Nat.le_of_add_le_add_left (a:=D.length) (by rw[hk];exact Nat.le_trans (Nat.add_le_add_left (Nat.le_add_left 1 Wt.length) _) hU)
 refine⟨k - 1,_,_,Nat.sub_add_cancel hk1,?_,D++[t],Wt',M',V.tw t,sg',ot',c',fun w hw hp=>?_,hM' s hm,?_⟩
 ·unfold zhu
  rw[zcI pe];show exSs true F _ (Eg d g.length (V.tw s) many (cP L D:Nat) (V.tw t) sg ot) _=_;rw[zcI ew,ss_cons'];show(exS true F _ (Eg d g.length (V.tw s) many (cP L (D++[t]):Nat) (V.tw t) sg ot) _).then _=_;rw[e];rfl
 ·rcases List.mem_append.1 hp with hp|hp
  ·exact hM' _ (hc w hw hp)
  ·have e1:=List.mem_singleton.1 hp
   have e2:=zbJ (h0 w hw);rw[e1] at e2;rw[←e2];exact hq _ ((f.mem t _).2 (by rw[e2];exact hw))
 ·rw[List.length_append]
  show D.length+1+(k - 1)=_;rw[Nat.add_assoc,Nat.add_comm 1,Nat.sub_add_cancel hk1];exact hk
theorem zqt {M:List (List Nat)}:cP L M=L.length↔∀ w∈L,pre w∈M:=by
 unfold cP;rw[List.length_filter_eq_length_iff];exact⟨fun h w hw=>of_decide_eq_true (h w hw),fun h w hw=>decide_eq_true (h w hw)⟩
theorem zp6 (u:zbD P) (f:Lf b g d K r C L) (hL:L.Nodup) (h0:∀ w∈L,0 < w.length) (h9:∀ w∈L,w.length≤9) (hs:s.length≤9) (hn:L.length≤900):∃ v:Bool,pcall g (run P (n+1) true "goes_on" [.ref d,V.tw s,.int (L.length:Nat)] g)=.ok (.bool v) g∧(v=true↔AllR L s):=by
 have t0:=zk7 (q:=true) (F:=run P n) (ρ:=[.ref d,V.tw s,.int (L.length:Nat),.undef,.undef,.undef,.undef,.undef,.undef]) (h:=g) (a:=.var 2) (b:=.int 0) (x:=(L.length:Nat)) (y:=0) rfl rfl
 by_cases he:L.length=0
 ·rw[he] at t0
  refine⟨true,?_,fun z_=>?_,fun z_=>rfl⟩
  ·rw[he,start u.self rfl (ρ:=[.ref d,V.tw s,.int ((0:Nat):Int),.undef,.undef,.undef,.undef,.undef,.undef]) rfl (zlJ t0 (zbA rfl)),pcall_bool]
  ·rw[List.eq_nil_of_length_eq_zero he];exact fun z_ h=>nomatch h
 ·rw[decide_eq_false fun q=>he (Int.natCast_eq_zero.1 q)] at t0
  have i0:InvG L s g d (L.length:Nat) (L.length+1) (Eg d g.length (V.tw s) (L.length:Nat) ((0:Nat):Int) .undef .undef .undef) (HC g [s] [s]):=by
   have i:=InvG.mk (L:=L) (s:=s) (g:=g) (d:=d) (many:=(L.length:Nat)) (k:=L.length+1) [] [s] [s] .undef .undef .undef Cm.one (fun z_ z_ h=>(nomatch h)) (List.mem_cons_self ..) (Nat.zero_add _);rw[show cP L []=0 from by unfold cP;rw[List.filter_eq_nil_iff.2 fun w z_=>by simp];rfl] at i
   exact i
  obtain⟨ρ',g',e,⟨D,M,h1,h2,h3,c,hc,hm⟩⟩:=zhU (F:=run P n) (t:=.cmp .gt (.bf .len (.var 4)) (.int 0)) (body:=zhu) (ρ:=Eg d g.length (V.tw s) (L.length:Nat) ((0:Nat):Int) .undef .undef .undef) (h:=HC g [s] [s]) (InvG L s g d (L.length:Nat)) (EndG L s g d (L.length:Nat)) (L.length+1) (zh3 (Nat.le_trans (Nat.succ_le_succ hn) (by decide)))
   i0 (fun k ρ g' I=>by
    obtain⟨D,Wt,M,he,sg,ot,c,hc,hm,hk⟩:=I;have t:=zm3 (F:=run P n) (ρ:=Eg d g.length (V.tw s) (L.length:Nat) (cP L D:Nat) he sg ot) (a:=.var 4) (v:=.ref (g.length+1)) rfl (zaL (zoS M Wt));rw[tups_len] at t
    rcases List.eq_nil_or_concat Wt with rfl|⟨Wt0,t0,rfl⟩
    ·exact .inl ⟨t,D,M,he,sg,ot,c,hc,hm⟩
    ·rw[List.concat_eq_append] at *
     rw[decide_eq_true (by rw[List.length_append];exact Nat.succ_pos _)] at t
     exact .inr ⟨t,zmg f hL h0 h9 hs hn c hc hm hk⟩)
  have mD:∀ x,x∈M↔x∈D:=fun x=>(c.mem x).trans ⟨fun q=>q.resolve_right fun h=>(nomatch h),.inl⟩;have mr:∀ x,x∈D↔Rch L s x:=fun x=>⟨fun q=>c.rch x ((mD x).2 q),fun q=>by
   induction q with
   |base=>exact(mD s).1 hm
   |step hw _ ih=>exact(mD _).1 (hc _ hw ih)⟩
  refine⟨decide (((cP L D:Nat):Int)=(L.length:Nat)),?_,?_⟩
  ·rw[start u.self rfl (ρ:=[.ref d,V.tw s,.int (L.length:Nat),.undef,.undef,.undef,.undef,.undef,.undef]) rfl (zdD t0 (zbr (v:=.ref g.length) (h':=g++[.dict (dk tt [s])]) ?_ (ρ':=[.ref d,V.tw s,.int (L.length:Nat),.ref g.length,.undef,.undef,.undef,.undef,.undef]) rfl (zbr (v:=.ref (g.length+1)) (h':=HC g [s] [s]) ?_ (ρ':=[.ref d,V.tw s,.int (L.length:Nat),.ref g.length,.ref (g.length+1),.undef,.undef,.undef,.undef]) rfl (zbr (v:=.int ((0:Nat):Int)) (h':=HC g [s] [s]) rfl (ρ':=Eg d g.length (V.tw s) (L.length:Nat) ((0:Nat):Int) .undef .undef .undef) rfl (zdy e (zbA (zk7 (x:=(cP L D:Nat)) (y:=(L.length:Nat)) rfl rfl)))))))]
   ·exact zd5 g [.dict (dk tt M),.list (tups [])] rfl
   ·exact zis rfl
   ·have e2:evE true (run P n) [.ref d,V.tw s,.int (L.length:Nat),.ref g.length,.undef,.undef,.undef,.undef,.undef] (.list [.var 1]) (g++[.dict (dk tt [s])])=.ok (.lst (tups [s])) (g++[.dict (dk tt [s])]):=rfl
    rw[zhY e2];unfold HC;rw[List.length_append,List.append_assoc];rfl
  ·rw[decide_eq_true_eq,Int.natCast_inj,zqt]
   exact⟨fun q w hw=>(mr _).1 (q w hw),fun q w hw=>(mr _).2 (q w hw)⟩
end
noncomputable def nlt (a b:Nat):Bool:=decide (a < b)
noncomputable def srtN (l:List Nat):List Nat:=isort nlt l
theorem znt (l:List Nat):(srtN l).Pairwise (·≤·):=zdJ (lt:=nlt) (le:=(·≤·)) (fun a b e=>Nat.le_of_lt (of_decide_eq_true e)) (fun a b e=>Nat.le_of_not_lt (of_decide_eq_false e)) (fun a b c h1 h2=>Nat.le_trans h1 h2) l
theorem zc0 (l:List Nat):(srtN l).Perm l:=zbx l
theorem zdW (h:H) (l:List Nat) (h64:l.length < 257):sortVs h (V.nats l)=some (V.nats (srtN l)):=by
 have e1:keyed keyI (V.nats l)=some (l.map fun d:Nat=>((d:Int),V.nat d)):=zcn (f:=keyI) V.nat (fun d:Nat=>(d:Int)) l fun z_ z_=>rfl;have e:isort (fun a b:Int × V=>decide (a.1 < b.1)) (l.map fun d:Nat=>((d:Int),V.nat d))=(srtN l).map fun d:Nat=>((d:Int),V.nat d):=zej (lt:=nlt) (fun d:Nat=>((d:Int),V.nat d)) (fun a b=>decide_eq_decide.2 Int.ofNat_lt) l;unfold sortVs;rw[e1];show sortBy _ _=_;unfold sortBy
 rw[if_pos,e,List.map_map];rfl
 rw[Bool.and_eq_true];refine⟨decide_eq_true (by rw[List.length_map];exact h64),?_⟩
 rw[List.all_eq_true];intro p hp;rw[List.all_eq_true];intro q hq;obtain⟨a,_,rfl⟩:=List.mem_map.1 hp;obtain⟨b,_,rfl⟩:=List.mem_map.1 hq;exact decide_eq_true fun e=>congrArg V.int e
theorem zlw {l:List Nat}{a:Nat}(h:a∈l):rmvI (.int a) (V.nats l)=some (.none,V.nats (l.erase a)):=by
 have e1:(zi l).findIdx? (fun i=>i == (a:Int))=l.idxOf? a:=by
  unfold zi;rw[List.findIdx?_map];unfold List.idxOf?
  congr 1
  funext i
  exact Bool.eq_iff_iff.2 ⟨fun q=>beq_iff_eq.2 (Int.natCast_inj.1 (eq_of_beq q)),fun q=>beq_iff_eq.2 (congrArg _ (eq_of_beq q))⟩
 have e2:=List.erase_eq_eraseIdx l a;show((asInts (V.nats l)).bind fun l'=>(l'.findIdx? fun i=>i == (a:Int)).map fun j=>(V.none,(V.nats l).eraseIdx j))=_;rw[zbl,Option.bind_some,e1]
 cases hi:l.idxOf? a with
 |none=>exact absurd h (List.idxOf?_eq_none_iff.1 hi)
 |some j =>
  rw[hi] at e2;rw[e2];show some (V.none,(List.map V.nat l).eraseIdx j)=some (V.none,List.map V.nat (l.eraseIdx j));rw[List.eraseIdx_eq_take_drop_succ,List.eraseIdx_eq_take_drop_succ,List.map_append,List.map_take,List.map_drop]
section
variable {P:Tab}{n b d:Nat}{h g:H}{F:Fn}{ρ:List V}{K:List (List Nat)}{r:List Nat→Nat}{C:List Nat→List Nat}{L:List (List Nat)}{j:List Nat}{a:Nat}
theorem zlk (C:List Nat→List Nat) (j:List Nat) (l:List Nat):(fun i=>if i=j then V.nats l else V.nats (C i))=fun i=>V.nats ((fun i=>if i=j then l else C i) i):=by
 funext i
 by_cases e:i=j
 ·rw[if_pos e];show _=V.nats (if i=j then l else C i);rw[if_pos e]
 ·rw[if_neg e];show _=V.nats (if i=j then l else C i);rw[if_neg e]
theorem Lf.put (f:Lf b g d K r C L) (hj:j∈K){l:List Nat}{L':List (List Nat)}(nd:l.Nodup) (m1:∀ s,s∈l↔j++[s]∈L') (m2:∀ i s,i≠j→(i++[s]∈L↔i++[s]∈L')):Lf b (g.set (r j) (.list (V.nats l))) d K r (fun i=>if i=j then l else C i) L':=by
 refine⟨by rw[←zlk];exact f.W.push hj (V.nats l),fun i=>?_,fun i s=>?_,fun i hi=>?_⟩
 ·by_cases e:i=j
  ·rw[if_pos e];exact nd
  ·rw[if_neg e];exact f.nd i
 ·by_cases e:i=j
  ·rw[if_pos e,e];exact m1 s
  ·rw[if_neg e];exact(f.mem i s).trans (m2 i s e)
 ·rw[if_neg fun(e:i=j)=>hi (e ▸ hj)];exact f.inK i hi
theorem Lf.take (f:Lf b g d K r C L) (hL:L.Nodup) (hj:j∈K):Lf b (g.set (r j) (.list (V.nats ((C j).erase a)))) d K r (fun i=>if i=j then(C j).erase a else C i) (L.erase (j++[a])):=by
 refine f.put hj ((f.nd j).erase a) (fun s=>?_) fun i s ne=>?_
 ·rw[(f.nd j).mem_erase_iff,hL.mem_erase_iff,f.mem]
  exact and_congr_left fun z_=>not_congr ⟨fun e=>by rw[e],zmD⟩
 ·rw[hL.mem_erase_iff]
  exact⟨fun q=>⟨fun e=>ne (by rw[←zd4 i s,e,zd4]),q⟩,And.right⟩
theorem setset (g:H) (i:Nat) (a b:Cell):(g.set i a).set i b=g.set i b:=List.set_set ..
end
section
variable {P:Tab}{n b d:Nat}{h g:H}{F:Fn}{ρ:List V}{K:List (List Nat)}{r:List Nat→Nat}{C:List Nat→List Nat}{L:List (List Nat)}{j:List Nat}{a:Nat}
noncomputable abbrev En (d:Nat) (j:List Nat) (many:Int) (w o:V):List V:=[.ref d,V.tw j,.int many,w,o]
noncomputable def nsBody:List PS:=[
  .expr (.remove (.idx (.var 0) (.var 1)) (.var 3)),
  .asg 4 (.rev (.bin .add (.var 1) (.tup [.var 3]))),
  .ifs (.call false "goes_on" [.var 0,.var 4,.bin .sub (.var 2) (.int 1)]) [
   .ret (.var 3)] [],
  .expr (.append (.idx (.var 0) (.var 1)) (.var 3))]
theorem idxW {T:List Nat→List V}{o x:PE}(W:Ways b g d K r T) (hj:j∈K) (eo:evE true F ρ o g=.ok (.ref d) g) (ex:evE true F ρ x g=.ok (V.tw j) g):evE true F ρ (.idx o x) g=.ok (.ref (r j)) g:=by
 rw[zak,eo,R.bind_ok,ex,R.bind_ok,zdL (v:=.ref (r j)) W.dc (by rw[zbC,if_pos hj])];rfl
theorem zpf {o k:PE}{c:Nat}{l:List Nat}(eo:evE true F ρ o g=.ok (.ref c) g) (hc:g[c]?=some (.list (V.nats l))) (ek:evE true F ρ k g=.ok (.int a) g) (ha:a∈l) (hl:l.length≤1000):evE true F ρ (.remove o k) g=.ok .none (g.set c (.list (V.nats (l.erase a)))):=by
 rw[zaH,eo,R.bind_ok,if_pos (zed hc),ek,R.bind_ok,zcx hc _ .none (V.nats (l.erase a)) (zlw ha) (by rw[nats_length];exact Nat.le_trans (List.length_erase_le ..) (Nat.le_trans hl (by decide)))]
def Keep (K:List (List Nat)) (r:List Nat→Nat) (g g':H):Prop:=g'.length=g.length∧∀ i,(∀ x∈K,i≠r x)→g'[i]?=g[i]?
theorem Keep.set {g g':H}(k:Keep K r g g') (hj:j∈K) (c:Cell):Keep K r g (g'.set (r j) c):=⟨by rw[List.length_set];exact k.1,fun i hi=>by rw[List.getElem?_set_ne (hi j hj).symm];exact k.2 i hi⟩
theorem zpH (u:zbD P) (f:Lf b g d K r C L) (hL:L.Nodup) (h0:∀ w∈L,0 < w.length) (h9:∀ w∈L,w.length≤9) (hj:j∈K) (hn:L.length≤900) (hc:(C j).length≤1000) (ha:a∈C j) (o:V) :
  (Good L (j++[a])∧exSs true (run P (n+1)) nsBody (En d j (L.length:Nat) (.int a) o) g=.ok (.ret (.int a)) (En d j (L.length:Nat) (.int a) (V.tw (suf (j++[a])))) (g.set (r j) (.list (V.nats ((C j).erase a))))) ∨
  ¬ Good L (j++[a])∧exSs true (run P (n+1)) nsBody (En d j (L.length:Nat) (.int a) o) g=.ok .next (En d j (L.length:Nat) (.int a) (V.tw (suf (j++[a])))) (g.set (r j) (.list (V.nats ((C j).erase a++[a])))):=by
 have hw:=(f.mem j a).1 ha;have hjl:j.length≤8:=by have:=h9 _ hw;rw[List.length_append] at this;exact Nat.le_of_succ_le_succ this
 have e1:=zpf (F:=run P (n+1)) (ρ:=En d j (L.length:Nat) (.int a) o) (k:=.var 3) (idxW f.W hj (o:=.var 0) (x:=.var 1) rfl rfl) (f.W.ls j hj) rfl ha hc;have f1:=f.take (a:=a) hL hj;have hc1:(g.set (r j) (.list (V.nats ((C j).erase a))))[r j]?=some (.list (V.nats ((C j).erase a))):=by rw[List.getElem?_set_self (List.getElem?_eq_some_iff.1 (f.W.ls j hj)).1]
 generalize hg1:g.set (r j) (.list (V.nats ((C j).erase a)))=g1 at e1 f1 hc1;have e2:=zfi (F:=run P (n+1)) (ρ:=En d j (L.length:Nat) (.int a) o) (h:=g1) (a:=.var 1) (c:=.var 3) (j:=j) (s:=a) rfl rfl (Nat.le_trans hjl (by decide))
 have nd1:=hL.erase (j++[a]);have sub:∀ w∈L.erase (j++[a]),w∈L:=fun w hw=>List.mem_of_mem_erase hw;have s9:(suf (j++[a])).length≤9:=by rw[zg8];exact Nat.le_trans (Nat.sub_le ..) (h9 _ hw)
 obtain⟨v,ev,hv⟩:=zp6 (n:=n) u f1 nd1 (fun w hw=>h0 w (sub w hw)) (fun w hw=>h9 w (sub w hw)) s9 (Nat.le_trans (List.length_erase_le ..) hn);have em:evE true (run P (n+1)) (En d j (L.length:Nat) (.int a) (V.tw (suf (j++[a])))) (.bin .sub (.var 2) (.int 1)) g1=.ok (.int ((L.erase (j++[a])).length:Nat)) g1:=by
  refine(zoG (x:=(L.length:Nat)) (y:=1) rfl rfl).trans ?_;rw[List.length_erase_of_mem hw,Int.ofNat_sub (List.length_pos_of_mem hw)];rfl
 have ec:=zeq (F:=run P (n+1)) (ρ:=En d j (L.length:Nat) (.int a) (V.tw (suf (j++[a])))) (h:=g1) (a:=.var 0) (b:=.var 4) (v:=.ref d) (w:=V.tw (suf (j++[a]))) rfl rfl em ev;have go:exSs true (run P (n+1)) nsBody (En d j (L.length:Nat) (.int a) o) g=exSs true (run P (n+1)) (nsBody.drop 2) (En d j (L.length:Nat) (.int a) (V.tw (suf (j++[a])))) g1:=by
  unfold nsBody;rw[zby e1,zcI e2];rfl
 rw[go]
 cases v with
 |true=>exact .inl ⟨hv.1 rfl,(zeR ec).trans rfl⟩
 |false =>
  refine .inr ⟨fun q=>absurd (hv.2 q) (by decide),(zdT ec).trans ?_⟩
  show exSs true (run P (n+1)) [.expr (.append (.idx (.var 0) (.var 1)) (.var 3))] _ _=_;rw[zby (zcd (y:=.int a) (idxW f1.W hj (o:=.var 0) (x:=.var 1) rfl rfl) hc1 rfl (by rw[nats_length];exact Nat.le_trans (List.length_erase_le ..) hc)),← hg1,setset,zat];rfl
inductive InvN (b d:Nat) (g:H) (K:List (List Nat)) (r:List Nat→Nat) (L:List (List Nat)) (j:List Nat) (p:List Nat):List V→H→Prop
 |mk (C':List Nat→List Nat) (w o:V) (g':H) (kp:Keep K r g g') (f':Lf b g' d K r C' L) (bad:∀ s∈p,¬ Good L (j++[s])):InvN b d g K r L j p (En d j (L.length:Nat) w o) g'
inductive EndN (b d:Nat) (g:H) (K:List (List Nat)) (r:List Nat→Nat) (L:List (List Nat)) (j:List Nat):V→H→Prop
 |mk (sg:Nat) (C':List Nat→List Nat) (g':H) (kp:Keep K r g g') (f':Lf b g' d K r C' (L.erase (j++[sg]))) (hm:j++[sg]∈L) (gd:Good L (j++[sg])) (le:∀ s,s < sg→j++[s]∈L→¬ Good L (j++[s])):EndN b d g K r L j (.int (sg:Nat)) g'
theorem zlM (u:zau P) (f:Lf b g d K r C L) (hL:L.Nodup) (h0:∀ w∈L,0 < w.length) (h9:∀ w∈L,w.length≤9) (hj:j∈K) (hn:L.length < 257) (ex:∃ e∈L,pre e=j∧Good L e) :
  ∃ sg C' g',run P (n+2) true "next_sign" [.ref d,V.tw j,.int (L.length:Nat)] g=.ok (.int (sg:Nat)) g'∧Keep K r g g'∧Lf b g' d K r C' (L.erase (j++[sg]))∧j++[sg]∈L∧Good L (j++[sg])∧∀ s,s < sg→j++[s]∈L→¬ Good L (j++[s]):=by
 have cl:∀ {C':List Nat→List Nat}{g':H},Lf b g' d K r C' L→(C' j).length < 257:=fun f'=>by
  rw[zmM f'.nd f'.mem hL h0 j];exact Nat.lt_of_le_of_lt (List.length_filter_le ..) hn
 have ie:evIt true (run P (n+1)) (En d j (L.length:Nat) .undef .undef) (.seq (.bf .sorted (.idx (.var 0) (.var 1)))) g=.ok ((srtN (C j)).map fun s:Nat=>V.int s,Option.none) g :=
  zei (zch (idxW f.W hj (o:=.var 0) (x:=.var 1) rfl rfl) (zdY (zaL (f.W.ls j hj))) (zdW g (C j) (cl f)))
 rcases zmN (F:=run P (n+1)) (x:=3) (body:=nsBody) (InvN b d g K r L j) (fun v z_=>EndN b d g K r L j v)
   ie (fun z_ z_ z_ z_=>rfl) ⟨C,.undef,.undef,_,⟨rfl,fun z_ z_=>rfl⟩,f,fun z_ h=>nomatch h⟩ (fun p a q ρ g' hp I=>by
    obtain⟨C',w,o,g',kp,f',bad⟩:=I;have hC:a∈C j:=(zc0 _).mem_iff.1 (by rw[hp];exact List.mem_append_right _ (List.mem_cons_self ..))
    have ha:a∈C' j:=(f'.mem j a).2 ((f.mem j a).1 hC)
    rcases zpH (n:=n) u.goes_on f' hL h0 h9 hj (Nat.le_trans (Nat.le_of_lt hn) (by decide)) (Nat.le_trans (Nat.le_of_lt (cl f')) (by decide)) ha o with⟨gd,e⟩|⟨bd,e⟩
    ·refine .inr ⟨_,_,_,e,a,_,_,kp.set hj _,f'.take hL hj,(f.mem j a).1 hC,gd,fun s hs hm=>?_⟩
     have hs':s∈srtN (C j):=(zc0 _).mem_iff.2 ((f.mem j s).2 hm);have up:=znt (C j);rw[hp] at hs' up
     rcases List.mem_append.1 hs' with hs'|hs'
     ·exact bad s hs'
     ·rcases List.mem_cons.1 hs' with rfl|hs'
      ·exact absurd hs (Nat.lt_irrefl _)
      ·exact absurd hs (Nat.not_lt.2 ((List.pairwise_cons.1 (List.pairwise_append.1 up).2.1).1 s hs'))
    ·refine .inl ⟨_,_,e,_,_,_,_,kp.set hj _,f'.put hj ?_ (fun s=>?_) fun z_ z_ z_=>Iff.rfl,fun s hs=>?_⟩
     ·rw[List.nodup_append]
      exact⟨(f'.nd j).erase a,by simp,fun x hx y hy e=>by rw[e,List.mem_singleton.1 hy] at hx;exact(f'.nd j).not_mem_erase hx⟩
     ·rw[List.mem_append,List.mem_singleton,(f'.nd j).mem_erase_iff,← f'.mem]
      exact⟨fun q=>q.elim And.right fun e=>e ▸ ha,fun q=>Classical.byCases (fun e:s=a=>.inr e) fun e=>.inl ⟨e,q⟩⟩
     ·rcases List.mem_append.1 hs with hs|hs
      ·exact bad s hs
      ·rw[List.mem_singleton.1 hs];exact bd) with⟨ρ',g',e,⟨C',w,o,g',kp,f',bad⟩⟩|⟨v,ρ',g',e,⟨sg,C',g',r1,r2,r3,r4,r5⟩⟩
 ·obtain⟨x,hx,px,gx⟩:=ex
  have e1:=zbJ (h0 x hx);rw[px] at e1;exact absurd (by rw[e1];exact gx) (bad (lst x) ((zc0 _).mem_iff.2 ((f.mem j _).2 (by rw[e1];exact hx))))
 ·exact⟨sg,C',g',start u.self rfl (ρ:=En d j (L.length:Nat) .undef .undef) rfl (zmU e),r1,r2,r3,r4,r5⟩
end
inductive Tr (m:List Nat) (B:List (List Nat)):List (List Nat)→List (List Nat)→List Nat→Prop
 |first:Tr m B [m] (B.erase m) (suf m)
 |next {es L:List (List Nat)}{j e:List Nat}:Tr m B es L j→e∈L→pre e=j→Good L e→(∀ w∈L,pre w=j→lst w < lst e→¬ Good L w)→Tr m B (es++[e]) (L.erase e) (suf e)
section
variable {m:List Nat}{B es L:List (List Nat)}{j:List Nat}
theorem Tr.perm (t:Tr m B es L j) (hm:m∈B):(es++L).Perm B:=by
 induction t with
 |first=>exact(List.perm_cons_erase hm).symm
 |@next es L j e _ he _ _ _ ih =>
  rw[List.append_assoc];exact(((List.perm_cons_erase he).symm).append_left es).trans ih
theorem Tr.chain (t:Tr m B es L j):∃ q,es=m::q∧(∀ i w w',es[i]?=some w→es[i+1]?=some w'→suf w=pre w')∧∀ w,es[es.length - 1]?=some w→suf w=j:=by
 induction t with
 |first =>
  refine⟨[],rfl,fun i w w' h1 h2=>?_,fun w h=>?_⟩
  ·cases i<;>cases h2
  ·cases h;rfl
 |@next es L j e t he hp _ _ ih =>
  obtain⟨q,e1,e2,e3⟩:=ih;have l0:0 < es.length:=by rw[e1];exact Nat.succ_pos _
  refine⟨q++[e],by rw[e1];rfl,fun i w w' h1 h2=>?_,fun w h=>?_⟩
  ·by_cases hi:i+1 < es.length
   ·rw[List.getElem?_append_left (Nat.lt_of_succ_lt hi)] at h1
    rw[List.getElem?_append_left hi] at h2;exact e2 i w w' h1 h2
   ·have hl:=(List.getElem?_eq_some_iff.1 h2).1
    rw[List.length_append,List.length_singleton] at hl;have hi':i=es.length - 1:=(Nat.sub_eq_of_eq_add (Nat.le_antisymm (Nat.le_of_not_lt hi) (Nat.le_of_lt_succ hl))).symm;rw[hi',List.getElem?_append_left (Nat.sub_lt l0 Nat.one_pos)] at h1;rw[hi',Nat.sub_add_cancel l0,List.getElem?_append_right (Nat.le_refl _),Nat.sub_self] at h2
    cases h2
    rw[e3 w h1,hp]
  ·rw[List.length_append,List.length_singleton,Nat.add_sub_cancel,List.getElem?_append_right (Nat.le_refl _),Nat.sub_self] at h
   cases h;rfl
theorem Tr.least (t:Tr m B es L j):∀ p e q,es=p++e::q→p≠[]→∃ L',L'.Perm (e::q++L)∧∀ w∈L',pre w=pre e→lst w < lst e→¬ Good L' w:=by
 induction t with
 |first =>
  intro p e q h hp
  cases p with
  |nil=>exact absurd rfl hp
  |cons a p=>exact absurd (List.cons.inj h).2.symm (List.append_ne_nil_of_right_ne_nil _ (List.cons_ne_nil _ _))
 |@next es L j e t he hj _ hl ih =>
  intro p x q h hp
  rcases List.eq_nil_or_concat q with rfl|⟨q0,y,rfl⟩
  ·obtain⟨rfl,h2⟩:=List.append_inj' h rfl
   cases h2
   refine⟨L,List.perm_cons_erase he,fun w hw e1=>hl w hw (by rw[e1];exact hj)⟩
  ·rw[List.concat_eq_append] at h ⊢
   have h':es++[e]=(p++x::q0)++[y]:=by rw[h,List.append_assoc];rfl
   obtain⟨h1,h2⟩:=List.append_inj' h' rfl
   cases h2
   obtain⟨L',pl,hl'⟩:=ih p x q0 h1 hp;refine⟨L',pl.trans ?_,hl'⟩;rw[List.cons_append,List.cons_append,List.append_assoc];exact((List.perm_cons_erase he).append_left q0).cons x
end
noncomputable def sgs (B:List (List Nat)) (j:List Nat):List Nat:=(B.filter fun w=>decide (pre w=j)).map lst
theorem zny (B:List (List Nat)) (w:List Nat):(fun j=>if j=pre w then V.nats (sgs B (pre w)++[lst w]) else V.nats (sgs B j))=fun j=>V.nats (sgs (B++[w]) j):=by
 funext j
 unfold sgs;rw[List.filter_append,List.map_append]
 by_cases e:j=pre w
 ·rw[if_pos e,List.filter_cons_of_pos (p:=fun w=>decide (pre w=j)) (decide_eq_true e.symm),e];rfl
 ·rw[if_neg e,List.filter_cons_of_neg (p:=fun w=>decide (pre w=j)) (by rw[decide_eq_false fun q=>e q.symm];exact Bool.false_ne_true)];exact congrArg V.nats (List.append_nil _).symm
theorem zjL {B:List (List Nat)}{j:List Nat}(h:∀ w∈B,pre w≠j):sgs B j=[]:=by
 unfold sgs;rw[List.filter_eq_nil_iff.2];rfl
 intro w hw e;exact h w hw (of_decide_eq_true e)
theorem znx {B:List (List Nat)}(h0:∀ w∈B,0 < w.length) (j:List Nat) (s:Nat):s∈sgs B j↔j++[s]∈B:=by
 unfold sgs;rw[List.mem_map]
 constructor
 ·rintro⟨w,hw,rfl⟩
  obtain⟨h1,h2⟩:=List.mem_filter.1 hw;rw[←of_decide_eq_true h2,zbJ (h0 w h1)];exact h1
 ·exact fun h=>⟨_,List.mem_filter.2 ⟨h,decide_eq_true (zd4 j s)⟩,zmW j s⟩
theorem zo8 {B:List (List Nat)}(hB:B.Nodup) (h0:∀ w∈B,0 < w.length) (j:List Nat):(sgs B j).Nodup:=by
 unfold sgs;rw[List.Nodup,List.pairwise_map];refine(hB.filter _).imp_of_mem fun {a b} ha hb ne e=>ne ?_;obtain⟨a1,a2⟩:=List.mem_filter.1 ha;obtain⟨b1,b2⟩:=List.mem_filter.1 hb;rw[←zbJ (h0 a a1),← zbJ (h0 b b1),of_decide_eq_true a2,of_decide_eq_true b2,e]
section
variable {P:Tab}{n b d:Nat}{h g:H}{F:Fn}{ρ:List V}
theorem zkh {a:PE}{v:V}{w:List Nat}(ea:evE true F ρ a h=.ok v h) (hl:IsL h v w) (h0:0 < w.length):evE true F ρ (.idx a (.neg 1)) h=.ok (.int (lst w)) h:=by
 have hl':litems h v=some (V.nats (pre w)++[.int (lst w)]):=by
  have e:V.nats w=V.nats (pre w)++[.int (lst w)]:=by
   conv=>lhs;rw[←zbJ h0]
   rw[zat];rfl
  rw[←e];exact hl
 generalize V.nats (pre w)=vs at hl';generalize lst w=l at hl' ⊢
 have hp:(place (vs++[V.int l]).length (-1)).bind (fun j=>(vs++[V.int l])[j]?)=some (.int l):=by
  unfold place;rw[if_neg (by decide),List.length_append,show(-1:Int)+((vs.length+[V.int (l:Int)].length:Nat):Int)=vs.length from zd9 _,if_pos (Int.natCast_nonneg _)]
  show(vs++[V.int l])[((vs.length:Nat):Int).toNat]?=_;rw[Int.toNat_natCast,List.getElem?_append_right (Nat.le_refl _),Nat.sub_self];rfl
 rw[zak,ea,R.bind_ok];show R.opt (pyIdx h v (.int (-1))) h=_
 rcases zah hl' with rfl|⟨i,rfl,hc⟩
 ·show R.opt ((place (vs++[V.int l]).length (-1)).bind fun j=>(vs++[V.int l])[j]?) h=_
  rw[hp];rfl
 ·unfold pyIdx
  dsimp only;rw[hc];dsimp only;rw[hp];rfl
noncomputable abbrev Er (S Z:V) (bv left word first joint found many sign:V):List V:=[S,Z,bv,left,word,first,joint,found,many,sign]
noncomputable def lfBody:List PS:=[
  .expr (.append (.setdef (.var 3) (.bf .tuple (.slice (.var 4) .none (some (.neg 1)))) (.own (.list []))) (.idx (.var 4) (.neg 1)))]
inductive InvF (h:H) (S Z bv:V) (B:List (List Nat)):List V→H→Prop
 |mk (K:List (List Nat)) (r:List Nat→Nat) (w:V) (g:H) (x:Ext h g) (W:Ways h.length g h.length K r (fun j=>V.nats (sgs B j))) (hK:∀ j,j∈K↔∃ w∈B,j=pre w) (hl:K.length≤B.length):InvF h S Z bv B (Er S Z bv (.ref h.length) w .undef .undef .undef .undef .undef) g
theorem zlZ {S Z bv:V}{L:List (V × List Nat)}(hb:HB h bv L) (hL:L.length≤400) (nd:(L.map (·.2)).Nodup) (h0:∀ w∈L.map (·.2),0 < w.length):∃ g K r w,exS true F (.for1 4 (.seq (.var 2)) lfBody) (Er S Z bv (.ref h.length) .undef .undef .undef .undef .undef .undef) (h++[.dict []])=.ok .next (Er S Z bv (.ref h.length) w .undef .undef .undef .undef .undef) g∧Ext h g∧Lf h.length g h.length K r (sgs (L.map (·.2))) (L.map (·.2))∧∀ w∈L.map (·.2),pre w∈K:=by
 have hv:=(zd6 hb.it).val;obtain⟨t,ht⟩:=zfO hb.it;have e0:Ext h (h++[Cell.dict []]):=(Ext.refl h).app _;obtain⟨ρ',g',e,⟨K,r,w,g',x,W,hK,_⟩⟩:=zc1 (F:=F) (h:=h++[.dict []]) (x:=4) (it:=.seq (.var 2)) (body:=lfBody) (ρ:=Er S Z bv (.ref h.length) .undef .undef .undef .undef .undef .undef) (t:=t) (l:=L) (c:=(·.1)) (h':=h++[.dict []])
  (fun p=>InvF h S Z bv (p.map (·.2))) (by rw[i_seq,zcL (v:=bv) rfl hv,R.bind_ok,(ht _).1];rfl) (fun p ρ g I=>by
   obtain⟨_,_,_,_,e,_⟩:=I;exact(e.W ht).2) ⟨[],fun z_=>0,.undef,_,e0,⟨zbs _ _,fun z_ h=>(nomatch h),.nil,fun z_ h=>(nomatch h),fun z_ h=>(nomatch h)⟩,fun j=>⟨fun h=>(nomatch h),fun⟨_,h,_⟩=>(nomatch h)⟩,Nat.zero_le _⟩ (fun p a q ρ g hp I=>by
   obtain⟨K,r,w,g,x,W,hK,hl⟩:=I;rw[List.length_map] at hl;have ha:a∈L:=by rw[hp];exact List.mem_append_right _ (List.mem_cons_self ..)
   have ia:=x.L (hb.wd a ha);have a0:0 < a.2.length:=h0 a.2 (List.mem_map.2 ⟨a,ha,rfl⟩);have hpl:p.length≤400:=by rw[hp,List.length_append] at hL;exact Nat.le_trans (Nat.le_add_right ..) hL
   obtain⟨g1,r1,W1,b1,x1,v1⟩:=W.touch (pre a.2) x.len (Nat.le_trans hl (Nat.le_trans hpl (by decide))) (fun q=>congrArg V.nats (zjL fun w hw e=>q ((hK _).2 ⟨w,hw,e.symm⟩))) (Nat.le_refl _)
   have e1:=x1 h (Nat.le_refl _) x;have mj:pre a.2∈touch K (pre a.2):=zbK.2 (.inr rfl);have W2:=W1.push mj (V.nats (sgs (p.map (·.2)) (pre a.2)++[lst a.2]));rw[zny] at W2;have ia1:=e1.L (hb.wd a ha);have s1:=zcd (F:=F) (v1 F (Er S Z bv (.ref h.length) a.1 .undef .undef .undef .undef .undef) (.var 3) _ rfl (zdv (zhS (a:=.var 4) (zcL (v:=a.1) rfl ia.val) ia) (IsL.lst _ _))) (W1.ls _ mj) (zkh (a:=.var 4) (zcL (v:=a.1) rfl ia1.val) ia1 a0) (by
    rw[nats_length];unfold sgs;rw[List.length_map];exact Nat.le_trans (List.length_filter_le ..) (by rw[List.length_map];exact Nat.le_trans hpl (by decide)))
   refine⟨Er S Z bv (.ref h.length) a.1 .undef .undef .undef .undef .undef,g1.set (r1 (pre a.2)) (.list (V.nats (sgs (p.map (·.2)) (pre a.2)++[lst a.2]))),?_,touch K (pre a.2),r1,a.1,_,e1.set (W1.lo _ mj) _,?_,fun j=>?_,?_⟩
   ·show exSs true F lfBody (Er S Z bv (.ref h.length) a.1 .undef .undef .undef .undef .undef) g=_
    unfold lfBody;rw[zby s1,zat];rfl
   ·rw[List.map_append];exact W2
   ·rw[zbK,hK,List.map_append]
    constructor
    ·rintro(⟨w,hw,e⟩|e)
     ·exact⟨w,List.mem_append_left _ hw,e⟩
     ·exact⟨a.2,List.mem_append_right _ (List.mem_cons_self ..),e⟩
    ·rintro⟨w,hw,e⟩
     rcases List.mem_append.1 hw with hw|hw
     ·exact .inl ⟨w,hw,e⟩
     ·rw[List.mem_singleton.1 hw] at e;exact .inr e
   ·rw[List.length_map,List.length_append];exact Nat.le_trans (zdR ..) (Nat.succ_le_succ hl))
 refine⟨g',K,r,w,e,x,⟨W,zo8 nd h0,znx h0,fun j hj=>zjL fun w hw e=>hj ((hK j).2 ⟨w,hw,e.symm⟩)⟩,fun w hw=>(hK _).2 ⟨w,hw,rfl⟩⟩
end
noncomputable def hd (w:List Nat):Nat:=w.getD 0 0
section
variable {P:Tab}{n b d:Nat}{h g:H}{F:Fn}{ρ:List V}{B:List (List Nat)}
theorem zkG {b c:Nat}{X:List V}{s:String}(hb:b≤c) (hc:g[c]?=some (.list X)) (hp:V.plains X=true):frz b g (.tup [.str s,.ref c])=some (.tup [.str s,.lst X]):=by
 have:V.mapRef (frzAt 4 b g) (.ref c)=some (.lst X):=by
  show frzAt 4 b g c=_;rw[zen,if_neg (Nat.not_lt.2 hb),hc];show Option.map _ (V.mapRefs _ X)=_;rw[za5 _ _ hp];rfl
 show(V.mapRefs _ [.str s,.ref c]).map V.tup=_;rw[V.mapRefs,V.mapRefs,this];rfl
theorem zbQ {v w:V}(e:Ext h g) (hf:frz h.length g v=some w):pcall h (.ok v g)=.ok w h:=by
 show(if g.take h.length=h then R.opt (frz h.length g v) h else .bad)=_;rw[if_pos (show g.take h.length=h from e),hf];rfl
theorem zoJ {M J:List (List Nat)}(hM:M.Nodup) (hs:∀ x∈M,x∈J) (hl:¬ M.length < J.length):∀ x∈J,x∈M:=fun x hx=>Classical.byContradiction fun q=>hl (by
 have:=within (b:=J.erase x) hM fun y hy=>(List.mem_erase_of_ne (a:=y) (b:=x) fun e=>q (e ▸ hy)).2 (hs y hy);rw[List.length_erase_of_mem hx] at this;exact Nat.lt_of_le_of_lt this (Nat.sub_lt (List.length_pos_of_mem hx) Nat.one_pos))
def Fine (B:List (List Nat)) (m:List Nat):Prop:=Least B m∧Bal B (pre m) (pre m)∧AllR B (pre m)
def Whole (B:List (List Nat)):Prop:=(∀ j,isJ B j→ins B j=outs B j)∧∃ m,Least B m∧AllR B (pre m)
theorem Fine.whole {m:List Nat}(f:Fine B m):Whole B:=⟨fun j z_=>(Nat.add_right_cancel (f.2.1 j)).symm,m,f.1,f.2.2⟩
theorem zpT (u:za4 P){bv:V}{L:List (V × List Nat)}(hb:HB h bv L) (jb:JB (L.map (·.2))):(∃ m,Fine (L.map (·.2)) m∧pcall h (run P (n+2) true "lack_of" [bv] h)=.ok .none h)∨¬ Whole (L.map (·.2))∧∃ a c,pcall h (run P (n+2) true "lack_of" [bv] h)=.ok (.tup [a,c]) h:=by
 obtain⟨v,g',e,x,l⟩:=zl2 (n:=n) u hb jb;rw[e];generalize L.map (·.2)=B at *
 cases l with
 |uneven c j p q e lo at' js ev ne=>subst e;exact .inr ⟨fun W=>ne (W.1 j (ze9.1 (by rw[js];exact List.mem_append_right _ (List.mem_cons_self ..)))),_,_,zbQ x (zkG lo at' (zb5 _))⟩
 |apart c m M e lo at' ev le nd mem lt=>subst e;exact .inr ⟨fun W=>by
  obtain⟨_,m',le',all⟩:=W;rw[le'.eq le] at all;refine Nat.not_lt.2 (within (zmz B) fun y hy=>(mem y).2 ?_) lt;obtain⟨w,hw,rfl|rfl⟩:=ze9.1 hy
  ·exact all w hw
  ·exact .step hw (all w hw),_,_,zbQ x (zkG lo at' (lists_plains _))⟩
 |fine m M e ev le nd mem ge =>
  subst e;refine .inl ⟨m,⟨le,fun y=>?_,fun w hw=>?_⟩,zbQ x rfl⟩
  ·have:outs B y=ins B y:=by
    by_cases hy:isJ B y
    ·exact(ev y (ze9.2 hy)).symm
    ·unfold outs ins
     rw[List.filter_eq_nil_iff.2 fun w hw e=>hy ⟨w,hw,.inl (of_decide_eq_true e).symm⟩,List.filter_eq_nil_iff.2 fun w hw e=>hy ⟨w,hw,.inr (of_decide_eq_true e).symm⟩]
   rw[this]
  ·exact(mem _).1 (zoJ nd (fun y hy=>ze9.2 (((mem y).1 hy).isJ ⟨m,le.1,.inl rfl⟩)) ge _ (ze9.2 ⟨w,hw,.inl rfl⟩))
theorem Lf.app {K:List (List Nat)}{r:List Nat→Nat}{C:List Nat→List Nat}{L:List (List Nat)}(f:Lf b g d K r C L) (k:H):Lf b (g++k) d K r C L:=⟨f.W.app k,f.nd,f.mem,f.inK⟩
theorem Ext.keep {g':H}{K:List (List Nat)}{r:List Nat→Nat}(e:Ext h g) (k:Keep K r g g') (lo:∀ x∈K,h.length≤r x):Ext h g':=by
 unfold Ext at *
 rw[←e];have hl:h.length≤g.length:=Ext.len e;have e':(List.take h.length g).length=h.length:=by rw[List.length_take,Nat.min_eq_left hl]
 rw[e'];refine List.ext_getElem? fun i=>?_
 by_cases hi:i < h.length
 ·rw[List.getElem?_take_of_lt hi,List.getElem?_take_of_lt hi,k.2 i fun x hx q=>absurd (lo x hx) (Nat.not_le.2 (q ▸ hi))]
 ·rw[List.getElem?_eq_none (by rw[List.length_take,k.1,Nat.min_eq_left hl];exact Nat.le_of_not_lt hi),List.getElem?_eq_none (by rw[e'];exact Nat.le_of_not_lt hi)]
theorem zl9 {a:PE}{v:V}{b:Bool}(ea:evE true F ρ a h=.ok v h) (e:pyIs v .none=some b):evE true F ρ (.cmp .isNot a .none) h=.ok (.bool (!b)) h:=by
 rw[zaj,ea,R.bind_ok];show R.opt (((pyIs v .none).map (!·)).map V.bool) h=_;rw[e];rfl
theorem zp4 {w:List Nat}(h0:0 < w.length):(V.nats w)[0]?=some (.int (hd w)):=zfu (by
 unfold hd;rw[List.getD_eq_getElem?_getD,List.getElem?_eq_getElem h0];rfl)
noncomputable def rgBody:List PS:=[
  .asg 9 (.call true "next_sign" [.var 3,.var 6,.var 8]),
  .expr (.append (.var 7) (.idx (.bin .add (.var 6) (.tup [.var 9])) (.int 0))),
  .asg 6 (.rev (.bin .add (.var 6) (.tup [.var 9])))]
structure St10 (h:H) (B:List (List Nat)) (m:List Nat) (c:Nat) (es L:List (List Nat)) (j:List Nat) (g:H):Prop where
 ext:Ext h g
 lf:∃ K r C,Lf h.length g h.length K r C L∧(∀ w∈L,pre w∈K)∧∀ x∈K,c≠r x
 fc:g[c]?=some (.list (V.nats (es.map hd)))
 tr:Tr m B es L j
 bal:Bal L j (pre m)
 all:AllR L j
theorem znF (u:zau P){m j:List Nat}{c:Nat}{es L:List (List Nat)}{S Z bv wd fi sg:V}(nd:L.Nodup) (h0:∀ w∈L,0 < w.length) (h9:∀ w∈L,w.length≤9) (hn:L.length < 257) (he:es.length≤900) (hc:h.length≤c) (hL:L≠[]) (s:St10 h B m c es L j g) :
  ∃ e sg' g',e∈L∧St10 h B m c (es++[e]) (L.erase e) (suf e) g'∧exSs true (run P (n+2)) rgBody (Er S Z bv (.ref h.length) wd fi (V.tw j) (.ref c) (.int (L.length:Nat)) sg) g=.ok .next (Er S Z bv (.ref h.length) wd fi (V.tw (suf e)) (.ref c) (.int (L.length:Nat)) sg') g':=by
 obtain⟨K,r,C,f,hK,hr⟩:=s.lf;obtain⟨x,hx,px,gx⟩:=zkC nd s.bal s.all hL;have hj:j∈K:=px ▸ hK x hx;obtain⟨a,C',g1,e1,kp,f1,hw,gd,lst'⟩:=zlM (n:=n) u f nd h0 h9 hj hn ⟨x,hx,px,gx⟩;have hjl:j.length≤8:=by have:=h9 _ hw;rw[List.length_append] at this;exact Nat.le_of_succ_le_succ this
 have fc1:g1[c]?=some (.list (V.nats (es.map hd))):=by rw[kp.2 c hr];exact s.fc
 have cl:c < g1.length:=(List.getElem?_eq_some_iff.1 fc1).1;have ea:∀ (j':V) (g':H),evEs true (run P (n+2)) (Er S Z bv (.ref h.length) wd fi (V.tw j) (.ref c) (.int (L.length:Nat)) sg) [.var 3,.var 6,.var 8] g'=.ok [.ref h.length,V.tw j,.int (L.length:Nat)] g':=fun z_ z_=>rfl;have t1:=zjF (F:=run P (n+2)) (ρ:=Er S Z bv (.ref h.length) wd fi (V.tw j) (.ref c) (.int (L.length:Nat)) (.int a)) (h:=g1) (a:=.var 6) (c:=.var 9) (j:=j) (s:=a) rfl rfl (Nat.le_trans hjl (by decide))
 have t2:evE true (run P (n+2)) (Er S Z bv (.ref h.length) wd fi (V.tw j) (.ref c) (.int (L.length:Nat)) (.int a)) (.idx (.bin .add (.var 6) (.tup [.var 9])) (.int 0)) g1=.ok (.int (hd (j++[a]))) g1:=by
  rw[zak,t1,R.bind_ok,zbP,R.bind_ok,show pyIdx g1 (V.tw (j++[a])) (.int 0)=some (.int (hd (j++[a]))) from zoc (j:=0) (zp4 (by rw[List.length_append];exact Nat.succ_pos _))];rfl
 have t3:=zcd (F:=run P (n+2)) (ρ:=Er S Z bv (.ref h.length) wd fi (V.tw j) (.ref c) (.int (L.length:Nat)) (.int a)) (o:=.var 7) rfl fc1 t2 (by rw[nats_length,List.length_map];exact Nat.le_trans he (by decide))
 have e4:V.nats (es.map hd)++[.int (hd (j++[a]))]=V.nats ((es++[j++[a]]).map hd):=by rw[List.map_append,zat];rfl
 rw[e4] at t3;have f2:Lf h.length (g1.set c (.list (V.nats ((es++[j++[a]]).map hd)))) h.length K r C' (L.erase (j++[a])):=by
  refine⟨⟨?_,fun i hi=>?_,f1.W.nd,f1.W.inj,f1.W.lo⟩,f1.nd,f1.mem,f1.inK⟩
  ·rw[List.getElem?_set_ne (fun q=>by have:=f1.W.dc;rw[←q,fc1] at this;cases this)];exact f1.W.dc
  ·rw[List.getElem?_set_ne (hr i hi)];exact f1.W.ls i hi
 refine⟨j++[a],.int a,_,hw,⟨(s.ext.keep kp f.W.lo).set hc _,⟨K,r,C',f2,fun w hw=>hK w (List.mem_of_mem_erase hw),hr⟩,?_,.next s.tr hw (zd4 j a) gd (fun w hw e hl=>?_),?_,gd⟩,?_⟩
 ·rw[List.getElem?_set_self cl]
 ·have e':=zbJ (h0 w hw)
  rw[e] at e';rw[zmW] at hl;rw[←e'] at hw ⊢
  exact lst' _ hl hw
 ·exact s.bal.step hw (zd4 j a)
 ·unfold rgBody
  rw[zcI (callT (ea (V.tw j) g) e1)];show exSs true (run P (n+2)) _ (Er S Z bv (.ref h.length) wd fi (V.tw j) (.ref c) (.int (L.length:Nat)) (.int a)) g1=_;rw[zby t3,zcI (zfi (a:=.var 6) (c:=.var 9) (j:=j) (s:=a) rfl rfl (Nat.le_trans hjl (by decide)))];rfl
end
section
variable {P:Tab}{n b d:Nat}{h g:H}{F:Fn}{ρ:List V}
theorem zov {x:PE}{N:Nat}(hx:evE true F ρ x h=.ok (.int (N:Nat)) h) (hN:1≤N) (hm:N≤1000):evIt true F ρ (.range3 (.bin .sub x (.int 1)) (.int 0) (.neg 1)) h=.ok ((List.range (N - 1)).map fun i:Nat=>V.int (((N - 1:Nat):Int) - (i:Int)),Option.none) h:=by
 have e1:evE true F ρ (.bin .sub x (.int 1)) h=.ok (.int ((N - 1:Nat):Int)) h:=by
  refine(zoG (y:=1) hx rfl).trans ?_;rw[Int.ofNat_sub hN];rfl
 rw[zpm,e1,R.bind_ok];show(if -1000000≤((N - 1:Nat):Int)∧((N - 1:Nat):Int)≤1000000∧-1000000≤(0:Int)∧(0:Int)≤1000000 then rng3 ((N - 1:Nat):Int) 0 (-1) h else .bad)=_;rw[if_pos ⟨Int.le_trans (by decide) (Int.natCast_nonneg _),Int.ofNat_le.2 (Nat.le_trans (Nat.sub_le ..) (Nat.le_trans hm (by decide))),by decide,by decide⟩]
 show(if(-1:Int)=-1 then R.ok (downTo ((N - 1:Nat):Int) 0,Option.none) h else .bad)=_;rw[if_pos rfl];unfold downTo;rw[Int.sub_zero,Int.toNat_natCast]
inductive InvR (h:H) (B:List (List Nat)) (m:List Nat) (c:Nat) (S Z bv wv fi:V) (k:Nat):List V→H→Prop
 |mk (es L':List (List Nat)) (j:List Nat) (mv sg:V) (g:H) (st:St10 h B m c es L' j g) (hes:es.length=k+1):InvR h B m c S Z bv wv fi k (Er S Z bv (.ref h.length) wv fi (V.tw j) (.ref c) mv sg) g
theorem zeU {B:List (List Nat)}{m:List Nat}(hm:m∈B) (nd:B.Nodup){es L':List (List Nat)}{j:List Nat}(t:Tr m B es L' j):es.length+L'.length=B.length∧L'.Nodup∧∀ x∈L',x∈B:=by
 have p:=t.perm hm;exact⟨by rw[←List.length_append,p.length_eq],(List.nodup_append.1 (p.nodup_iff.2 nd)).2.1,fun x hx=>p.mem_iff.1 (List.mem_append_right _ hx)⟩
theorem zjP (u:zau P){B:List (List Nat)}{m:List Nat}{g1:H}{c:Nat}{S Z bv wv fi:V}{it:PIt}(hm:m∈B) (nd:B.Nodup) (h0:∀ w∈B,0 < w.length) (h9:∀ w∈B,w.length≤9) (hn:B.length < 257) (hc:h.length≤c)
  (ie:evIt true (run P (n+4)) (Er S Z bv (.ref h.length) wv fi (V.tw (suf m)) (.ref c) .undef .undef) it g1=.ok ((List.range (B.length - 1)).map fun i:Nat=>V.int (((B.length - 1:Nat):Int) - (i:Int)),Option.none) g1) (st0:St10 h B m c [m] (B.erase m) (suf m) g1) :
  ∃ es g' j mv sg,exS true (run P (n+4)) (.for1 8 it rgBody) (Er S Z bv (.ref h.length) wv fi (V.tw (suf m)) (.ref c) .undef .undef) g1=.ok .next (Er S Z bv (.ref h.length) wv fi (V.tw j) (.ref c) mv sg) g'∧St10 h B m c es [] j g':=by
 obtain⟨ρ',g',e,⟨es,L',j,mv,sg,g',st,hes⟩⟩:=zc1 (F:=run P (n+4)) (x:=8) (body:=rgBody) (fun p=>InvR h B m c S Z bv wv fi p.length) ie (fun z_ z_ z_ z_=>rfl) (InvR.mk [m] _ _ _ _ _ st0 rfl) (fun p a q' ρ g hp I=>by
  obtain⟨es,L',j,mv,sg,g,st,hes⟩:=I;obtain⟨rfl,hlt⟩:=range_at hp;obtain⟨n1,n2,n3⟩:=zeU hm nd st.tr;have hl:L'.length=B.length - 1 - p.length:=by
   rw[←n1,hes,Nat.add_right_comm,Nat.add_sub_cancel,Nat.add_sub_cancel_left]
  have hpos:0 < L'.length:=by rw[hl];exact Nat.sub_pos_of_lt hlt
  obtain⟨e',sg',g',he',st',ex⟩:=znF (n:=n+2) (S:=S) (Z:=Z) (bv:=bv) (wd:=wv) (fi:=fi) (sg:=sg) u n2 (fun x hx=>h0 x (n3 x hx)) (fun x hx=>h9 x (n3 x hx)) (Nat.lt_of_le_of_lt (by rw[←n1];exact Nat.le_add_left ..) hn) (Nat.le_trans (by rw[←n1];exact Nat.le_add_right ..) (Nat.le_trans (Nat.le_of_lt hn) (by decide))) hc (fun e=>by rw[e] at hpos;exact absurd hpos (Nat.lt_irrefl 0)) st
  have em:(((B.length - 1:Nat):Int) - (p.length:Int))=(L'.length:Nat):=by rw[hl,Int.ofNat_sub (Nat.le_of_lt hlt)]
  refine⟨_,g',?_,es++[e'],_,_,.int (L'.length:Nat),sg',_,st',by rw[List.length_append,List.length_append,hes];rfl⟩
  show exSs true (run P (n+4)) rgBody (Er S Z bv (.ref h.length) wv fi (V.tw j) (.ref c) (.int (((B.length - 1:Nat):Int) - (p.length:Int))) sg) g=_;rw[em];exact ex)
 rw[List.length_range] at hes;obtain⟨n1,_,_⟩:=zeU hm nd st.tr;have hL':L'=[]:=List.eq_nil_of_length_eq_zero (by
  rw[hes,Nat.sub_add_cancel (List.length_pos_of_mem hm)] at n1;exact Nat.add_left_cancel (n:=B.length) (k:=0) n1)
 subst hL';exact⟨es,g',j,mv,sg,e,st⟩
theorem zly (u:zaY P){S Z:Nat}{bv:V}{L:List (V × List Nat)}(hf:Fit S Z) (hb:HB h bv L) (w:GW S Z (L.map (·.2))) (jb:JB (L.map (·.2))) (hZ:1≤Z∧Z≤8) (wh:Whole (L.map (·.2))) :
  ∃ es g' c m,run P (n+5) true "ring_of" [.int S,.int Z,bv] h=.ok (.ref c) g'∧Ext h g'∧h.length≤c∧g'[c]?=some (.list (V.nats (es.map hd)))∧Fine (L.map (·.2)) m∧Tr m (L.map (·.2)) es [] (pre m):=by
 have hv:=(zd6 hb.it).val;have e0:evE true (run P (n+4)) (Er (.int S) (.int Z) bv .undef .undef .undef .undef .undef .undef .undef) (.call false "need_book" [.var 0,.var 1,.var 2]) h=.ok .none h:=zeq (zcL (v:=.int S) rfl trivial) (zcL (v:=.int Z) rfl trivial) (zcL (v:=bv) rfl hv) (zpI u.need_book hf hb w);have hLn:L.length < 257:=by have:=jb.cnt;rw[List.length_map] at this;exact this
 rcases zpT (n:=n+2) u.lack_of hb jb with⟨m,fi,el⟩|⟨nw,a,c,el⟩
 ·obtain⟨le,bal,all⟩:=fi
  have h0:∀ x∈L.map (·.2),0 < x.length:=fun x hx=>by rw[w.len x hx];exact hZ.1
  have h9:∀ x∈L.map (·.2),x.length≤9:=fun x hx=>by rw[w.len x hx];exact Nat.le_succ_of_le hZ.2
  obtain⟨g,K,r,wv,e2,x2,f,hK⟩:=zlZ (F:=run P (n+4)) (S:=.int S) (Z:=.int Z) hb (Nat.le_trans (Nat.le_of_lt hLn) (by decide)) w.nodup h0
  have hbg:=x2.B hb;obtain⟨q,hq,em,lq⟩:=zmV (F:=run P (n+4)) (ρ:=Er (.int S) (.int Z) bv (.ref h.length) wv .undef .undef .undef .undef .undef) (a:=.var 2) (zcL rfl hv) hbg (fun e=>w.ne (by rw[e];rfl))
  have hqm:q.2=m:=lq.eq le;have iq:IsL g q.1 m:=hqm ▸ hbg.wd q hq;have m0:=h0 m le.1;have v5:∀ j c mn sg,evE true (run P (n+4)) (Er (.int S) (.int Z) bv (.ref h.length) wv q.1 j c mn sg) (.var 5) g=.ok q.1 g:=fun j c mn sg=>zcL rfl iq.val;have e3:=zdv (zmL (v5 .undef .undef .undef .undef) iq) (IsL.lst _ _);have hKm:=hK m le.1;have hlm:lst m∈sgs (L.map (·.2)) (pre m):=(f.mem _ _).2 (by rw[zbJ m0];exact le.1)
  have e4:=zpf (F:=run P (n+4)) (ρ:=Er (.int S) (.int Z) bv (.ref h.length) wv q.1 (V.tw (suf m)) .undef .undef .undef) (idxW f.W hKm (o:=.var 3) rfl (zdv (zhS (v5 (V.tw (suf m)) .undef .undef .undef) iq) (IsL.lst _ _))) (f.W.ls _ hKm) (zkh (v5 (V.tw (suf m)) .undef .undef .undef) iq m0) hlm (by
   unfold sgs;rw[List.length_map];exact Nat.le_trans (List.length_filter_le ..) (Nat.le_trans (Nat.le_of_lt jb.cnt) (by decide)))
  have f1:=f.take (a:=lst m) w.nodup hKm;rw[zbJ m0] at f1;have x3:=x2.set (f.W.lo _ hKm) (.list (V.nats ((sgs (L.map (·.2)) (pre m)).erase (lst m))));generalize g.set (r (pre m)) (.list (V.nats ((sgs (L.map (·.2)) (pre m)).erase (lst m))))=g1 at e4 f1 x3;have e5:evE true (run P (n+4)) (Er (.int S) (.int Z) bv (.ref h.length) wv q.1 (V.tw (suf m)) .undef .undef .undef) (.own (.list [.idx (.var 5) (.int 0)])) g1=.ok (.ref g1.length) (g1++[.list (V.nats ([m].map hd))]):=by
   refine zhY ?_;have iq1:IsL g1 q.1 m:=hqm ▸ (x3.B hb).wd q hq;rw[zaK,zbG (zm2 (j:=0) (i:=.int 0) (zcL (i:=5) rfl iq1.val) rfl iq1 (zp4 m0)) rfl];rfl
  have st0:St10 h (L.map (·.2)) m g1.length [m] ((L.map (·.2)).erase m) (suf m) (g1++[.list (V.nats ([m].map hd))]) :=
   ⟨x3.app _,⟨K,r,_,f1.app _,fun x hx=>hK x (List.mem_of_mem_erase hx),fun x hx q=>absurd (List.getElem?_eq_some_iff.1 (f1.W.ls x hx)).1 (by rw[q];exact Nat.lt_irrefl _)⟩,zbs _ _,.first,bal.step le.1 rfl,zi7 bal all le.1 rfl⟩
  have hN:(L.map (·.2)).length=L.length:=List.length_map ..
  have ie:=zov (F:=run P (n+4)) (ρ:=Er (.int S) (.int Z) bv (.ref h.length) wv q.1 (V.tw (suf m)) (.ref g1.length) .undef .undef) (h:=g1++[.list (V.nats ([m].map hd))]) (x:=.bf .len (.var 2)) (zcJ (a:=.var 2) (zcL (v:=bv) rfl hv) ((x3.app _).B hb).it) (by rw[List.length_map,← hN];exact List.length_pos_of_mem le.1) (by rw[List.length_map];exact Nat.le_trans (Nat.le_of_lt hLn) (by decide))
  rw[List.length_map,← hN] at ie;obtain⟨es,g',j,mv,sg,e,st⟩:=zjP (n:=n) u.next_sign le.1 w.nodup h0 h9 jb.cnt x3.len ie st0;refine⟨es,g',g1.length,m,?_,st.ext,x3.len,st.fc,⟨le,bal,all⟩,st.bal.nil ▸ st.tr⟩;exact start u.self rfl (ρ:=Er (.int S) (.int Z) bv .undef .undef .undef .undef .undef .undef .undef) rfl (zd7 e0 (zdD (h':=h) (zl9 (zgR (a:=.var 2) (zcL (v:=bv) rfl hv) el) rfl) (zbr (v:=.ref h.length) (h':=h++[Cell.dict []]) rfl (ρ':=Er (.int S) (.int Z) bv (.ref h.length) .undef .undef .undef .undef .undef .undef) rfl (zdy e2 (zbr em (ρ':=Er (.int S) (.int Z) bv (.ref h.length) wv q.1 .undef .undef .undef .undef) rfl (zbr e3 (ρ':=Er (.int S) (.int Z) bv (.ref h.length) wv q.1 (V.tw (suf m)) .undef .undef .undef) rfl (zd7 e4 (zbr e5 (ρ':=Er (.int S) (.int Z) bv (.ref h.length) wv q.1 (V.tw (suf m)) (.ref g1.length) .undef .undef) rfl (zdy e (zbA rfl))))))))))
 ·exact absurd wh nw
end
inductive Ch:List Nat→List (List Nat)→List Nat→Prop
 |nil (j:List Nat):Ch j [] j
 |cons {w:List Nat}{ws:List (List Nat)}{k:List Nat}:Ch (suf w) ws k→Ch (pre w) (w::ws) k
section
variable {j k:List Nat}{q L B:List (List Nat)}
theorem Ch.rch (c:Ch j q k):∀ {s:List Nat},Rch L s j→(∀ w∈q,w∈L)→∀ w∈q,Rch L s (pre w):=by
 induction c with
 |nil j=>exact fun z_ z_ w h=>nomatch h
 |@cons w ws k c ih =>
  intro s r sub x hx
  rcases List.mem_cons.1 hx with rfl|hx
  ·exact r
  ·exact ih (.step (sub _ (List.mem_cons_self ..)) r) (fun y hy=>sub y (List.mem_cons_of_mem _ hy)) x hx
theorem Ch.next (c:Ch j q k):(j=k∨∃ z∈q,j=pre z)∧∀ w∈q,suf w=k∨∃ z∈q,suf w=pre z:=by
 induction c with
 |nil j=>exact⟨.inl rfl,fun z_ h=>nomatch h⟩
 |@cons w ws k c ih =>
  have up:∀ {x:List Nat},(x=k∨∃ z∈ws,x=pre z)→x=k∨∃ z∈w::ws,x=pre z:=fun h=>h.imp id fun⟨z,hz,e⟩=>⟨z,List.mem_cons_of_mem _ hz,e⟩;refine⟨.inr ⟨w,List.mem_cons_self ..,rfl⟩,fun x hx=>?_⟩
  rcases List.mem_cons.1 hx with rfl|hx
  ·exact up ih.1
  ·exact up (ih.2 x hx)
theorem Ch.split {x:List Nat}{D:List (List Nat)}:∀ {A:List (List Nat)}{j:List Nat},Ch j (A++x::D) k→Ch (suf x) D k
 |[],_,.cons c=>c
 |_::A,_,.cons c=>Ch.split (A:=A) c
theorem zod {e:List Nat}(p:L.Perm (e::q)) (c:Ch (suf e) q k):Good L e:=by
 have p':(L.erase e).Perm q:=by have:=p.erase e;rw[List.erase_cons_head] at this;exact this
 exact fun w hw=>c.rch .base (fun y hy=>p'.mem_iff.2 hy) w (p'.mem_iff.1 hw)
theorem zlL {e x:List Nat}{A D:List (List Nat)}(p:L.Perm (x::(A++D))) (he:e∈A) (c:Ch (suf x) D k) (dj:∀ y∈A,pre y≠k∧∀ z∈D,pre y≠pre z):¬ Good L x:=by
 have p':(L.erase x).Perm (A++D):=by have:=p.erase x;rw[List.erase_cons_head] at this;exact this
 have n:=c.next;have key:∀ j,Rch (L.erase x) (suf x) j→j=k∨∃ z∈D,j=pre z:=fun j r=>by
  induction r with
  |base=>exact n.1
  |step hw _ ih =>
   rcases List.mem_append.1 (p'.mem_iff.1 hw) with h|h
   ·exact absurd ih fun q=>q.elim (dj _ h).1 fun⟨z,hz,e⟩=>(dj _ h).2 z hz e
   ·exact n.2 _ h
 intro g;exact(key _ (g e (p'.mem_iff.2 (List.mem_append_left _ he)))).elim (dj e he).1 fun⟨z,hz,q⟩=>(dj e he).2 z hz q
end
noncomputable def cd (j:List Nat):Nat:=j.foldl (fun a d=>a * 10+d) 0
noncomputable def kp (w:List Nat):Nat × Nat:=(cd (pre w),lst w)
noncomputable def dis (A D:List Nat):Bool:=A.all fun x=>!D.contains x
noncomputable def ck1 (k c a:Nat):List Nat→List (Nat × Nat)→Bool
 |_,[]=>true
 |A,p::D=>(!(Nat.beq p.1 c&&Nat.blt p.2 a)||dis A (k::D.map (·.1)))&&ck1 k c a (p.1::A) D
noncomputable def ck (k:Nat):List (Nat × Nat)→Bool
 |[]=>true
 |p::q=>ck1 k p.1 p.2 [p.1] q&&ck k q
theorem zqr (k c a:Nat) (A:List Nat) (p:Nat × Nat) (D:List (Nat × Nat)):ck1 k c a A (p::D)=((!(Nat.beq p.1 c&&Nat.blt p.2 a)||dis A (k::D.map (·.1)))&&ck1 k c a (p.1::A) D):=rfl
theorem zrv (k:Nat) (p:Nat × Nat) (q:List (Nat × Nat)):ck k (p::q)=(ck1 k p.1 p.2 [p.1] q&&ck k q):=rfl
theorem zqo {A D:List Nat}(h:dis A D=true):∀ x∈A,x ∉ D:=fun x hx hd=>by
 have:=List.all_eq_true.1 h x hx;rw[List.contains_iff_mem.2 hd] at this;cases this
theorem znc {k c a:Nat}{x:List Nat}{D:List (List Nat)}(hc:cd (pre x)=c) (ha:lst x < a):∀ {A2 A:List (List Nat)},ck1 k c a (A.map fun w=>cd (pre w)) ((A2++x::D).map kp)=true→∀ y,(y∈A∨y∈A2)→cd (pre y)≠k∧∀ z∈D,cd (pre y)≠cd (pre z)
 |[],A,h,y,hy=>by
  have hy:=hy.resolve_right fun h=>nomatch h;rw[List.nil_append,List.map_cons,zqr] at h;have h1:=(Bool.and_eq_true_iff.1 h).1;rw[show Nat.beq (kp x).1 c=true from(by rw[show(kp x).1=c from hc];exact Nat.beq_refl c),show Nat.blt (kp x).2 a=true from Nat.ble_eq_true_of_le ha] at h1
  have h2:=zqo ((Bool.or_eq_true_iff.1 h1).resolve_left fun q=>nomatch q) _ (List.mem_map.2 ⟨y,hy,rfl⟩);refine⟨fun e=>h2 (List.mem_cons.2 (.inl e)),fun z hz e=>h2 (List.mem_cons_of_mem _ ?_)⟩;rw[List.map_map,e];exact List.mem_map.2 ⟨z,hz,rfl⟩
 |b::A2,A,h,y,hy=>by
  rw[List.cons_append,List.map_cons,zqr] at h;refine znc hc ha (A2:=A2) (A:=b::A) (Bool.and_eq_true_iff.1 h).2 y ?_
  rcases hy with hy|hy
  ·exact .inl (List.mem_cons_of_mem _ hy)
  ·exact(List.mem_cons.1 hy).elim (fun e=>.inl (List.mem_cons.2 (.inl e))) .inr
theorem build {m k:List Nat}{B:List (List Nat)}:∀ {q p L:List (List Nat)}{j:List Nat},Tr m B p L j→L.Perm q→Ch j q k→ck (cd k) (q.map kp)=true→Tr m B (p++q) [] k
 |[],p,L,j,t,h,c,_=>by
  cases c
  rw[List.append_nil,← List.perm_nil.1 h];exact t
 |e::q,p,L,j,t,h,c,o=>by
  cases c with
  |cons c =>
   rw[List.map_cons,zrv] at o;obtain⟨o1,o2⟩:=Bool.and_eq_true_iff.1 o;have he:e∈L:=h.mem_iff.2 (List.mem_cons_self ..);have t':=Tr.next t he rfl (zod h c) fun x hx ex lx=>by
    have hq:=(List.mem_cons.1 (h.mem_iff.1 hx)).resolve_left fun q=>absurd lx (by rw[q];exact Nat.lt_irrefl _)
    obtain⟨A2,D,rfl⟩:=List.append_of_mem hq;have dj:=znc (A:=[e]) (congrArg cd ex) lx o1;have pm:(e::(A2++x::D)).Perm (x::(e::A2++D)):=((List.perm_middle (a:=x) (l₁:=A2) (l₂:=D)).cons e).trans (List.Perm.swap x e _);refine zlL (e:=e) (A:=e::A2) (h.trans pm) (List.mem_cons_self ..) c.split fun y hy=>?_;have:=dj y ((List.mem_cons.1 hy).imp (fun q=>by rw[q];exact List.mem_singleton.2 rfl) id)
    exact⟨fun q=>this.1 (by rw[q]),fun z hz q=>this.2 z hz (by rw[q])⟩
   have p':(L.erase e).Perm q:=by have:=h.erase e;rw[List.erase_cons_head] at this;exact this
   have:=build t' p' c o2;rw[List.append_assoc] at this;exact this
noncomputable def fall (w:List Nat):Bool:=(List.range (w.length - 1)).all fun i=>wlt w (turn w (i+1))
noncomputable def rawP (S Z:Nat) (p:List Nat):List (List Nat):=(p.filter fun i=>decide (Z % (i+1)=0)).flatMap fun i=>(words S (i+1)).filter fall
noncomputable def raw (S Z:Nat):List (List Nat):=rawP S Z (List.range Z)
noncomputable def lf (S Z:Nat):List Nat:=(srt (raw S Z)).flatten
noncomputable def num (S:Nat) (w:List Nat):Nat:=w.foldl (fun a d=>a * S+d) 0
noncomputable def okR (S Z:Nat) (r:List Nat):Bool:=decide (r.length=S ^ Z)&&(r.all (fun d=>decide (d < S))&&(decide (srtN ((rws r Z).map (num S))=List.range (S ^ Z))&&((rws r Z).all (fun w=>decide (word S Z (num S w)=w))&&(ck (cd (pre (rd r Z 0))) ((rws r Z).map kp)&&(words S Z).all (fun t=>!wlt t (rd r Z 0))))))
noncomputable def okP (S Z:Nat):Bool:=decide ((raw S Z).length < 257)&&okR S Z (lf S Z)
section
variable {m:List Nat}{B es L:List (List Nat)}{j:List Nat}
theorem Tr.pos (t:Tr m B es L j):es.length≠0:=by
 obtain⟨q,e,_⟩:=t.chain;rw[e];exact Nat.succ_ne_zero _
theorem Tr.same (h0:∀ w∈B,0 < w.length) (hm:m∈B) (t:Tr m B es L j):∀ {es' L':List (List Nat)}{j':List Nat},Tr m B es' L' j'→es.length=es'.length→es=es'∧L=L'∧j=j':=by
 induction t with
 |first =>
  intro es' L' j' t' hl
  cases t' with
  |first=>exact⟨rfl,rfl,rfl⟩
  |next t1 he hp hg hle =>
   rw[List.length_append] at hl;exact absurd (Nat.succ.inj hl).symm t1.pos
 |@next es L j e t he hp hg hle ih =>
  intro es' L' j' t' hl
  cases t' with
  |first =>
   rw[List.length_append] at hl;exact absurd (Nat.succ.inj hl) t.pos
  |@next _ _ _ e1 t1 he1 hp1 hg1 hle1 =>
   rw[List.length_append,List.length_append] at hl;obtain⟨rfl,rfl,rfl⟩:=ih t1 (Nat.succ.inj hl);have sub:∀ w∈L,0 < w.length:=fun w hw=>h0 w ((t.perm hm).mem_iff.1 (List.mem_append_right _ hw));have:e=e1:=by
    rcases Nat.lt_trichotomy (lst e) (lst e1) with h|h|h
    ·exact absurd hg (hle1 e he hp h)
    ·rw[←zbJ (sub e he),← zbJ (sub e1 he1),hp,hp1,h]
    ·exact absurd hg1 (hle e1 he1 hp1 h)
   subst this;exact⟨rfl,rfl,rfl⟩
end
section
variable {l r:List Nat}{S Z:Nat}{q B:List (List Nat)}{j k:List Nat}
theorem znI {p t:Nat}(ht:t < Z):(rd l Z p)[t]?=some (l.getD ((p+t) % l.length) 0):=by
 unfold rd;rw[List.getElem?_map,List.getElem?_range ht];rfl
theorem zpg (i:Nat):suf (rd l Z i)=pre (rd l Z (i+1)):=by
 refine List.ext_getElem? fun t=>?_;unfold suf pre;rw[List.getElem?_drop,zmP]
 by_cases ht:t < Z - 1
 ·rw[List.getElem?_take_of_lt ht,znI (Nat.add_lt_of_lt_sub' ht),znI (Nat.lt_of_lt_of_le ht (Nat.sub_le ..)),Nat.add_assoc]
 ·rw[List.getElem?_eq_none (by rw[zmP];exact Nat.sub_le_iff_le_add'.1 (Nat.le_of_not_lt ht)),List.getElem?_eq_none (Nat.le_trans (List.length_take_le ..) (Nat.le_of_not_lt ht))]
theorem zpi (l:List Nat) (Z:Nat):∀ n i:Nat,Ch (pre (rd l Z i)) ((List.range' i n).map (rd l Z)) (pre (rd l Z (i+n)))
 |0,i=>.nil _
 |n+1,i=>by
  have:=zpi l Z n (i+1);rw[←zpg,Nat.add_assoc,Nat.add_comm 1 n] at this;rw[List.range'_succ,List.map_cons];exact .cons this
theorem zph:rd l Z (0+l.length)=rd l Z 0:=by
 unfold rd;exact List.map_congr_left fun t z_=>by rw[Nat.zero_add,Nat.zero_add,Nat.add_mod_left]
theorem zpe:Ch (pre (rd l Z 0)) (rws l Z) (pre (rd l Z 0)):=by
 have:=zpi l Z l.length 0;rw[zph,← List.range_eq_range'] at this;exact this
theorem Ch.bal (c:Ch j q k) (x:List Nat):outs q x+(if x=k then 1 else 0)=ins q x+(if x=j then 1 else 0):=by
 induction c with
 |nil j=>rfl
 |@cons w ws k c ih =>
  have e1:outs (w::ws) x=outs ws x+(if x=pre w then 1 else 0):=by
   unfold outs
   by_cases e:x=pre w
   ·rw[if_pos e,List.filter_cons_of_pos (p:=fun w=>decide (pre w=x)) (decide_eq_true e.symm)];rfl
   ·rw[if_neg e,List.filter_cons_of_neg (p:=fun w=>decide (pre w=x)) (by rw[decide_eq_false fun q=>e q.symm];exact Bool.false_ne_true)];rfl
  have e2:ins (w::ws) x=ins ws x+(if x=suf w then 1 else 0):=by
   unfold ins
   by_cases e:x=suf w
   ·rw[if_pos e,List.filter_cons_of_pos (p:=fun w=>decide (suf w=x)) (decide_eq_true e.symm)];rfl
   ·rw[if_neg e,List.filter_cons_of_neg (p:=fun w=>decide (suf w=x)) (by rw[decide_eq_false fun q=>e q.symm];exact Bool.false_ne_true)];rfl
  rw[e1,e2,Nat.add_right_comm,ih]
structure Full (S Z:Nat) (r:List Nat):Prop where
 len:r.length=S ^ Z
 lt:∀ d∈r,d < S
 nums:srtN ((rws r Z).map (num S))=List.range (S ^ Z)
 perm:(rws r Z).Perm (words S Z)
 tr:Tr (rd r Z 0) (words S Z) (rws r Z) [] (pre (rd r Z 0))
 least:Least (words S Z) (rd r Z 0)
 gw:GW S Z (words S Z)
 whole:Whole (words S Z)
 jb:JB (words S Z)
theorem zoi (hf:Fit S Z) (e:okR S Z r=true):Full S Z r:=by
 obtain⟨e1,e⟩:=Bool.and_eq_true_iff.1 e;obtain⟨e2,e⟩:=Bool.and_eq_true_iff.1 e;obtain⟨e3,e⟩:=Bool.and_eq_true_iff.1 e;obtain⟨e4,e⟩:=Bool.and_eq_true_iff.1 e;obtain⟨e5,e6⟩:=Bool.and_eq_true_iff.1 e;have len:=of_decide_eq_true e1;have nums:=of_decide_eq_true e3;have np:((rws r Z).map (num S)).Perm (List.range (S ^ Z)):=by rw[←nums];exact(zc0 _).symm
 have perm:(rws r Z).Perm (words S Z):=by
  have:=np.map (word S Z);rw[List.map_map,List.map_congr_left (f:=word S Z∘num S) (g:=id) fun w hw=>of_decide_eq_true (List.all_eq_true.1 e4 w hw),List.map_id] at this;exact this
 have nd:(words S Z).Nodup:=perm.nodup_iff.1 (List.Pairwise.of_map (num S) (fun a b h q=>h (by rw[q])) (np.nodup_iff.2 List.nodup_range))
 have c:=zpe (l:=r) (Z:=Z);have N0:0 < r.length:=by rw[len];exact Nat.pow_pos hf.s1
 obtain⟨n,hn⟩:∃ n,r.length=n+1:=⟨r.length - 1,(Nat.sub_add_cancel N0).symm⟩;have hw:rws r Z=rd r Z 0::(List.range' 1 n).map (rd r Z):=by
  unfold rws;rw[hn,List.range_eq_range',List.range'_succ,List.map_cons]
 generalize hq:(List.range' 1 n).map (rd r Z)=q at hw;generalize hm:rd r Z 0=m at hw c e5 e6;have hmB:m∈words S Z:=perm.mem_iff.1 (by rw[hw];exact List.mem_cons_self ..)
 have c':Ch (suf m) q (pre m):=by
  rw[hw] at c;exact Ch.split (A:=[]) c
 have tr:Tr m (words S Z) (rws r Z) [] (pre m):=by
  rw[hw] at e5 perm ⊢
  rw[List.map_cons,zrv] at e5;have p':((words S Z).erase m).Perm q:=by have:=perm.symm.erase m;rw[List.erase_cons_head] at this;exact this
  exact build (p:=[m]) .first p' c' (Bool.and_eq_true_iff.1 e5).2
 have cnt:(words S Z).length≤256:=by unfold words;rw[List.length_map,List.length_range];exact hf.few
 have wz:∀ w∈words S Z,w.length=Z:=fun w hw=>by
  obtain⟨k,_,rfl⟩:=List.mem_map.1 hw;exact zb1 ..
 have least:Least (words S Z) m:=⟨hmB,fun t ht=>by
  have:=List.all_eq_true.1 e6 t ht;rw[←Bool.not_not (wlt t m),this];rfl⟩
 have isP:∀ j,isJ (words S Z) j→j∈(words S Z).map pre:=fun j ⟨w,hw,e⟩=>by
  rcases e with rfl|rfl
  ·exact List.mem_map.2 ⟨w,hw,rfl⟩
  ·rcases c.next.2 w (perm.mem_iff.2 hw) with e|⟨z,hz,e⟩
   ·rw[e];exact List.mem_map.2 ⟨m,hmB,rfl⟩
   ·rw[e];exact List.mem_map.2 ⟨z,perm.mem_iff.1 hz,rfl⟩
 refine⟨len,fun d hd=>of_decide_eq_true (List.all_eq_true.1 e2 d hd),nums,perm,hm ▸ tr,hm ▸ least,⟨nd,(fun e=>by rw[e] at hmB;cases hmB),wz,fun w hw=>?_,Nat.le_trans cnt (by decide)⟩,⟨fun j z_=>?_,m,least,fun w hw=>c.rch .base (fun y hy=>perm.mem_iff.1 hy) w (perm.mem_iff.2 hw)⟩,⟨fun K hK hj=>?_,fun K hK hj=>?_,(fun e=>by rw[e] at hmB;cases hmB),Nat.lt_succ_of_le cnt⟩⟩
 ·obtain⟨k,_,rfl⟩:=List.mem_map.1 hw
  exact znh hf.s1 _ _
 ·have:=Nat.add_right_cancel (c.bal j)
  unfold outs ins at *
  rw[←(perm.filter fun w=>decide (pre w=j)).length_eq,← (perm.filter fun w=>decide (suf w=j)).length_eq];exact this.symm
 ·refine Nat.lt_succ_of_le (Nat.le_trans (within (b:=(words S Z).map pre) hK fun x hx=>isP x (hj x hx)) ?_)
  rw[List.length_map];exact cnt
 ·by_cases z2:Z=1
  ·refine .inl (Nat.lt_succ_of_le (within (b:=[[]]) hK fun x hx=>?_))
   rw[List.mem_singleton];refine List.eq_nil_of_length_eq_zero ?_;rw[zku wz (hj x hx),z2]
  ·refine .inr fun t ht e=>z2 ?_
   have:=zku wz (hj t ht);rw[e] at this;exact Nat.le_antisymm (Nat.le_of_sub_eq_zero this.symm) hf.z1
end
section
variable {P:Tab}{n:Nat}{h g:H}{F:Fn}{ρ:List V}{S Z:Nat}{w r:List Nat}{B:List (List Nat)}
theorem itB {i:Nat}(e:ρ[i]?=some (.lst (V.lists B))):evIt true F ρ (.seq (.var i)) h=.ok (B.map fun l=>V.lst (V.nats l),Option.none) h:=zei (zcL e trivial)
theorem eqLL {v w:V}{x y:List (List Nat)}(hv:litems h v=some (V.lists x)) (hw:litems h w=some (V.lists y)):pyEq h v w=some (decide (x=y)):=znL (zgJ hv (lists_plains _)) (zgJ hw (lists_plains _))
theorem zic {x:PE}{N:Nat}(hx:evE true F ρ x h=.ok (.int (N:Nat)) h) (hm:N≤1000):evIt true F ρ (.range2 (.int 1) x) h=.ok ((List.range (N - 1)).map fun i:Nat=>V.int ((i+1:Nat):Int),Option.none) h:=by
 rw[zpn,show evE true F ρ (.int 1) h=.ok (.int 1) h from rfl,R.bind_ok,hx,R.bind_ok];show(if -1000000≤(1:Int)∧(1:Int)≤1000000∧-1000000≤((N:Nat):Int)∧((N:Nat):Int)≤1000000 then R.ok (fromTo 1 (N:Nat),Option.none) h else .bad)=_;rw[if_pos ⟨by decide,by decide,Int.le_trans (by decide) (Int.natCast_nonneg _),Int.ofNat_le.2 (Nat.le_trans hm (by decide))⟩]
 unfold fromTo;rw[show(((N:Nat):Int) - 1).toNat=N - 1 from Int.toNat_sub N 1];refine congrArg (fun l=>R.ok (l,Option.none) h) (List.map_congr_left fun i z_=>?_);rw[Int.natCast_add,Int.add_comm];rfl
theorem Fit.part (hf:Fit S Z){p:Nat}(h1:1≤p) (h2:p≤Z):Fit S p:=⟨hf.s1,hf.s9,h1,Nat.le_trans h2 hf.z8,Nat.le_trans (Nat.pow_le_pow_right hf.s1 h2) hf.few⟩
theorem zcX:(words S Z).length=S ^ Z:=by unfold words;rw[List.length_map,List.length_range]
theorem zpG (u:zbg P){k:Nat}(hS:0 < S) (hZ:Z≤8):pcall h (run P (n+1) true "numbered" [.int S,.int Z,.int k] h)=.ok (.lst (V.nats (word S Z k))) h:=by
 have fin:run P (n+1) true "numbered" [.int S,.int Z,.int k] h=.ok (.lst (V.nats (word S Z k))) (h++[.list (V.nats (word S Z k).reverse)]):=by
  refine start u.self rfl (ρ:=[.int S,.int Z,.int k,.undef,.undef,.undef]) rfl (zbr (v:=.ref h.length) (h':=h++[.list []]) rfl (ρ':=[.int S,.int Z,.int k,.ref h.length,.undef,.undef]) rfl (zbr (v:=.int k) rfl (ρ':=[.int S,.int Z,.int k,.ref h.length,.int k,.undef]) rfl (zhh (l:=List.range Z) (fun p w=>[.int S,.int Z,.int k,.ref h.length,.int ((k / S ^ p.length:Nat):Int),w]) (fun p=>h++[.list (V.nats (word S p.length k).reverse)]) .undef (zdB (n:=Z) rfl (Nat.le_trans hZ (by decide))) (fun z_=>rfl) (by rw[List.length_nil,Nat.pow_zero,Nat.div_one]) rfl (fun p a q w hp=>?_) fun w=>zbA ?_)))
  ·obtain⟨rfl,hi⟩:=range_at hp
   have e2:k / S ^ (p.length+1)=k / S ^ p.length / S:=by rw[Nat.div_div_eq_div_mul,Nat.pow_succ]
   have e3:word S (p.length+1) k=(k / S ^ p.length % S)::word S p.length k:=by
    rw[ziF S (p.length+1) p.length k (Nat.le_succ _),Nat.add_sub_cancel_left];rfl
   have hl:=zb1 S p.length k;rw[List.length_append,show p.length+[p.length].length=p.length+1 from rfl,e2,e3,List.reverse_cons];generalize word S p.length k=wd at *
   generalize k / S ^ p.length=m;have ea:=zcd (F:=run P n) (ρ:=[.int S,.int Z,.int k,.ref h.length,.int (m:Nat),.int p.length]) (o:=.var 3) (a:=.bin .mod (.var 4) (.var 0)) rfl (zbs h (.list (V.nats wd.reverse))) (znY (x:=m) (y:=S) rfl rfl hS) (by rw[nats_length,List.length_reverse,hl];exact Nat.le_trans (Nat.le_of_lt hi) (Nat.le_trans hZ (by decide)))
   rw[zdd] at ea;show exSs true (run P n) _ [.int S,.int Z,.int k,.ref h.length,.int (m:Nat),.int p.length] (h++[.list (V.nats wd.reverse)])=_;rw[zby ea,zcI (zq4 (x:=m) (y:=S) rfl rfl hS),zat];rfl
  ·rw[List.length_range,znd (f:=.listRev) rfl,zcL (v:=.ref h.length) rfl trivial,R.bind_ok,zqx (zaL (zbs h _))]
   show R.ok (V.lst (V.nats (word S Z k).reverse).reverse) _=_;unfold V.nats;rw[←List.map_reverse,List.reverse_reverse]
 rw[fin];exact zbQ ((Ext.refl h).app _) (zc6 _ _ _ (zcy _))
theorem zrq (u:zag P) (hf:Fit S Z):pcall h (run P (n+4) true "all_words" [.int S,.int Z] h)=.ok (.lst (V.lists (words S Z))) h:=by
 have e1:evE true (run P (n+3)) [.int S,.int Z,.undef] (.call false "how_many" [.var 0,.var 1]) h=.ok (.int (S ^ Z:Nat)) h:=zcq (v:=.int S) (w:=.int Z) rfl rfl (by
  rw[zel u.how_many (n+2) S (Nat.lt_of_le_of_lt hf.s9 (by decide)) Z (Nat.le_trans hf.z8 (by decide)),pcall_int,Int.natCast_pow])
 have c:=zeo (F:=run P (n+3)) (ρ:=[.int S,.int Z,.undef]) (h:=h) (elt:=.call false "numbered" [.var 0,.var 1,.var 2]) (x:=2) (zdB e1 (Nat.le_trans hf.few (by decide))) rfl (fun k=>.lst (V.nats (word S Z k))) (fun k z_=>zeq (v:=.int S) (w:=.int Z) (x:=.int k) rfl rfl rfl (zpG (n:=n+2) u.numbered hf.s1 hf.z8)) (r:=.lst (V.lists (words S Z))) (by
  have e:(List.range (S ^ Z)).map (fun k=>V.lst (V.nats (word S Z k)))=V.lists (words S Z):=by unfold V.lists words;rw[List.map_map];rfl
  rw[e,zea (by rw[zcl,zcX];exact Nat.le_trans hf.few (by decide))])
 rw[start u.self rfl (ρ:=[.int S,.int Z,.undef]) rfl (zd7 (zcq (v:=.int S) (w:=.int Z) rfl rfl (zk8 (n:=n) u.need_both hf)) (zbA c)),zbv (v:=.lst (V.lists (words S Z))) (lists_plains _)]
theorem zh7 (w:List Nat):keyL h (.lst (V.nats w))=some (zi w):=zbl w
theorem zqa (u:zbi P) (hw:w.length≤8):pcall h (run P (n+1) true "is_falling" [.lst (V.nats w)] h)=.ok (.bool (fall w)) h:=by
 have ln:=zcJ (F:=run P n) (ρ:=[.lst (V.nats w),.undef]) (h:=h) (a:=.var 0) (v:=.lst (V.nats w)) rfl (litems_lst _ _);rw[nats_length] at ln;have body:∀ i:Nat,evE true (run P n) [.lst (V.nats w),.int ((i+1:Nat):Int)] (.cmp .le (.bin .add (.slice (.var 0) (some (.var 1)) .none) (.slice (.var 0) .none (some (.var 1)))) (.var 0)) h=.ok (.bool (!wlt w (turn w (i+1)))) h:=fun i=>by
  have e6:=zlf (F:=run P n) (ρ:=[.lst (V.nats w),.int ((i+1:Nat):Int)]) (h:=h) (zjK (a:=.var 0) (e:=.var 1) (p:=i+1) (v:=.lst (V.nats w)) rfl (IsL.lst _ _) rfl) (zqQ (a:=.var 0) (e:=.var 1) (p:=i+1) (v:=.lst (V.nats w)) rfl (IsL.lst _ _) rfl) (litems_lst _ _) (litems_lst _ _) (by
   rw[←List.length_append,← zat,nats_length,show(w.drop (i+1)++w.take (i+1)).length=w.length from zln w (i+1)];exact Nat.le_trans hw (by decide))
  rw[←zat] at e6;change evE _ _ _ _ _=.ok (.lst (V.nats (turn w (i+1)))) h at e6;rw[zaj,e6,R.bind_ok];show R.opt (((keyL h (.lst (V.nats (turn w (i+1))))).bind fun x=>(keyL h (.lst (V.nats w))).map fun y=>!lexLt y x).map V.bool) h=_;rw[zh7,zh7];rfl
 rw[start u.self rfl (ρ:=[.lst (V.nats w),.undef]) rfl (zpE (w₀:=.undef) (fun i=>wlt w (turn w (i+1))) (zic ln (Nat.le_trans hw (by decide))) rfl rfl (fun i z_ hb=>?_) (fun ha z_=>?_) fun p a q e hp hb k=>?_),pcall_bool]
 ·have:=body i
  rw[hb] at this;exact(zdT this).trans rfl
 ·refine(zbA (v:=.bool true) rfl).trans ?_
  rw[show fall w=true from List.all_eq_true.2 ha]
 ·have:=body a
  rw[hb] at this;show(RS.then (exSs true (run P n) _ [.lst (V.nats w),.int ((a+1:Nat):Int)] h) k).out=_;rw[zeR this,show fall w=false from List.all_eq_false.2 ⟨a,by rw[e];exact List.mem_append_right _ (List.mem_cons_self ..),by rw[hb];exact Bool.false_ne_true⟩];rfl
theorem zih {o a:PE}{c:Nat}{vs ws:List V}(eo:evE true F ρ o g=.ok (.ref c) g) (hc:g[c]?=some (.list vs)) (ea:evE true F ρ a g=.ok (.lst ws) g) (hl:vs.length+ws.length≤1000000):evE true F ρ (.extend o a) g=.ok .none (g.set c (.list (vs++ws))):=by
 rw[zax,eo,R.bind_ok,if_pos (zed hc),ea,R.bind_ok];exact zcx hc _ .none (vs++ws) rfl (by rw[List.length_append];exact hl)
end
section
variable {P:Tab}{n:Nat}{h g:H}{F:Fn}{ρ:List V}{S Z:Nat}{w r:List Nat}{B:List (List Nat)}
theorem zfp (S Z:Nat) (p q:List Nat):rawP S Z (p++q)=rawP S Z p++rawP S Z q:=by
 unfold rawP;rw[List.filter_append,List.flatMap_append]
theorem zlB (u:zbb P) (hf:Fit S Z) (hr:(raw S Z).length < 257):pcall h (run P (n+5) true "pieces" [.int S,.int Z] h)=.ok (.lst (V.lists (srt (raw S Z)))) h:=by
 have e0:evE true (run P (n+4)) [.int S,.int Z,.ref h.length,.undef,.undef] (.bin .add (.var 1) (.int 1)) (h++[.list []])=.ok (.int (Z+1:Nat)) (h++[.list []]):=(zla (x:=Z) (y:=1) rfl rfl).trans rfl;have fin:run P (n+5) true "pieces" [.int S,.int Z] h=.ok (.lst (V.lists (srt (raw S Z)))) (h++[.list (V.lists (raw S Z))]):=by
  refine start u.self rfl (ρ:=[.int S,.int Z,.undef,.undef,.undef]) rfl (zd7 (zcq (v:=.int S) (w:=.int Z) rfl rfl (zk8 (n:=n+1) u.need_both hf)) (zbr (v:=.ref h.length) (h':=h++[.list []]) rfl (ρ':=[.int S,.int Z,.ref h.length,.undef,.undef]) rfl (zhh (fun z_ w=>[.int S,.int Z,.ref h.length,w,.undef]) (fun p=>h++[.list (V.lists (rawP S Z p))]) .undef (zic e0 (Nat.le_trans (Nat.succ_le_succ hf.z8) (by decide))) (fun z_=>rfl) rfl rfl (fun p i q w hp=>?_) fun w=>zbA ?_)))
  ·obtain⟨rfl,hi⟩:=range_at hp
   have hi:p.length < Z:=hi;have hp:List.range Z=p++p.length::q:=hp;have hl:(V.lists (rawP S Z p)).length≤256:=by
    have:=hr;unfold raw at this;rw[hp,zfp,List.length_append] at this;rw[zcl];exact Nat.le_of_lt_succ (Nat.lt_of_le_of_lt (Nat.le_add_right ..) this)
   have fp:=hf.part (p:=p.length+1) (Nat.le_add_left ..) hi;show exSs true (run P (n+4)) _ [.int S,.int Z,.ref h.length,.int ((p.length+1:Nat):Int),.undef] (h++[.list (V.lists (rawP S Z p))])=.ok .next [.int S,.int Z,.ref h.length,.int ((p.length+1:Nat):Int),.undef] (h++[.list (V.lists (rawP S Z (p++[p.length])))]);have t:=zk7 (q:=true) (F:=run P (n+4)) (ρ:=[.int S,.int Z,.ref h.length,.int ((p.length+1:Nat):Int),.undef]) (h:=h++[.list (V.lists (rawP S Z p))]) (znY (a:=.var 1) (b:=.var 3) (x:=Z) (y:=p.length+1) rfl rfl (Nat.succ_pos _)) (b:=.int 0) (y:=0) rfl
   rw[decide_eq_decide.2 (show(((Z % (p.length+1):Nat):Int)=0)↔Z % (p.length+1)=0 from Int.natCast_eq_zero)] at t
   by_cases hz:Z % (p.length+1)=0
   ·rw[decide_eq_true hz] at t
    have c:=zii (F:=run P (n+4)) (ρ:=[.int S,.int Z,.ref h.length,.int ((p.length+1:Nat):Int),.undef]) (h:=h++[.list (V.lists (rawP S Z p))]) (elt:=.var 4) (cond:=.call false "is_falling" [.var 4]) (x:=4) (zei (zcq (a:=.var 0) (b:=.var 3) (v:=.int S) (w:=.int ((p.length+1:Nat):Int)) rfl rfl (zrq (n:=n) u.all_words fp))) rfl (fun w=>.lst (V.nats w)) fall (fun w hw=>zgR (v:=.lst (V.nats w)) rfl (zqa (n:=n+3) u.is_falling (by
     obtain⟨k,_,rfl⟩:=List.mem_map.1 hw;rw[zb1];exact fp.z8))) (fun w z_ z_=>rfl) (zea (by rw[List.length_map];exact Nat.le_trans (List.length_filter_le ..) (by rw[zcX];exact Nat.le_trans fp.few (by decide))))
    have e:=zih (F:=run P (n+4)) (o:=.var 2) rfl (zbs h _) c (by
     rw[List.length_map];exact Nat.le_trans (Nat.add_le_add hl (Nat.le_trans (List.length_filter_le ..) (by rw[zcX];exact fp.few))) (by decide))
    rw[zdd] at e;rw[zeR t,zfp,show rawP S Z [p.length]=(words S (p.length+1)).filter fall by unfold rawP;rw[List.filter_cons_of_pos (p:=fun i=>decide (Z % (i+1)=0)) (decide_eq_true hz)];exact List.append_nil _,zdA]
    exact(zby e).trans rfl
   ·rw[decide_eq_false hz] at t
    rw[zdT t,zfp,show rawP S Z [p.length]=[] by unfold rawP;rw[List.filter_cons_of_neg (p:=fun i=>decide (Z % (i+1)=0)) (by rw[decide_eq_false hz];exact Bool.false_ne_true)];rfl,List.append_nil (rawP S Z p)];rfl
  ·exact zch (a:=.var 2) (v:=.ref h.length) (vs:=V.lists (raw S Z)) rfl (zdY (zaL (zbs _ _))) (zge _ (raw S Z) hr)
 rw[fin];exact zbQ ((Ext.refl h).app _) (zc6 _ _ _ (lists_plains _))
theorem zn3 (u:zaV P) (hf:Fit S Z) (hr:(raw S Z).length < 257) (hl:(lf S Z).length=S ^ Z):pcall h (run P (n+6) true "least_full" [.int S,.int Z] h)=.ok (.lst (V.nats (lf S Z))) h:=by
 have fin:run P (n+6) true "least_full" [.int S,.int Z] h=.ok (.ref h.length) (h++[.list (V.nats (lf S Z))]):=by
  refine start u.self rfl (ρ:=[.int S,.int Z,.undef,.undef]) rfl (zbr (v:=.ref h.length) (h':=h++[.list []]) rfl (ρ':=[.int S,.int Z,.ref h.length,.undef]) rfl (zhh (l:=srt (raw S Z)) (c:=fun w=>.lst (V.nats w)) (fun z_ w=>[.int S,.int Z,.ref h.length,w]) (fun p=>h++[.list (V.nats p.flatten)]) .undef (zei (zcq (a:=.var 0) (b:=.var 1) (v:=.int S) (w:=.int Z) rfl rfl (zlB (n:=n) u.pieces hf hr))) (fun z_=>rfl) rfl rfl (fun p a q w hp=>?_) fun w=>zbA rfl))
  have hs:p.flatten.length+a.length≤256:=by
   have:=hl;unfold lf at this;rw[hp,List.flatten_append,List.length_append,List.flatten_cons,List.length_append] at this;refine Nat.le_trans (Nat.add_le_add_left (Nat.le_add_right ..) _) (Nat.le_trans (Nat.le_of_eq this) hf.few)
  show exSs true (run P (n+5)) [.expr (.extend (.var 2) (.var 3))] [.int S,.int Z,.ref h.length,.lst (V.nats a)] (h++[.list (V.nats p.flatten)])=.ok .next [.int S,.int Z,.ref h.length,.lst (V.nats a)] (h++[.list (V.nats (p++[a]).flatten)]);have e:=zih (F:=run P (n+5)) (ρ:=[.int S,.int Z,.ref h.length,.lst (V.nats a)]) (o:=.var 2) (a:=.var 3) (ws:=V.nats a) rfl (zbs h (.list (V.nats p.flatten))) rfl (by rw[nats_length,nats_length];exact Nat.le_trans hs (by decide))
  rw[zdd,← zat] at e;rw[List.flatten_append,List.flatten_cons,List.flatten_nil,List.append_nil];exact(zby e).trans rfl
 rw[fin,zd5 _ _ (zoj h _)]
theorem zq1 (r:List Nat) (k p:Nat):num S (rd r (k+1) p)=num S (rd r k p) * S+r.getD ((p+k) % r.length) 0:=by
 unfold num rd;rw[List.range_succ,List.map_append,List.foldl_append];rfl
theorem zlK (u:zbW P) (h1:1≤r.length){p:Nat}(hS:S≤9) (hz:Z≤8):pcall h (run P (n+1) true "_law_number" [.lst (V.nats r),.int p,.int S,.int Z] h)=.ok (.int (num S (rd r Z p):Nat)) h:=by
 rw[start u.self rfl (ρ:=[.lst (V.nats r),.int p,.int S,.int Z,.undef,.undef]) rfl (zbr (v:=.int (0:Nat)) (h':=h) rfl (ρ':=[.lst (V.nats r),.int p,.int S,.int Z,.int (0:Nat),.undef]) rfl (zhh (l:=List.range Z) (fun q w=>[.lst (V.nats r),.int p,.int S,.int Z,.int (num S (rd r q.length p):Nat),w]) (fun z_=>h) .undef (zdB (n:=Z) rfl (Nat.le_trans hz (by decide))) (fun z_=>rfl) rfl rfl (fun q a q' w hp=>?_) fun w=>zbA rfl)),pcall_int]
 ·rw[List.length_range]
 ·obtain⟨rfl,_⟩:=range_at hp
  show exSs true (run P n) _ [.lst (V.nats r),.int p,.int S,.int Z,.int (num S (rd r q.length p):Nat),.int q.length] h=_;have v0:evE true (run P n) [.lst (V.nats r),.int p,.int S,.int Z,.int (num S (rd r q.length p):Nat),.int q.length] (.var 0) h=.ok (.lst (V.nats r)) h:=rfl;have ln:=zcJ v0 (litems_lst _ _);rw[nats_length] at ln;have e:=zla (zoH (q:=true) (a:=.var 4) (b:=.var 2) (x:=(num S (rd r q.length p):Nat)) (y:=S) rfl rfl (Nat.lt_of_le_of_lt hS (by decide))) (zm2 v0 (znY (x:=p+q.length) (zla (a:=.var 1) (b:=.var 5) (x:=p) (y:=q.length) rfl rfl) ln h1) (litems_lst _ _) (zfu (zoe h1 (p+q.length))))
  rw[zcI e,List.length_append,show q.length+[q.length].length=q.length+1 from rfl,zq1,Int.natCast_add,Int.natCast_mul];rfl
end
section
variable {P:Tab}{n:Nat}{h g:H}{F:Fn}{ρ:List V}{S Z:Nat}{w r:List Nat}{B:List (List Nat)}
noncomputable def grow (S:Nat) (B:List (List Nat)):List (List Nat):=B.flatMap fun w=>(List.range S).map fun d=>w++[d]
theorem zgh (s:Nat):∀ m:Nat,List.range (m * s)=(List.range m).flatMap fun i=>(List.range s).map fun d=>i * s+d
 |0=>by rw[Nat.zero_mul];rfl
 |m+1=>by rw[Nat.succ_mul,List.range_add,zgh s m,List.range_succ,List.flatMap_append,List.flatMap_cons,List.flatMap_nil,List.append_nil]
theorem zjq (hS:0 < S) (k:Nat):words S (k+1)=grow S (words S k):=by
 unfold words grow;rw[Nat.pow_succ,zgh,List.map_flatMap,List.flatMap_map];refine congrArg (fun f=>List.flatMap f (List.range (S ^ k))) (funext fun i=>?_);rw[List.map_map];refine List.map_congr_left fun d hd=>?_;show word S (k+1) (i * S+d)=_;have hd:=List.mem_range.1 hd;rw[zhK,Nat.add_comm,Nat.add_mul_div_right _ _ hS,Nat.div_eq_of_lt hd,Nat.zero_add,Nat.add_mul_mod_self_right,Nat.mod_eq_of_lt hd]
theorem zib (A B:List (List Nat)):grow S (A++B)=grow S A++grow S B:=List.flatMap_append
theorem zia (B:List (List Nat)):(grow S B).length=B.length * S:=by
 induction B with
 |nil=>rw[List.length_nil,Nat.zero_mul];rfl
 |cons b B ih =>
  show(((List.range S).map fun d=>b++[d])++grow S B).length=_;rw[List.length_append,List.length_map,List.length_range,ih,List.length_cons,Nat.succ_mul,Nat.add_comm]
noncomputable abbrev Eo (S Z:Nat) (B:List (List Nat)) (st mo wo:V):List V:=[.int S,.int Z,.lst (V.lists B),st,mo,wo,.undef]
theorem zlU (u:zcG P) (hf:Fit S Z):pcall h (run P (n+1) true "_law_words" [.int S,.int Z] h)=.ok (.lst (V.lists (words S Z))) h:=by
 obtain⟨ρ',g',e,mo,wo,st,rfl,rfl⟩:=zc1 (F:=run P n) (x:=3) (it:=.range1 (.var 1)) (body:=[
  .asg 4 (.list []),
  .for1 5 (.seq (.var 2)) [
   .asg 4 (.bin .add (.var 4) (.comp (.bin .add (.var 5) (.list [.var 6])) 6 (.range1 (.var 0)) .none))],
  .asg 2 (.var 4)]) (ρ:=Eo S Z (words S 0) .undef .undef .undef) (h:=h) (fun p ρ g'=>∃ mo wo st,ρ=Eo S Z (words S p.length) st mo wo∧g'=h) (zdB (n:=Z) rfl (Nat.le_trans hf.z8 (by decide))) (fun z_ z_ z_ z_=>rfl) ⟨_,_,_,rfl,rfl⟩ (fun p a q ρ g' hp I=>by
   obtain⟨mo,wo,st,rfl,rfl⟩:=I;obtain⟨rfl,hlt⟩:=range_at hp;have few:∀ k,k≤Z→S ^ k≤256:=fun k hk=>Nat.le_trans (Nat.pow_le_pow_right hf.s1 hk) hf.few;obtain⟨ρ1,g1,e1,wo1,rfl,rfl⟩:=zc1 (F:=run P n) (x:=5) (it:=.seq (.var 2)) (body:=[
     .asg 4 (.bin .add (.var 4) (.comp (.bin .add (.var 5) (.list [.var 6])) 6 (.range1 (.var 0)) .none))]) (ρ:=Eo S Z (words S p.length) (.int p.length) (.lst (V.lists [])) wo) (h:=g') (fun p' ρ g=>∃ wo,ρ=Eo S Z (words S p.length) (.int p.length) (.lst (V.lists (grow S p'))) wo∧g=g') (itB rfl) (fun z_ z_ z_ z_=>rfl) ⟨_,rfl,rfl⟩ (fun p' w q' ρ g1 hp' I=>by
      obtain⟨wo,rfl,rfl⟩:=I;have hm:w∈words S p.length:=by rw[hp'];exact List.mem_append_right _ (List.mem_cons_self ..)
      have wl:w.length≤8:=by
       obtain⟨k,_,rfl⟩:=List.mem_map.1 hm;rw[zb1];exact Nat.le_trans (Nat.le_of_lt hlt) hf.z8
      have gl:(V.lists (grow S p')).length≤256:=by
       have:=few (p.length+1) hlt;rw[←zcX,zjq hf.s1,hp',zib,List.length_append] at this;rw[zcl];exact Nat.le_trans (Nat.le_add_right ..) this
      have S9:S≤9:=hf.s9;have c:=zeo (F:=run P n) (ρ:=Eo S Z (words S p.length) (.int p.length) (.lst (V.lists (grow S p'))) (.lst (V.nats w))) (h:=g1) (elt:=.bin .add (.var 5) (.list [.var 6])) (x:=6) (it:=.range1 (.var 0)) (zdB (n:=S) rfl (Nat.le_trans S9 (by decide))) rfl (fun d=>.lst (V.nats (w++[d]))) (fun d z_=>by
       have:=zlf (F:=run P n) (ρ:=[.int S,.int Z,.lst (V.lists (words S p.length)),.int p.length,.lst (V.lists (grow S p')),.lst (V.nats w),.int d]) (h:=g1) (a:=.var 5) (b:=.list [.var 6]) (v:=.lst (V.nats w)) (w:=.lst (V.nats [d])) rfl rfl (litems_lst _ _) (litems_lst _ _) (by rw[nats_length];exact Nat.le_trans (Nat.add_le_add_right wl 1) (by decide))
       rw[←zat] at this;exact this) (r:=.lst (V.lists (grow S [w]))) (by
       have e:(List.range S).map (fun d=>V.lst (V.nats (w++[d])))=V.lists (grow S [w]):=by
        unfold grow V.lists;rw[List.flatMap_cons,List.flatMap_nil,List.append_nil,List.map_map];rfl
       rw[e,zea (by rw[zcl,zia,List.length_singleton,Nat.one_mul];exact Nat.le_trans S9 (by decide))])
      have ad:=zlf (F:=run P n) (a:=.var 4) (v:=.lst (V.lists (grow S p'))) rfl c (litems_lst _ _) (litems_lst _ _) (by
       rw[zcl (grow S [w]),zia,List.length_singleton,Nat.one_mul];exact Nat.le_trans (Nat.add_le_add gl S9) (by decide))
      rw[←zdA,← zib] at ad;exact⟨_,_,(zcI ad).trans rfl,.lst (V.nats w),rfl,rfl⟩)
   rw[←zjq hf.s1] at e1;refine⟨Eo S Z (words S (p.length+1)) (.int p.length) (.lst (V.lists (words S (p.length+1)))) wo1,g1,?_,_,_,_,by rw[List.length_append];rfl,rfl⟩
   show exSs true (run P n) _ (Eo S Z (words S p.length) (.int p.length) mo wo) g1=_;rw[zcI (v:=.lst (V.lists [])) (h':=g1) rfl];show exSs true (run P n) _ (Eo S Z (words S p.length) (.int p.length) (.lst (V.lists [])) wo) g1=_;rw[ss_cons',e1];rfl)
 rw[List.length_range] at e;rw[start u.self rfl (ρ:=[.int S,.int Z,.undef,.undef,.undef,.undef,.undef]) rfl (zbr (v:=.lst (V.lists (words S 0))) (h':=g') rfl (ρ':=Eo S Z (words S 0) .undef .undef .undef) rfl (zdy e (zbA rfl))),zbv (v:=.lst (V.lists (words S Z))) (lists_plains _)]
end
section
variable {P:Tab}{n:Nat}{h g:H}{F:Fn}{ρ:List V}{S Z:Nat}{w r:List Nat}{B:List (List Nat)}
noncomputable def lstB (B:List (List Nat)):List (V × List Nat):=B.map fun w=>(.lst (V.nats w),w)
theorem zh5 (B:List (List Nat)):(lstB B).map (·.2)=B:=by unfold lstB;rw[List.map_map];exact List.map_id' B
theorem zp5 (h:H) (B:List (List Nat)):HB h (.lst (V.lists B)) (lstB B):=by
 refine⟨?_,fun p hp=>?_⟩
 ·unfold lstB;rw[List.map_map];rfl
 ·obtain⟨w,_,rfl⟩:=List.mem_map.1 hp
  exact IsL.lst h w
theorem zpd (hZ:1≤Z):(rws r Z).map hd=r:=by
 refine List.ext_getElem? fun i=>?_;unfold rws;rw[List.map_map,List.getElem?_map]
 by_cases hi:i < r.length
 ·rw[List.getElem?_range hi,Option.map_some]
  show some (hd (rd r Z i))=_;unfold hd;rw[List.getD_eq_getElem?_getD,znI hZ,Nat.add_zero,Nat.mod_eq_of_lt hi];exact(zrm hi).symm
 ·rw[List.getElem?_eq_none (by rw[List.length_range];exact Nat.le_of_not_lt hi),List.getElem?_eq_none (Nat.le_of_not_lt hi)];rfl
theorem zpS (u:zcK P) (hf:Fit S Z) (f:Full S Z r):pcall h (run P (n+6) true "_law_all" [.int S,.int Z] h)=.ok (.lst (V.nats r)) h:=by
 obtain⟨es,g',c,m,e,x,hc,hl,fi,t⟩:=zly (n:=n) u.ring_of hf (zp5 h (words S Z)) (by rw[zh5];exact f.gw) (by rw[zh5];exact f.jb) ⟨hf.z1,hf.z8⟩ (by rw[zh5];exact f.whole)
 rw[zh5] at fi t;rw[fi.1.eq f.least] at t;have p:=t.perm f.least.1;rw[List.append_nil] at p;obtain⟨rfl,_⟩:=t.same (fun w hw=>by rw[f.gw.len w hw];exact hf.z1) f.least.1 f.tr (p.length_eq.trans f.perm.length_eq.symm)
 rw[zpd hf.z1] at hl;have ew:evE true (run P (n+5)) [.int S,.int Z,.undef] (.call false "ring_of" [.var 0,.var 1,.call false "_law_words" [.var 0,.var 1]]) h=.ok (.lst (V.nats r)) h:=zeq (v:=.int S) (w:=.int Z) rfl rfl (zcq (v:=.int S) (w:=.int Z) rfl rfl (zlU (n:=n+4) u.l_words hf)) (by rw[e];exact zbQ x (zdi hc hl))
 have hb:exSs true (run P (n+5)) [.ret (.call false "ring_of" [.var 0,.var 1,.call false "_law_words" [.var 0,.var 1]])] [.int S,.int Z,.undef] h=.ok (.ret (.lst (V.nats r))) [.int S,.int Z,.undef] h:=by
  rw[ss_cons',znJ,ew];rfl
 rw[start u.self rfl (ρ:=[.int S,.int Z,.undef]) rfl (show(exSs true (run P (n+5)) [.try _ _ _ _] _ h).out=.ok (.lst (V.nats r)) h by
  rw[ss_cons',zgi,if_neg (by decide),hb];rfl),zbv (zcy _)]
noncomputable def zcQ:List V:=[.tup [.int 2,.int 3],.tup [.int 3,.int 2],.tup [.int 2,.int 4],.tup [.int 3,.int 3],.tup [.int 2,.int 2],.tup [.int 4,.int 2],.tup [.int 2,.int 5],.tup [.int 5,.int 2],.tup [.int 3,.int 1],.tup [.int 1,.int 4],.tup [.int 2,.int 6],.tup [.int 9,.int 1],.tup [.int 4,.int 3]]
noncomputable def zhc:List V:=[.tup [.int 2,.int 8],.tup [.int 4,.int 4],.tup [.int 3,.int 5],.tup [.int 6,.int 3],.tup [.int 1,.int 8],.tup [.int 9,.int 2],.tup [.int 5,.int 3],.tup [.int 2,.int 7],.tup [.int 3,.int 4],.tup [.int 1,.int 6]]
def goodP (x:V):Prop:=∃ S Z:Nat,Fit S Z∧okP S Z=true∧x=.tup [.int S,.int Z]
theorem zae (S Z:Nat) (q:1≤S∧S≤9∧1≤Z∧Z≤8∧S ^ Z≤256) (o:okP S Z=true):goodP (.tup [.int S,.int Z]):=⟨S,Z,⟨q.1,q.2.1,q.2.2.1,q.2.2.2.1,q.2.2.2.2⟩,o,rfl⟩
theorem good13:∀ x∈zcQ,goodP x :=
 zac (zae 2 3 (by decide) (by decide +kernel)) (zac (zae 3 2 (by decide) (by decide +kernel)) (zac (zae 2 4 (by decide) (by decide +kernel)) (zac (zae 3 3 (by decide) (by decide +kernel)) (zac (zae 2 2 (by decide) (by decide +kernel)) (zac (zae 4 2 (by decide) (by decide +kernel)) (zac (zae 2 5 (by decide) (by decide +kernel)) (zac (zae 5 2 (by decide) (by decide +kernel)) (zac (zae 3 1 (by decide) (by decide +kernel)) (zac (zae 1 4 (by decide) (by decide +kernel)) (zac (zae 2 6 (by decide) (by decide +kernel)) (zac (zae 9 1 (by decide) (by decide +kernel)) (zac (zae 4 3 (by decide) (by decide +kernel)) zle))))))))))))
theorem ok28:okP 2 8=true:=by decide +kernel
theorem ok44:okP 4 4=true:=by decide +kernel
theorem ok35:okP 3 5=true:=by decide +kernel
theorem ok63:okP 6 3=true:=by decide +kernel
theorem good10:∀ x∈zhc,goodP x :=
 zac (zae 2 8 (by decide) ok28) (zac (zae 4 4 (by decide) ok44) (zac (zae 3 5 (by decide) ok35) (zac (zae 6 3 (by decide) ok63) (zac (zae 1 8 (by decide) (by decide +kernel)) (zac (zae 9 2 (by decide) (by decide +kernel)) (zac (zae 5 3 (by decide) (by decide +kernel)) (zac (zae 2 7 (by decide) (by decide +kernel)) (zac (zae 3 4 (by decide) (by decide +kernel)) (zac (zae 1 6 (by decide) (by decide +kernel)) zle)))))))))
theorem zpp (u:zdq P) (c:Int):∃ S Z:Nat,Fit S Z∧okP S Z=true∧pcall h (run P (n+1) true "_law_pair" [.int c] h)=.ok (.tup [.int S,.int Z]) h:=by
 have t:=zk7 (q:=true) (F:=run P n) (ρ:=[.int c,.lst zcQ]) (h:=h) (zmv (y:=9) (zk9 (a:=.var 0) (x:=c) (y:=13) rfl (b:=.int 13) rfl (by decide)) (b:=.int 9) rfl (by decide)) (b:=.int 1) (y:=1) rfl
 have go:∀ (v:V),(exSs true (run P n) (ziD.body.drop 1) [.int c,.lst zcQ] h).out=.ok v h→run P (n+1) true "_law_pair" [.int c] h=.ok v h:=fun v hres=>start u.self rfl (ρ:=[.int c,.undef]) rfl (zbr (v:=.lst zcQ) (h':=h) rfl (ρ':=[.int c,.lst zcQ]) rfl hres)
 by_cases q:(c.fdiv 13).fmod 9=1
 ·rw[decide_eq_true q] at t
  obtain⟨j,hj,ej,x,hx,ex⟩:=zky (h:=h) (vs:=zhc) (i:=c.fdiv 117) (m:=10) (by decide) rfl
  obtain⟨S,Z,h1,h2,rfl⟩:=good10 x (List.mem_of_getElem? hx);refine⟨S,Z,h1,h2,?_⟩;rw[go _ (zlJ t (zbA (v:=.tup [.int S,.int Z]) ?_)),zbv rfl];show(R.bind (R.ok (V.lst zhc) h) _)=_;rw[R.bind_ok,zmv (x:=c.fdiv 117) (y:=10) (zk9 (a:=.var 0) (x:=c) (y:=117) rfl (b:=.int 117) rfl (by decide)) rfl (by decide),R.bind_ok]
  exact congrArg (fun o=>R.opt o h) ex
 ·rw[decide_eq_false q] at t
  obtain⟨j,hj,ej,x,hx,ex⟩:=zky (h:=h) (vs:=zcQ) (i:=c) (m:=13) (by decide) rfl
  obtain⟨S,Z,h1,h2,rfl⟩:=good13 x (List.mem_of_getElem? hx);refine⟨S,Z,h1,h2,?_⟩;rw[go _ (zdD t (zbA (v:=.tup [.int S,.int Z]) ?_)),zbv rfl];rw[zak,zcL (v:=.lst zcQ) rfl trivial,R.bind_ok,zmv (x:=c) (y:=13) rfl rfl (by decide),R.bind_ok]
  exact congrArg (fun o=>R.opt o h) ex
end
section
variable {P:Tab}{n:Nat}{h g:H}{F:Fn}{ρ:List V}{S Z:Nat}{w r:List Nat}{B:List (List Nat)}
noncomputable abbrev El (s:List Int) (S Z:Nat) (r nu:V):List V:=[V.ints s,.int S,.int Z,r,nu,.undef,.undef]
theorem zro {a b:PE}{r:List PE}(ea:evE true F ρ a h=.ok (.bool true) h):evE true F ρ (.and (a::b::r)) h=evE true F ρ (.and (b::r)) h:=by
 rw[e_and,e_and2,ea];rfl
theorem zrp {a:PE}:evE true F ρ (.and [a]) h=evE true F ρ a h:=rfl
theorem znw {a b c:PE}{y z:Nat}(ea:evE true F ρ a h=.ok (.int 0) h) (eb:evE true F ρ b h=.ok (.int y) h) (ec:evE true F ρ c h=.ok (.int z) h) (h2:y < z):evE true F ρ (.cmp2 .le .lt a b c) h=.ok (.bool true) h:=by
 rw[zaD,ea,R.bind_ok,eb,R.bind_ok,cmp_le_int,decide_eq_true (Int.natCast_nonneg y)];show(evE true F ρ c h).bind _=_;rw[ec,R.bind_ok,cmp_lt_int,decide_eq_true (Int.ofNat_lt.2 h2)];rfl
theorem zq7 (u:zbq P) (s:List Int) (hf:Fit S Z) (f:Full S Z r):(exSs true (run P (n+7)) (zmy.body.drop 2) (El s S Z (.lst (V.nats r)) .undef) h).out=.ok (.bool true) h:=by
 have pw:∀ nu,evE true (run P (n+7)) (El s S Z (.lst (V.nats r)) nu) (.call false "_law_power" [.var 1,.var 2]) h=.ok (.int (S ^ Z:Nat)) h:=fun nu=>zcq (v:=.int S) (w:=.int Z) rfl rfl (by
  rw[zlA u.l_power (n+6) S (Nat.lt_of_le_of_lt hf.s9 (by decide)) Z (Nat.le_trans hf.z8 (by decide)),pcall_int,Int.natCast_pow])
 have v3:evE true (run P (n+7)) (El s S Z (.lst (V.nats r)) .undef) (.var 3) h=.ok (.lst (V.nats r)) h:=rfl;have l3:=zcJ v3 (litems_lst _ _);rw[nats_length] at l3;have h1:1≤r.length:=by rw[f.len];exact Nat.pow_pos hf.s1
 have h2:r.length≤256:=by rw[f.len];exact hf.few
 have t1:=zqK (zdz (zks v3 (litems_lst _ _))) (zqM l3 (pw .undef) (t:=true) (by rw[pyEq_int,f.len,decide_eq_true rfl]))
 have t2:=zii (F:=run P (n+7)) (ρ:=El s S Z (.lst (V.nats r)) .undef) (h:=h) (elt:=.var 5) (cond:=.or [.isinst (.var 5) [.bool],.not (.cmp2 .le .lt (.int 0) (.var 5) (.var 1))]) (x:=5) (it:=.seq (.var 3)) (l:=r) (c:=V.nat) (zei v3) rfl V.nat (fun z_=>false) (fun d hd=>zqK (x:=false) (y:=false) rfl (zdz (x:=true) (znw (y:=d) (z:=S) rfl rfl rfl (f.lt d hd)))) (fun z_ z_ e=>nomatch e) (r:=.lst (V.lists [])) (by rw[List.filter_eq_nil_iff.2 fun z_ z_=>Bool.false_ne_true];rfl)
 have c:=zeo (F:=run P (n+7)) (ρ:=El s S Z (.lst (V.nats r)) .undef) (h:=h) (elt:=.call false "_law_number" [.var 3,.var 6,.var 1,.var 2]) (x:=6) (zdB l3 (Nat.le_trans h2 (by decide))) rfl (fun p=>.int (num S (rd r Z p):Nat)) (fun p z_=>by
  rw[zan,zbG (v:=.lst (V.nats r)) rfl (zbG (v:=.int p) rfl (zbG (v:=.int S) rfl (zbG (v:=.int Z) rfl rfl))),R.bind_ok];exact zlK (n:=n+6) u.l_number h1 hf.s9 hf.z8) (r:=.lst (V.nats ((rws r Z).map (num S)))) (by
  have e:(List.range r.length).map (fun p=>V.int (num S (rd r Z p):Nat))=V.nats ((rws r Z).map (num S)):=by unfold V.nats rws;rw[List.map_map,List.map_map];rfl
  rw[e,zea (by rw[nats_length,List.length_map,zjO];exact Nat.le_trans h2 (by decide))])
 refine zdD t1 (zdD (zqM (w:=.lst (V.lists [])) (t:=true) t2 rfl ((eqLL rfl rfl).trans (by rw[decide_eq_true rfl]))) (zbr c (ρ':=El s S Z (.lst (V.nats r)) (.lst (V.nats ((rws r Z).map (num S))))) rfl (zbA ?_)))
 have s4:=zch (F:=run P (n+7)) (ρ:=El s S Z (.lst (V.nats r)) (.lst (V.nats ((rws r Z).map (num S))))) (h:=h) (a:=.var 4) (v:=.lst (V.nats ((rws r Z).map (num S)))) rfl (zdY (litems_lst _ _)) (zdW h _ (by rw[List.length_map,zjO];exact Nat.lt_succ_of_le h2))
 rw[f.nums] at s4;have s5:evE true (run P (n+7)) (El s S Z (.lst (V.nats r)) (.lst (V.nats ((rws r Z).map (num S))))) (.bf .listRange (.call false "_law_power" [.var 1,.var 2])) h=.ok (.lst (V.nats (List.range (S ^ Z)))) h:=by
  rw[znd (f:=.listRange) rfl,pw,R.bind_ok];show R.opt (if -1000000≤((S ^ Z:Nat):Int)∧((S ^ Z:Nat):Int)≤1000000 then some (V.lst (upto ((S ^ Z:Nat):Int))) else Option.none) h=_;rw[if_pos ⟨Int.le_trans (by decide) (Int.natCast_nonneg _),Int.ofNat_le.2 (Nat.le_trans hf.few (by decide))⟩];rfl
 rw[zro (zru s4 s5 (t:=true) ((zmS (IsL.lst _ _) (IsL.lst _ _)).trans (by rw[decide_eq_true rfl]))),zrp]
 exact zru (zcq (v:=.int S) (w:=.int Z) rfl rfl (zpS (n:=n+1) u.l_all hf f)) (w:=.lst (V.nats r)) rfl (t:=true) ((zmS (IsL.lst _ _) (IsL.lst _ _)).trans (by rw[decide_eq_true rfl]))
theorem law_eq (u:zbq P) (n:Nat) (s:List Int):∃ H',run P (n+8) true "law" [V.ints s] []=.ok (.bool true) H':=by
 obtain⟨S,Z,hf,ok,ep⟩:=zpp (n:=n+6) (h:=[]) u.l_pair (cellAt s 0);obtain⟨o1,o2⟩:=Bool.and_eq_true_iff.1 ok;have f:=zoi hf o2;exact⟨[],start u.self rfl (ρ:=[V.ints s,.undef,.undef,.undef,.undef,.undef,.undef]) rfl (zpF (vs:=[.int S,.int Z]) (zgR (zcq (v:=V.ints s) (w:=.int (0:Nat)) rfl rfl (zqs (n:=n+6) u.l_cell_at s 0)) ep) (ρ':=El s S Z .undef .undef) rfl (zbr (zcq (v:=.int S) (w:=.int Z) rfl rfl (zn3 (n:=n+1) u.least_full hf (of_decide_eq_true o1) f.len)) (ρ':=El s S Z (.lst (V.nats (lf S Z))) .undef) rfl (zq7 u s hf f)))⟩
end
end L12
end Mine
set_option maxRecDepth 100000
set_option maxHeartbeats 8000000
namespace Mine
open PySem PySem.W PyProof.Rows
theorem b2:(defOf view PySem.Challenge.rw_uf010021_12.row.name).isSome=true:=by kernel_rfl
theorem b3:PySem.Challenge.rw_uf010021_12.row.prog.theDef PySem.Challenge.rw_uf010021_12.row.name=(defOf view PySem.Challenge.rw_uf010021_12.row.name).map fun x=>(x.1.params,x.1.body,x.1.scope):=by kernel_rfl
theorem b4:((defOf view PySem.Challenge.rw_uf010021_12.row.name).map fun x=>kwWritten? x.1.params.kwonlyargs x.1.params.kw_defaults)=(defOf view PySem.Challenge.rw_uf010021_12.row.name).map fun x=>some x.2:=by kernel_rfl
theorem b5:(chainsOk view&&opensWell PySem.Challenge.rw_uf010021_12.row.prog&&(frees PySem.Challenge.rw_uf010021_12.row.toRowW&&PySem.Challenge.rw_uf010021_12.row.within.isEmpty))=true:=by kernel_rfl
theorem b6:PySem.Challenge.rw_uf010021_12.row.prog.bare:=⟨rfl,rfl,rfl,rfl,rfl,by decide +kernel⟩
theorem b7:PySem.Challenge.rw_uf010021_12.row.toRowW.promised:=by w_witness2
theorem b8:importsNone view=true:=by kernel_rfl
theorem b9:zg9 view=true:=by kernel_rfl
theorem b10:defChk view L12.fns L12.nums L12.tl=true:=by kernel_rfl
theorem b11:fnsChk view L12.fns=true:=by kernel_rfl
set_option tactic.hygienic true in
theorem b12 {w:World}{s₀ s₁:Shared}{args:List WData}{vals:List Value}{as:List Addr}(hpre:PySem.Challenge.rw_uf010021_12.row.claim.pre args=true) (hlay:WData.layableAll args=true) (hrd:ReadsAllW PySem.Challenge.rw_uf010021_12.row.records (classAt s₀.heap) s₁.heap vals args as) (hwl:WellAll w.params s₁.heap vals args) (hlo:∀ a∈as,(a == sysModules)=false):∃ a xs l,vals=[Value.ref a]∧s₁.heap.IsList a (List.toArray xs)∧IntsAre xs l∧¬ (63:Int) < (l.length:Int):=by
 wrow_args hpre hlay hrd hwl hlo
 rename_i hL _ _ _ hI _ hc _
 exact⟨_,_,_,rfl,hL,hI,hc⟩
end Mine
open PySem PySem.W PyProof.Rows
theorem PySem.Challenge.cw_uf010021_12_holds : PySem.Challenge.rw_uf010021_12.Holds := by
 refine Mine.zl1 Mine.b0 (row_said Mine.b0) Mine.b1 Mine.b2 Mine.b3 Mine.b4 rfl Mine.b5 Mine.b6 Mine.b7 ?_;intro d kwd hdef w s₀ s₁ mg mb G Y fa o pm cd doc dV kV ho hd hcd hD hmg hg args vals as hpre hlay hrd hwl hlo;rw[defOf_name hdef] at hmg
 clear ho hd hcd hD hdef
 refine Mine.hold fun X_ k_=>?_;obtain⟨K,KX,k3,k5,k8⟩:=Y;obtain⟨a,xs,l,rfl,hL,hI,hc⟩:=Mine.b12 hpre hlay hrd hwl hlo;obtain⟨H',hrun⟩:=Mine.L12.law_eq Mine.L12.znk 0 l;refine k_ (Ground.open G fun T B D TE TW=>Mine.zpR T KX Mine.b8 rfl k3 Mine.b9 k5 Mine.b10 Mine.b11 k8 (List.contains_iff_mem.1 (by kernel_rfl)) hmg hL hI hc (by decide) hrun fun s' hs hk=>?_)
 obtain⟨h',tk,rfl⟩:=hs;exact⟨.inl ⟨.bool true,.bool true,[],rfl,fun z_=>rfl,.bool true,by kernel_rfl,unshared_nil⟩,.of_keep hk,rfl,.of_eq hg⟩
