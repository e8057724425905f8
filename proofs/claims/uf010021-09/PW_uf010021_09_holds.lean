import PyProof.Rows.All
import Wide.All
import OpenK.AllK
import Wide.FinOn
import PySem.Value
import PyProof.Cells
import PyProof.CompFree
import PyProof.StationsW
import PyProof.RulesTry
import PyProof.TupleIter
import PyProof.TupleKey
import PyProof.DictKinds
import OpenK.KCall
import PyProof.NoPylong
import PyProof.Rows.IntRules
import PyProof.Rows.RuleB_sub
import PyProof.Rows.RuleB_mul
import PyProof.Rows.RuleB_mod
import PyProof.Rows.RuleB_floordiv
import PyProof.Rows.RuleB_pow
import PyProof.Rows.TupAdd
import PyProof.Rows.ListMul
import PyProof.ListMulAny
import PyProof.FitsBits
import PyProof.EqLayable
import PyProof.P3In
import PyProof.IsRules
import PyProof.PureInt
import PyProof.Rows.RuleC_int
import KE.KSortAsk
import PyProof.MeetsSeq3
import PyProof.FactsAll.list_2
import PyProof.Rows.SortWalk
import PyProof.MinMaxWalk
import PyProof.DictRoadsH
import PyProof.Rows.SeqSlice
import PyProof.SliceMore
import PyProof.ListIndexNeg
import PyProof.LetGo
import PyProof.Rows.TupSub
import PyProof.WalksMore
import PyProof.RangeFor
import PyProof.DictIter
import PyProof.DictWalks
import KE.KDictList
import PyProof.ConsumeWalk
import PyProof.TupleOfSeq
import PyProof.TupleCall
import PyProof.ListCopy
import PyProof.CallStr
import PyProof.Conv_int_bool
import PyProof.ListRange
import KE.KRevIter
import KE.KIsAll
import PyProof.Rows.StrJoin2
import PyProof.SeqWrite
import PyProof.ExcArgsOwn
import KE.KTryMore
import PyProof.MakeMany
import PyProof.CallType
import PyProof.CallRoads
import KE.KSortTup
import PyProof.FactsAll.str_0
import PyProof.FactsAll.str_5
import PyProof.FactsAll.list_0
import PyProof.FactsAll.list_3
import PyProof.FactsAll.list_4
import PyProof.MeetsSeq
import PyProof.Rows.TupMore
import PyProof.FactsAll.dict_3
import PyProof.Rows.TupDisplay
import PyProof.ForRange
import PyProof.Rows.Range3
import KE.KStateDown
import PyProof.CompMap
import PyProof.ExcAttrAll.ValueError
import PyProof.CompUse
import PyProof.Raises
import PyProof.Rows.TupAssign
import PyProof.ForAny
import PyProof.ExcBaseAll.ValueError
import PyProof.NsDelKeeps
import PyProof.RulesAs
import OpenK.KWalk
import PyProof.Rows.Top
import PyProof.Rows.TupIn
import Wide.BridgeG
import Wide.Loose
import Open.Head
import PySem.Challenge.RW_uf010021_09
set_option tactic.hygienic false
set_option Elab.async false
set_option bootstrap.genMatcherCode false
set_option genSizeOf false
set_option linter.unusedSimpArgs false
set_option linter.unusedVariables false
section
set_option maxRecDepth 100000
set_option maxHeartbeats 8000000
namespace Mine
open PySem PySem.W PyProof.Rows
noncomputable def zag:List String:=["RingError","BadSize","BadWord","BadBook","BadRing","NoWord","NoRing","NoJoin"]
noncomputable def bTab:List (Str × Value) :=
 [("len",.builtin "len"),("all",.builtin "all"),("any",.builtin "any"),("isinstance",.builtin "isinstance"),("sorted",.builtin "sorted"),("min",.builtin "min"),("sum",.builtin "sum"),
  ("list",.type "list"),("tuple",.type "tuple"),("int",.type "int"),("str",.type "str"),("bool",.type "bool"),("range",.type "range"),("reversed",.type "reversed"),
  ("enumerate",.type "enumerate"),("ValueError",.type "ValueError")]
noncomputable def refB (o:Option (Option Value)) (f:Addr→Bool):Bool:=match o with
 |some (some (.ref C))=>f C
 |_=>false
noncomputable def excOne (K:Frag) (c:String) (C:Addr):Bool :=
 findIn K (.ref C) "__getattribute__" == some (some (.builtin "BaseException.__getattribute__"))&&(findIn K (.ref C) "__getattr__" == some none&&((clsIn K C).isSome&&(findIn K (.ref C) "__class__" == some (some (.builtin "object.__class__")) &&
 (specialIn K (.builtin "object.__class__") "__get__" == some (some (.builtin "getset_descriptor.__get__"))&&(takesIn K (.builtin "object.__class__") == some true &&
 (mroIn K C (.type "object") == some true&&(kitOne K (.ref C) (.type "ValueError") == some true &&
 ((zag.all fun d=>refB (nsIn K mainGlobals (Str.ofString d)) fun D=>kitOne K (.ref C) (.ref D) == some (c == d||d == "RingError")) &&
 refB (nsIn K mainGlobals (Str.ofString "RingError")) fun D=>exmOne K (.ref C) (.ref D) == some true))))))))
noncomputable def excChk (K:Frag):Bool:=zag.all fun c=>refB (nsIn K mainGlobals (Str.ofString c)) (excOne K c)
noncomputable def btChk (K:Frag):Bool:=bTab.all fun q=>nsIn K mainGlobals q.1 == some none&&bootBuiltins q.1 == some q.2&&q.1 != ("__name__":Str)
noncomputable def intB (o:Option (Option Value)) (i:Int):Bool:=match o with
 |some (some (.int j _))=>j == i
 |_=>false
noncomputable def zf5 (K:Frag) (nums:List (String × Int)):Bool:=nums.all fun q=>intB (nsIn K mainGlobals (Str.ofString q.1)) q.2
noncomputable def zk7 (h:Heap):List Addr:=zag.filterMap fun c=>match h.nsMap mainGlobals (Str.ofString c) with
 |some (.ref C)=>some C
 |_=>none
noncomputable def fragAt (h:Heap) (as:List Addr):Frag:=as.filterMap fun a=>(h.get? a).map fun o=>(a,o)
noncomputable def exFrag (h:Heap):Frag:=fragAt h (mainGlobals::zk7 h++(zk7 h).filterMap fun C=>match h.get? C with
 |some ⟨_,_,.cls cd,_⟩=>some cd.ns
 |_=>none)
noncomputable def hookB (nums:List (String × Int)) (h:Heap):Bool:=excChk (exFrag h)&&btChk (exFrag h)&&zf5 (exFrag h) nums
noncomputable def keepAt (is:List Nat) (p:Program):Program:={ p with main:={ p.main with body:=(p.main.body.zipIdx.filter fun x=>is.contains x.2).map (·.1) } }
namespace L09
noncomputable def nums:List (String × Int):=[("MOST_SIGNS",9),("MOST_SIZE",8),("MOST_WORDS",256)]
end L09
noncomputable def view:Program:=keepAt ((List.range 47).filter fun i=>!([0,9,19,23,30,34].contains i)) PySem.Challenge.rw_uf010021_09.row.prog
theorem b0:PySem.Challenge.rw_uf010021_09.wellSaid=true:=by kernel_rfl
theorem b1:LeftO PySem.Challenge.rw_uf010021_09.row.prog view [] (fun s=>xlAt view [] s&&recOk (RowW.records PySem.Challenge.rw_uf010021_09.row.toRowW) s) (fun s=>hookB L09.nums s.heap) (fun z_=>true) 4976:=fun w=>by kernel_rfl
end Mine
end
namespace Mine
theorem zeA (m:Nat):(-1:Int)+((m+1:Nat):Int)=m:=by rw[Int.natCast_succ,Int.add_comm,Int.add_assoc];exact Int.add_zero _
theorem hold {G:Prop}(h:∀ X:Prop,(G→X)→X):G:=h G id
inductive V where
 |undef
 |none
 |bool (b:Bool)
 |int (i:Int)
 |str (s:String)
 |tup (vs:List V)
 |lst (vs:List V)
 |ref (i:Nat)
 |exc (c:String)
 |dct
inductive Cell where
 |list (vs:List V)
 |dict (es:List (V × V))
abbrev H:=List Cell
noncomputable instance:DecidableEq V:=fun z_ z_=>Classical.propDecidable _
noncomputable instance:DecidableEq Cell:=fun z_ z_=>Classical.propDecidable _
inductive R (α:Type) where
 |ok (a:α) (h:H)
 |err (c:String) (h:H)
 |bad
noncomputable def R.bind {α β:Type}(r:R α) (f:α→H→R β):R β :=
 match r with
 |.ok a h=>f a h
 |.err c h=>.err c h
 |.bad=>.bad
@[simp] theorem R.bind_ok {α β:Type}(a:α) (h:H) (f:α→H→R β):(R.ok a h).bind f=f a h:=rfl
noncomputable def R.opt {α:Type}(o:Option α) (h:H):R α :=
 match o with
 |some a=>.ok a h
 |none=>.bad
@[simp] theorem R.opt_some {α:Type}(a:α) (h:H):R.opt (some a) h=.ok a h:=rfl
mutual
noncomputable def V.mapRef (g:Nat→Option V):V→Option V
 |.tup vs=>(V.mapRefs g vs).map .tup
 |.lst vs=>(V.mapRefs g vs).map .lst
 |.ref i=>g i
 |.undef=>some .undef
 |.none=>some .none
 |.bool b=>some (.bool b)
 |.int i=>some (.int i)
 |.str s=>some (.str s)
 |.exc c=>some (.exc c)
 |.dct=>some .dct
noncomputable def V.mapRefs (g:Nat→Option V):List V→Option (List V)
 |[]=>some []
 |v::vs=>(V.mapRef g v).bind fun v'=>(V.mapRefs g vs).map (v'::·)
end
noncomputable def frzAt:Nat→Nat→H→Nat→Option V
 |0,n,_,i=>if i < n then some (.ref i) else Option.none
 |k+1,n,h,i =>
  if i < n then some (.ref i)
  else match h[i]? with
   |some (.list vs)=>(V.mapRefs (frzAt k n h) vs).map .lst
   |_=>Option.none
noncomputable def frz (n:Nat) (h:H) (v:V):Option V:=V.mapRef (frzAt 4 n h) v
mutual
noncomputable def V.plain:V→Bool
 |.tup vs=>V.plains vs
 |.lst vs=>V.plains vs
 |.ref _=>false
 |_=>true
noncomputable def V.plains:List V→Bool
 |[]=>true
 |v::vs=>V.plain v&&V.plains vs
end
mutual
theorem zbB (g:Nat→Option V):∀ v:V,v.plain=true→V.mapRef g v=some v
 |.tup vs,h=>by simp only[V.plain] at h;simp[V.mapRef,zaA g vs h]
 |.lst vs,h=>by simp only[V.plain] at h;simp[V.mapRef,zaA g vs h]
 |.ref _,h=>by simp[V.plain] at h
 |.undef,_=>rfl
 |.none,_=>rfl
 |.bool _,_=>rfl
 |.int _,_=>rfl
 |.str _,_=>rfl
 |.exc _,_=>rfl
 |.dct,_=>rfl
theorem zaA (g:Nat→Option V):∀ vs:List V,V.plains vs=true→V.mapRefs g vs=some vs
 |[],_=>rfl
 |v::vs,h=>by
  simp only[V.plains,Bool.and_eq_true] at h;simp[V.mapRefs,zbB g v h.1,zaA g vs h.2]
end
noncomputable def items (h:H):V→Option (List V)
 |.lst vs=>some vs
 |.tup vs=>some vs
 |.ref i=>match h[i]? with
  |some (.list vs)=>some vs
  |_=>Option.none
 |_=>Option.none
noncomputable def litems (h:H):V→Option (List V)
 |.lst vs=>some vs
 |.ref i=>match h[i]? with
  |some (.list vs)=>some vs
  |_=>Option.none
 |_=>Option.none
mutual
noncomputable def peq:V→V→Bool
 |.none,.none=>true
 |.bool a,.bool b=>a == b
 |.bool a,.int b=>(if a then 1 else 0) == b
 |.int a,.bool b=>a == (if b then 1 else 0)
 |.int a,.int b=>a == b
 |.str a,.str b=>a == b
 |.tup a,.tup b=>peqs a b
 |.lst a,.lst b=>peqs a b
 |_,_=>false
noncomputable def peqs:List V→List V→Bool
 |[],[]=>true
 |a::as,b::bs=>peq a b&&peqs as bs
 |_,_=>false
end
theorem zl5:peq .none .none=true:=rfl
theorem zl6 (a b:Bool):peq (.bool a) (.bool b)=(a == b):=rfl
theorem zhL (a b:Int):peq (.int a) (.int b)=(a == b):=rfl
theorem zoj (a b:String):peq (.str a) (.str b)=(a == b):=rfl
theorem zoi (a b:List V):peq (.tup a) (.tup b)=peqs a b:=rfl
theorem zf2 (a b:List V):peq (.lst a) (.lst b)=peqs a b:=rfl
theorem zgP (a b:V) (as bs:List V):peqs (a::as) (b::bs)=(peq a b&&peqs as bs):=rfl
noncomputable def V.ok:Nat→V→Bool
 |0,_=>false
 |n+1,v=>match v with
  |.undef=>false
  |.exc _=>false
  |.ref _=>false
  |.dct=>false
  |.tup vs=>vs.all (V.ok n)
  |.lst vs=>vs.all (V.ok n)
  |_=>true
noncomputable def pyEq (h:H) (a b:V):Option Bool :=
 match frz 0 h a,frz 0 h b with
 |some a,some b=>if V.ok 8 a&&V.ok 8 b then some (peq a b) else Option.none
 |_,_=>Option.none
noncomputable def asInts:List V→Option (List Int)
 |[]=>some []
 |.int i::vs=>(asInts vs).map (i::·)
 |_=>Option.none
noncomputable def lexLt:List Int→List Int→Bool
 |[],[]=>false
 |[],_::_=>true
 |_::_,[]=>false
 |a::as,b::bs=>if a=b then lexLt as bs else decide (a < b)
noncomputable def pyLt:V→V→Option Bool
 |.int a,.int b=>some (decide (a < b))
 |_,_=>Option.none
inductive Cop where
 |eq|ne|lt|le|gt|ge|is|isNot|isin|notIn
noncomputable def zi9:V→Option (List V)
 |.lst vs=>some vs
 |.tup vs=>some vs
 |_=>Option.none
noncomputable def isIn (h:H) (a b:V):Option Bool :=
 match frz 0 h a,frz 0 h b with
 |some a,some b=>if V.ok 8 a&&V.ok 8 b then(zi9 b).map fun vs=>vs.any fun y=>peq y a else Option.none
 |_,_=>Option.none
noncomputable def keyT:V→Option (List Int)
 |.tup vs=>asInts vs
 |_=>Option.none
noncomputable def keyOk (k:V):Bool:=(keyT k).isSome
noncomputable def dfind (k:V):List (V × V)→Option V
 |[]=>Option.none
 |(k',v)::es=>if k=k' then some v else dfind k es
noncomputable def dput (k v:V):List (V × V)→List (V × V)
 |[]=>[(k,v)]
 |(k',v')::es=>if k=k' then(k',v)::es else(k',v')::dput k v es
noncomputable def pyIn (h:H) (a b:V):Option Bool :=
 match b with
 |.ref i=>match h[i]? with
  |some (.dict es)=>if keyOk a then some (dfind a es).isSome else Option.none
  |_=>isIn h a b
 |_=>isIn h a b
noncomputable def pyIs (a b:V):Option Bool :=
 match b with
 |.none=>match a with
  |.none=>some true
  |.undef=>Option.none
  |_=>some false
 |.bool y=>match a with
  |.bool x=>some (x == y)
  |_=>Option.none
 |_=>Option.none
noncomputable def pyCmp (op:Cop) (h:H) (a b:V):Option Bool :=
 match op with
 |.eq=>pyEq h a b
 |.ne=>(pyEq h a b).map (!·)
 |.lt=>pyLt a b
 |.gt=>pyLt b a
 |.le=>(pyLt b a).map (!·)
 |.ge=>(pyLt a b).map (!·)
 |.is=>pyIs a b
 |.isNot=>(pyIs a b).map (!·)
 |.isin=>pyIn h a b
 |.notIn=>(pyIn h a b).map (!·)
inductive Bop where
 |add|sub|mul|fdiv|mod|pow
noncomputable def rep {α:Type}(vs:List α) (n:Int):List α:=(List.replicate n.toNat vs).flatten
noncomputable def mkL (vs:List V):Option V:=if vs.length≤1000000 then some (.lst vs) else Option.none
noncomputable def mkT (vs:List V):Option V:=if vs.length≤1000000 then some (.tup vs) else Option.none
noncomputable def int2 (f:Int→Int→Option V) (a b:V):Option V :=
 match a with
 |.int x=>match b with
  |.int y=>f x y
  |_=>Option.none
 |_=>Option.none
noncomputable def pyAdd (h:H) (a b:V):Option V :=
 match a with
 |.int x=>match b with
  |.int y=>some (.int (x+y))
  |_=>Option.none
 |.tup x=>match b with
  |.tup y=>mkT (x++y)
  |_=>Option.none
 |a=>(litems h a).bind fun x=>(litems h b).bind fun y=>mkL (x++y)
noncomputable def pyMul (h:H) (a b:V):Option V :=
 match b with
 |.int n=>match a with
  |.int x=>if x.natAbs < 9223372036854775808∨n.natAbs < 9223372036854775808 then some (.int (x * n)) else Option.none
  |a=>if -1000000 < n∧n < 1000000 then(litems h a).bind fun vs=>mkL (rep vs n) else Option.none
 |_=>Option.none
noncomputable def pyBin (op:Bop) (h:H) (a b:V):Option V :=
 match op with
 |.add=>pyAdd h a b
 |.sub=>int2 (fun x y=>some (.int (x - y))) a b
 |.mul=>pyMul h a b
 |.fdiv=>int2 (fun x y=>if y=0 then Option.none else some (.int (x.fdiv y))) a b
 |.mod=>int2 (fun x y=>if y=0 then Option.none else some (.int (x.fmod y))) a b
 |.pow=>int2 (fun x y=>if x=10∧y=20 then some (.int 100000000000000000000) else Option.none) a b
theorem zcX (f:Int→Int→Option V) (a b:V):int2 f a b=Option.none∨∃ x y,a=.int x∧b=.int y:=by
 cases a with
 |int x=>cases b with
  |int y=>exact .inr ⟨x,y,rfl,rfl⟩
  |_=>exact .inl rfl
 |_=>exact .inl rfl
theorem zew (h:H) (a b:V):pyAdd h a b=Option.none∨(∃ x y,a=.int x∧b=.int y)∨(∃ x y,a=.tup x∧b=.tup y)∨∃ x y,litems h a=some x∧litems h b=some y∧pyAdd h a b=mkL (x++y):=by
 have go:pyAdd h a b=((litems h a).bind fun x=>(litems h b).bind fun y=>mkL (x++y))→pyAdd h a b=Option.none∨∃ x y,litems h a=some x∧litems h b=some y∧pyAdd h a b=mkL (x++y):=fun e=>by
  rw[e]
  cases litems h a with
  |none=>exact .inl rfl
  |some x=>cases litems h b with
   |none=>exact .inl rfl
   |some y=>exact .inr ⟨x,y,rfl,rfl,rfl⟩
 cases a with
 |int x=>cases b with
  |int y=>exact .inr (.inl ⟨x,y,rfl,rfl⟩)
  |_=>exact .inl rfl
 |tup x=>cases b with
  |tup y=>exact .inr (.inr (.inl ⟨x,y,rfl,rfl⟩))
  |_=>exact .inl rfl
 |_=>exact(go rfl).imp id fun h=>.inr (.inr h)
theorem zhK (h:H) (a b:V):pyMul h a b=Option.none∨(∃ x y,a=.int x∧b=.int y)∨∃ n,b=.int n∧pyMul h a b=if -1000000 < n∧n < 1000000 then(litems h a).bind fun vs=>mkL (rep vs n) else Option.none:=by
 cases b with
 |int n=>cases a with
  |int x=>exact .inr (.inl ⟨x,n,rfl,rfl⟩)
  |_=>exact .inr (.inr ⟨n,rfl,rfl⟩)
 |_=>exact .inl rfl
noncomputable def place (n:Nat) (i:Int):Option Nat :=
 if 0≤i then(if i < n then some i.toNat else Option.none)
 else if 0≤i+n then some (i+n).toNat else Option.none
noncomputable def pyIdx (h:H) (a i:V):Option V :=
 match a with
 |.ref r=>match h[r]? with
  |some (.dict es)=>if keyOk i then dfind i es else Option.none
  |some (.list vs)=>match i with
   |.int k=>(place vs.length k).bind fun j=>vs[j]?
   |_=>Option.none
  |none=>Option.none
 |.lst vs=>match i with
  |.int k=>(place vs.length k).bind fun j=>vs[j]?
  |_=>Option.none
 |.tup vs=>match i with
  |.int k=>(place vs.length k).bind fun j=>vs[j]?
  |_=>Option.none
 |_=>Option.none
noncomputable def cut (n:Nat) (i:Int):Nat :=
 if i < 0 then(i+n).toNat else min i.toNat n
noncomputable def slc {α:Type}(vs:List α) (lo hi:Option Int):List α :=
 let a:=match lo with|some i=>cut vs.length i|none=>0
 let b:=match hi with|some i=>cut vs.length i|none=>vs.length
 (vs.take b).drop a
noncomputable def asInt?:V→Option Int
 |.int i=>some i
 |_=>Option.none
noncomputable def zbp (h:H) (a:V) (lo hi:Option V):Option V :=
 match lo.mapM asInt?,hi.mapM asInt? with
 |some lo,some hi=>(litems h a).map fun vs=>.lst (slc vs lo hi)
 |_,_=>Option.none
inductive Ty where
 |int|bool|list|tuple|valueError
 |own (c:String)
deriving DecidableEq
noncomputable def isExc (c:String) (t:Ty):Option Bool :=
 if zag.contains c then
  match t with
  |.own d=>if zag.contains d then some (c == d||d == "RingError") else Option.none
  |.valueError=>some true
  |_=>Option.none
 else Option.none
noncomputable def refTy:Option Cell→Ty→Option Bool
 |some (.list _),t=>some (t == .list)
 |some (.dict _),_=>some false
 |none,_=>Option.none
noncomputable def isTy (h:H) (v:V) (t:Ty):Option Bool :=
 match v with
 |.undef=>Option.none
 |.exc _=>Option.none
 |.ref i=>refTy h[i]? t
 |.lst _=>some (t == .list)
 |.tup _=>some (t == .tuple)
 |.bool _=>some (t == .bool||t == .int)
 |.int _=>some (t == .int)
 |_=>some false
noncomputable def isTys (h:H) (v:V):List Ty→Option Bool
 |[]=>some false
 |t::ts=>match isTy h v t with
  |some true=>some true
  |some false=>isTys h v ts
  |none=>Option.none
noncomputable def truthy:V→Option Bool
 |.bool b=>some b
 |_=>Option.none
inductive Bf where
 |len|list|tuple|sorted|min|sum|any|all|int|str|listRev|listRange
noncomputable def Bf.walks (f:Bf):Bool:=f.casesOn false false false true true true true true false false true true
noncomputable def Bf.ready (f:Bf):Bool:=f.casesOn true true true
 true
 true
 false
 false
 true
 true
 false
 true
 false
noncomputable def isort {α:Type}(lt:α→α→Bool):List α→List α
 |[]=>[]
 |x::xs=>insertBy' lt x (isort lt xs)
where
 insertBy' (lt:α→α→Bool) (x:α):List α→List α
  |[]=>[x]
  |y::ys=>if lt y x then y::insertBy' lt x ys else x::y::ys
noncomputable def V.ints (l:List Int):V:=.lst (l.map .int)
noncomputable def V.words (l:List (List Int)):V:=.lst (l.map V.ints)
noncomputable def keyed {α:Type}(f:V→Option α):List V→Option (List (α × V))
 |[]=>some []
 |v::vs=>(f v).bind fun a=>(keyed f vs).map ((a,v)::·)
noncomputable def keyL (h:H) (v:V):Option (List Int):=(litems h v).bind asInts
noncomputable def keyI:V→Option Int
 |.int i=>some i
 |_=>Option.none
noncomputable def keyT1:V→Option (List Int)
 |.tup (v::vs)=>asInts (v::vs)
 |_=>Option.none
noncomputable def sortBy {α:Type} [DecidableEq α] (lt:α→α→Bool) (l:List (α × V)):Option (List V) :=
 if l.length < 64&&l.all (fun p=>l.all fun q=>decide (p.1=q.1→p.2=q.2)) then some ((isort (fun a b=>lt a.1 b.1) l).map (·.2)) else Option.none
noncomputable def sortVs (h:H) (vs:List V):Option (List V) :=
 match keyed keyI vs with
 |some l=>sortBy (fun a b=>decide (a < b)) l
 |none=>match keyed (keyL h) vs with
  |some l=>sortBy lexLt l
  |none=>match keyed keyT1 vs with
   |some l=>sortBy lexLt l
   |none=>if vs.length < 2 then some vs else Option.none
noncomputable def dictOf (h:H) (o:V):Option (List (V × V)) :=
 match o with
 |.ref r=>match h[r]? with
  |some (.dict es)=>some es
  |_=>Option.none
 |_=>Option.none
noncomputable def zcN (a:List Int) (v:V):List (List Int × V)→V
 |[]=>v
 |p::l=>if lexLt p.1 a then zcN p.1 p.2 l else zcN a v l
noncomputable def minVs (h:H) (vs:List V):Option V :=
 match keyed (keyL h) vs with
 |some (p::l)=>some (zcN p.1 p.2 l)
 |_=>Option.none
noncomputable def zb2:List V→Option (List Bool)
 |[]=>some []
 |.bool b::r=>(zb2 r).map (b::·)
 |_=>Option.none
noncomputable def upto (n:Int):List V:=(List.range n.toNat).map fun(i:Nat)=>.int (i:Int)
noncomputable def fromTo (a b:Int):List V:=(List.range (b - a).toNat).map fun(i:Nat)=>.int (a+(i:Int))
noncomputable def downTo (a b:Int):List V:=(List.range (a - b).toNat).map fun(i:Nat)=>.int (a - (i:Int))
noncomputable def sumI (l:List Int):Option V:=if l.length≤1000∧∀ i∈l,0≤i∧i≤1000000 then some (.int l.sum) else Option.none
noncomputable def sitems (h:H) (v:V):Option (List V):=match dictOf h v with
 |some es=>some (es.map (·.1))
 |Option.none=>litems h v
noncomputable def bf (f:Bf) (h:H) (v:V):Option V :=
 match f with
 |.len=>match v with
  |.ref i=>match h[i]? with
   |some (.list vs)=>some (.int vs.length)
   |some (.dict es)=>some (.int es.length)
   |none=>Option.none
  |_=>(items h v).map fun vs=>.int vs.length
 |.list=>(items h v).map .lst
 |.tuple=>(items h v).map .tup
 |.listRev=>(litems h v).map fun vs=>.lst vs.reverse
 |.sorted=>(sitems h v).bind fun vs=>(sortVs h vs).map .lst
 |.min=>(litems h v).bind (minVs h)
 |.sum=>(litems h v).bind fun vs=>(asInts vs).bind sumI
 |.any=>(litems h v).bind fun vs=>(zb2 vs).map fun bs=>.bool (bs.any id)
 |.all=>(litems h v).bind fun vs=>(zb2 vs).map fun bs=>.bool (bs.all id)
 |.int=>match v with
  |.bool b=>some (.int (if b then 1 else 0))
  |_=>Option.none
 |.str=>match v with
  |.int i=>if 0≤i∧i < 100 then some (.str (toString i)) else Option.none
  |_=>Option.none
 |.listRange=>match v with
  |.int n=>if -1000000≤n∧n≤1000000 then some (.lst (upto n)) else Option.none
  |_=>Option.none
abbrev Watch:=Option (Nat × Cell)
noncomputable def Watch.ok (w:Watch) (h:H):Bool :=
 match w with
 |none=>true
 |some (i,c)=>decide (h[i]?=some c)
noncomputable def iterOf (h:H):V→Option (List V × Watch)
 |.lst vs=>some (vs,Option.none)
 |.tup vs=>some (vs,Option.none)
 |.ref i=>match h[i]? with
  |some (.list vs)=>some (vs,some (i,.list vs))
  |some (.dict es)=>some (es.map (·.1),some (i,.dict es))
  |none=>Option.none
 |_=>Option.none
noncomputable def zgl:List V→Option String
 |[]=>some ""
 |.str s::r=>if s.toList.length≤10 then(zgl r).map (s++·) else Option.none
 |_=>Option.none
set_option genCtorIdx false in
set_option genInjectivity false in
mutual
inductive PE where
 |none|bool (b:Bool)|int (i:Int)|str (s:String)
 |var (i:Nat)
 |glob (g:String) (i:Int)
 |bin (op:Bop) (a b:PE)
 |neg (i:Int)
 |not (a:PE)
 |and (es:List PE)|or (es:List PE)
 |ite (t a b:PE)
 |cmp (op:Cop) (a b:PE)
 |cmp2 (op1 op2:Cop) (a b c:PE)
 |list (es:List PE)|tup (es:List PE)|dict0
 |idx (a i:PE)
 |slice (a:PE) (lo hi:Option PE)
 |rev (a:PE)
 |isinst (a:PE) (ts:List Ty)
 |isexc (x:Nat) (t:Ty)        -- isinstance of the caught exception
 |callX (f:String) (x:Nat)    -- a call with the caught exception
 |bf (f:Bf) (a:PE)
 |join0 (a:PE)
 |comp (elt:PE) (x:Nat) (it:PIt) (cond:Option PE)
 |call (keep:Bool) (f:String) (args:List PE)
 |own (a:PE)                    -- a fresh list,as a cell
 |newDict (es:List (PE × PE))   -- a dict display,as a cell
 |append (o a:PE)|extend (o a:PE)|clear (o:PE)|remove (o a:PE)
 |pop (o:PE)|popAt (o i:PE)
 |get (o k d:PE)|setdef (o k d:PE)
 |dict1 (k v:PE)                -- {k: v},as a cell
inductive PIt where
 |seq (e:PE)
 |range1 (a:PE)|range2 (a b:PE)|range3 (a b c:PE)
 |enum (e:PE)
end
set_option genCtorIdx false in
set_option genInjectivity false in
inductive PS where
 |expr (e:PE)
 |asg (x:Nat) (e:PE)
 |asgT (xs:List Nat) (e:PE)
 |setIdx (o i e:PE)
 |setIdx2 (o1 i1 o2 i2 e1 e2:PE)
 |ret (e:PE)
 |ifs (t:PE) (a b:List PS)
 |for1 (x:Nat) (it:PIt) (body:List PS)
 |for2 (x y:Nat) (it:PIt) (body:List PS)
 |while (t:PE) (body:List PS)
 |raise (c:String)
 |try (body:List PS) (c:String) (x:Nat) (handler:List PS)
 |pass
 |frz (x:Nat)                   -- the cell of a name is told by value from here on
structure FnDef where
 arity:Nat
 slots:Nat
 body:List PS
abbrev Tab:=String→Option FnDef
abbrev Fn:=Bool→String→List V→H→R V
noncomputable def pcall (h:H) (r:R V):R V :=
 match r with
 |.ok v h'=>if h'.take h.length=h then R.opt (Mine.frz h.length h' v) h else .bad
 |.err c h'=>if h'.take h.length=h then .err c h else .bad
 |.bad=>.bad
noncomputable def seti (h:H) (o i v:V):Option H :=
 match o with
 |.ref r=>match h[r]? with
  |some (.list vs)=>match i with
   |.int k=>(place vs.length k).map fun j=>h.set r (.list (vs.set j v))
   |_=>Option.none
  |some (.dict es)=>if keyOk i&&decide (es.length≤1000) then some (h.set r (.dict (dput i v es))) else Option.none
  |none=>Option.none
 |_=>Option.none
noncomputable def setiD (h:H) (r:Nat) (i v:V):Option H :=
 match h[r]? with
 |some (.list _)=>Option.none
 |some (.dict es)=>if keyOk i&&decide (es.length≤1000) then some (h.set r (.dict (dput i v es))) else Option.none
 |none=>Option.none
noncomputable def tailOf (v:V):Option V :=
 match v with
 |.tup vs=>if 0 < vs.length then some (.tup (vs.drop 1)) else Option.none
 |_=>Option.none
noncomputable def rmvI (y:V) (vs:List V):Option (V × List V) :=
 match y with
 |.int k=>(asInts vs).bind fun l=>(l.findIdx? fun i=>i == k).map fun j=>(.none,vs.eraseIdx j)
 |_=>Option.none
noncomputable def onList (h:H) (o:V) (f:List V→Option (V × List V)):R V :=
 match o with
 |.ref r=>match h[r]? with
  |some (.list vs)=>match f vs with
   |some (v,vs')=>if vs'.length≤1000000 then .ok v (h.set r (.list vs')) else .bad
   |none=>.bad
  |_=>.bad
 |_=>.bad
noncomputable def lcell (h:H) (o:V):Bool :=
 match o with
 |.ref r=>match h[r]? with
  |some (.list _)=>true
  |_=>false
 |_=>false
noncomputable def dcell (h:H) (o:V):Bool :=
 match o with
 |.ref r=>match h[r]? with
  |some (.dict _)=>true
  |_=>false
 |_=>false
noncomputable def onDict (h:H) (o k:V) (f:Nat→List (V × V)→R V):R V :=
 match o with
 |.ref r=>match h[r]? with
  |some (.dict es)=>if keyOk k then f r es else .bad
  |_=>.bad
 |_=>.bad
noncomputable def setDef (h:H) (x y z:V):R V :=
 onDict h x y fun r es=>match dfind y es with
  |some v=>.ok v h
  |Option.none=>if es.length≤1000 then .ok z (h.set r (.dict (es++[(y,z)]))) else .bad
noncomputable def getDef (h:H) (x y z:V):R V:=onDict h x y fun z_ es=>.ok ((dfind y es).getD z) h
noncomputable def rng3 (m n k:Int) (h:H):R (List V × Watch) :=
 if k=-1 then .ok (downTo m n,Option.none) h else .bad
noncomputable def ziJ (n:Nat):List V→List V
 |[]=>[]
 |v::vs=>.tup [.int n,v]::ziJ (n+1) vs
noncomputable def enumOf (h:H):V→Option (List V × Watch)
 |.ref i=>match h[i]? with
  |some (.list vs)=>some (ziJ 0 vs,some (i,.list vs))
  |_=>Option.none
 |_=>Option.none
noncomputable def compL (w:Watch) (elt:V→H→R V) (cond:V→H→R V):List V→H→R (List V)
 |[],h=>if w.ok h then .ok [] h else .bad
 |x::xs,h=>if w.ok h then(cond x h).bind fun b h=>match truthy b with
  |some true=>(elt x h).bind fun v h=>(compL w elt cond xs h).bind fun vs h=>.ok (v::vs) h
  |some false=>compL w elt cond xs h
  |none=>.bad
  else .bad
mutual
noncomputable def evE (q:Bool) (F:Fn) (ρ:List V):PE→H→R V
 |.none,h=>.ok .none h
 |.bool b,h=>.ok (.bool b) h
 |.int i,h=>.ok (.int i) h
 |.str s,h=>.ok (.str s) h
 |.var i,h=>match ρ[i]? with
  |some .undef=>.bad
  |some (.exc _)=>.bad
  |some v=>.ok v h
  |Option.none=>.bad
 |.glob _ i,h=>.ok (.int i) h
 |.bin op a b,h=>(evE q F ρ a h).bind fun x h=>(evE q F ρ b h).bind fun y h=>R.opt (pyBin op h x y) h
 |.neg i,h=>.ok (.int (-i)) h
 |.not a,h=>(evE q F ρ a h).bind fun x h=>match truthy x with
  |some b=>.ok (.bool (!b)) h
  |Option.none=>.bad
 |.and es,h=>evAnd q F ρ es h
 |.or es,h=>evOr q F ρ es h
 |.ite t a b,h=>(evE q F ρ t h).bind fun x h=>match truthy x with
  |some true=>evE q F ρ a h
  |some false=>evE q F ρ b h
  |Option.none=>.bad
 |.cmp op a b,h=>(evE q F ρ a h).bind fun x h=>(evE q F ρ b h).bind fun y h=>R.opt ((pyCmp op h x y).map .bool) h
 |.cmp2 op1 op2 a b c,h=>(evE q F ρ a h).bind fun x h=>(evE q F ρ b h).bind fun y h=>match pyCmp op1 h x y with
  |some true=>(evE q F ρ c h).bind fun z h=>R.opt ((pyCmp op2 h y z).map .bool) h
  |some false=>.ok (.bool false) h
  |Option.none=>.bad
 |.list es,h=>(evEs q F ρ es h).bind fun vs h=>R.opt (mkL vs) h
 |.tup es,h=>(evEs q F ρ es h).bind fun vs h=>R.opt (mkT vs) h
 |.dict0,h=>.ok .dct h
 |.idx a i,h=>(evE q F ρ a h).bind fun x h=>(evE q F ρ i h).bind fun y h=>R.opt (pyIdx h x y) h
 |.slice a lo hi,h=>(evE q F ρ a h).bind fun x h=>(evO q F ρ lo h).bind fun l h=>(evO q F ρ hi h).bind fun u h=>R.opt (zbp h x l u) h
 |.rev a,h=>(evE q F ρ a h).bind fun x h=>R.opt (tailOf x) h
 |.isinst a ts,h=>(evE q F ρ a h).bind fun x h=>R.opt ((isTys h x ts).map .bool) h
 |.isexc x t,h=>match ρ[x]? with
  |some (.exc c)=>R.opt ((isExc c t).map .bool) h
  |_=>.bad
 |.callX f x,h=>match ρ[x]? with
  |some (.exc c)=>pcall h (F q f [.exc c] h)
  |_=>.bad
 |.bf f a,h=>if(!q&&f.walks)||!f.ready then .bad else(evE q F ρ a h).bind fun x h=>R.opt (Mine.bf f h x) h
 |.join0 a,h=>if !q then .bad else(evE q F ρ a h).bind fun x h=>R.opt ((litems h x).bind fun vs=>(zgl vs).map .str) h
 |.comp elt x it cond,h=>if !q then .bad else(evIt q F ρ it h).bind fun vs h =>
   match compL vs.2 (fun v h=>evE q F (ρ.set x v) elt h) (fun v h=>evC q F (ρ.set x v) cond h) vs.1 h with
   |.ok r h=>R.opt (mkL r) h
   |_=>.bad
 |.call k f args,h=>(evEs q F ρ args h).bind fun vs h=>if k then F q f vs h else pcall h (F q f vs h)
 |.own a,h=>(evE q F ρ a h).bind fun x h=>match x with
  |.lst vs=>.ok (.ref h.length) (h++[.list vs])
  |_=>.bad
 |.newDict es,h=>(evPs q F ρ es h).bind fun ps h=>.ok (.ref h.length) (h++[.dict ps])
 |.append o a,h=>(evE q F ρ o h).bind fun x h=>if lcell h x then(evE q F ρ a h).bind fun y h=>onList h x fun vs=>some (.none,vs++[y]) else .bad
 |.extend o a,h=>(evE q F ρ o h).bind fun x h=>if lcell h x then(evE q F ρ a h).bind fun y h=>match y with
  |.lst ws=>onList h x fun vs=>some (.none,vs++ws)
  |_=>.bad
  else .bad
 |.clear o,h=>(evE q F ρ o h).bind fun x h=>onList h x fun z_=>some (.none,[])
 |.remove o a,h=>(evE q F ρ o h).bind fun x h=>if lcell h x then(evE q F ρ a h).bind fun y h=>onList h x fun vs=>rmvI y vs else .bad
 |.pop o,h=>(evE q F ρ o h).bind fun x h=>onList h x fun vs=>(vs.getLast?).map fun v=>(v,vs.dropLast)
 |.popAt o i,h=>(evE q F ρ o h).bind fun x h=>if lcell h x then(evE q F ρ i h).bind fun y h=>match y with
  |.int k=>onList h x fun vs=>(place vs.length k).bind fun j=>(vs[j]?).map fun v=>(v,vs.eraseIdx j)
  |_=>.bad
  else .bad
 |.get o k d,h=>(evE q F ρ o h).bind fun x h=>if dcell h x then(evE q F ρ k h).bind fun y h=>(evE q F ρ d h).bind fun z h=>getDef h x y z else .bad
 |.setdef o k d,h=>(evE q F ρ o h).bind fun x h=>if dcell h x then(evE q F ρ k h).bind fun y h=>(evE q F ρ d h).bind fun z h=>setDef h x y z else .bad
 |.dict1 a b,h=>(evE q F ρ a (h++[.dict []])).bind fun k h'=>(evE q F ρ b h').bind fun v h'=>match setiD h' h.length k v with
  |some h'=>.ok (.ref h.length) h'
  |Option.none=>.bad
noncomputable def evEs (q:Bool) (F:Fn) (ρ:List V):List PE→H→R (List V)
 |[],h=>.ok [] h
 |e::es,h=>(evE q F ρ e h).bind fun v h=>(evEs q F ρ es h).bind fun vs h=>.ok (v::vs) h
noncomputable def evPs (q:Bool) (F:Fn) (ρ:List V):List (PE × PE)→H→R (List (V × V))
 |[],h=>.ok [] h
 |(a,b)::es,h=>(evE q F ρ a h).bind fun k h=>(evE q F ρ b h).bind fun v h=>(evPs q F ρ es h).bind fun ps h =>
   if keyOk k&&(dfind k ps).isNone then .ok ((k,v)::ps) h else .bad
noncomputable def evO (q:Bool) (F:Fn) (ρ:List V):Option PE→H→R (Option V)
 |Option.none,h=>.ok Option.none h
 |some e,h=>(evE q F ρ e h).bind fun v h=>.ok (some v) h
noncomputable def evC (q:Bool) (F:Fn) (ρ:List V):Option PE→H→R V
 |Option.none,h=>.ok (.bool true) h
 |some e,h=>evE q F ρ e h
noncomputable def evAnd (q:Bool) (F:Fn) (ρ:List V):List PE→H→R V
 |[],_=>.bad
 |[e],h=>evE q F ρ e h
 |e::es,h=>(evE q F ρ e h).bind fun x h=>match truthy x with
  |some true=>evAnd q F ρ es h
  |some false=>.ok x h
  |Option.none=>.bad
noncomputable def evOr (q:Bool) (F:Fn) (ρ:List V):List PE→H→R V
 |[],_=>.bad
 |[e],h=>evE q F ρ e h
 |e::es,h=>(evE q F ρ e h).bind fun x h=>match truthy x with
  |some true=>.ok x h
  |some false=>evOr q F ρ es h
  |Option.none=>.bad
noncomputable def evIt (q:Bool) (F:Fn) (ρ:List V):PIt→H→R (List V × Watch)
 |.seq e,h=>(evE q F ρ e h).bind fun x h=>R.opt (iterOf h x) h
 |.range1 a,h=>(evE q F ρ a h).bind fun x h=>match x with
  |.int n=>if -1000000≤n∧n≤1000000 then .ok (upto n,Option.none) h else .bad
  |_=>.bad
 |.range2 a b,h=>(evE q F ρ a h).bind fun x h=>(evE q F ρ b h).bind fun y h=>match x,y with
  |.int m,.int n=>if -1000000≤m∧m≤1000000∧-1000000≤n∧n≤1000000 then .ok (fromTo m n,Option.none) h else .bad
  |_,_=>.bad
 |.range3 a b c,h=>(evE q F ρ a h).bind fun x h=>(evE q F ρ b h).bind fun y h=>(evE q F ρ c h).bind fun z h=>match x,y,z with
  |.int m,.int n,.int k=>if -1000000≤m∧m≤1000000∧-1000000≤n∧n≤1000000 then
    rng3 m n k h else .bad
  |_,_,_=>.bad
 |.enum e,h=>(evE q F ρ e h).bind fun x h=>R.opt (enumOf h x) h
end
inductive Fl where
 |next
 |ret (v:V)
inductive RS where
 |ok (f:Fl) (ρ:List V) (h:H)
 |err (c:String) (ρ:List V) (h:H)
 |bad
noncomputable def R.st {α:Type}(r:R α) (ρ:List V) (f:α→H→RS):RS :=
 match r with
 |.ok a h=>f a h
 |.err c h=>.err c ρ h
 |.bad=>.bad
@[simp] theorem R.st_ok {α:Type}(a:α) (h:H) (ρ:List V) (f:α→H→RS):(R.ok a h).st ρ f=f a h:=rfl
noncomputable def RS.then (r:RS) (f:List V→H→RS):RS :=
 match r with
 |.ok .next ρ h=>f ρ h
 |r=>r
@[simp] theorem RS.then_next (ρ:List V) (h:H) (f:List V→H→RS):(RS.ok .next ρ h).then f=f ρ h:=rfl
noncomputable def setAll (ρ:List V):List Nat→List V→Option (List V)
 |[],[]=>some ρ
 |x::xs,v::vs=>setAll (ρ.set x v) xs vs
 |_,_=>Option.none
noncomputable def bind1 (x:Nat) (ρ:List V) (v:V):Option (List V):=some (ρ.set x v)
noncomputable def bind2 (x y:Nat) (ρ:List V) (v:V):Option (List V) :=
 match v with
 |.tup [a,b]=>some ((ρ.set x a).set y b)
 |_=>Option.none
noncomputable def forL (w:Watch) (bindv:List V→V→Option (List V)) (body:List V→H→RS):List V→List V→H→RS
 |[],ρ,h=>if w.ok h then .ok .next ρ h else .bad
 |v::vs,ρ,h=>if w.ok h then(match bindv ρ v with
   |some ρ'=>(body ρ' h).then fun ρ h=>forL w bindv body vs ρ h
   |none=>.bad) else .bad
noncomputable def whileL (test:List V→H→R V) (body:List V→H→RS):Nat→List V→H→RS
 |0,_,_=>.bad
 |n+1,ρ,h=>(test ρ h).st ρ fun b h=>match truthy b with
  |some true=>(body ρ h).then fun ρ h=>whileL test body n ρ h
  |some false=>.ok .next ρ h
  |none=>.bad
noncomputable def turns:Nat:=1000000
mutual
noncomputable def V.has (r:Nat):V→Bool
 |.tup vs=>V.hasAny r vs
 |.lst vs=>V.hasAny r vs
 |.ref i=>i == r
 |_=>false
noncomputable def V.hasAny (r:Nat):List V→Bool
 |[]=>false
 |v::vs=>V.has r v||V.hasAny r vs
end
noncomputable def Cell.has (r:Nat):Cell→Bool
 |.list vs=>V.hasAny r vs
 |.dict es=>es.any fun e=>V.has r e.1||V.has r e.2
noncomputable def freeze (x:Nat) (ρ:List V) (h:H):RS :=
 match ρ[x]? with
 |some (.ref i)=>match h[i]? with
  |some (.list vs) =>
   if i+1=h.length&&!(V.hasAny i (ρ.set x .undef))&&!(h.any (Cell.has i)) then .ok .next (ρ.set x (.lst vs)) h.dropLast else .bad
  |_=>.bad
 |_=>.bad
noncomputable def noneS (_:V) (ρ:List V) (h:H):RS:=.ok .next ρ h
mutual
noncomputable def exS (q:Bool) (F:Fn):PS→List V→H→RS
 |.expr e,ρ,h=>(evE q F ρ e h).st ρ fun v h=>noneS v ρ h
 |.asg x e,ρ,h=>(evE q F ρ e h).st ρ fun v h=>.ok .next (ρ.set x v) h
 |.asgT xs e,ρ,h=>if !q then .bad else(evE q F ρ e h).st ρ fun v h=>match v with
  |.tup vs=>(match setAll ρ xs vs with
   |some ρ=>.ok .next ρ h
   |Option.none=>.bad)
  |_=>.bad
 |.setIdx o i e,ρ,h=>(evE q F ρ e h).st ρ fun v h=>(evE q F ρ o h).st ρ fun x h=>(evE q F ρ i h).st ρ fun y h=>match seti h x y v with
  |some h=>.ok .next ρ h
  |Option.none=>.bad
 |.setIdx2 o1 i1 o2 i2 e1 e2,ρ,h=>(evE q F ρ e1 h).st ρ fun v h=>(evE q F ρ e2 h).st ρ fun w h =>
   (evE q F ρ o1 h).st ρ fun x h=>(evE q F ρ i1 h).st ρ fun y h=>match seti h x y v with
    |some h=>(evE q F ρ o2 h).st ρ fun x h=>(evE q F ρ i2 h).st ρ fun y h=>(match seti h x y w with
     |some h=>.ok .next ρ h
     |Option.none=>.bad)
    |Option.none=>.bad
 |.ret e,ρ,h=>(evE q F ρ e h).st ρ fun v h=>.ok (.ret v) ρ h
 |.ifs t a b,ρ,h=>(evE q F ρ t h).st ρ fun x h=>match truthy x with
  |some true=>exSs q F a ρ h
  |some false=>exSs q F b ρ h
  |Option.none=>.bad
 |.for1 x it body,ρ,h=>if !q then .bad else(evIt q F ρ it h).st ρ fun vs h=>forL vs.2 (bind1 x) (fun ρ h=>exSs q F body ρ h) vs.1 ρ h
 |.for2 x y it body,ρ,h=>if !q then .bad else(evIt q F ρ it h).st ρ fun vs h=>forL vs.2 (bind2 x y) (fun ρ h=>exSs q F body ρ h) vs.1 ρ h
 |.while t body,ρ,h=>if !q then .bad else whileL (fun ρ h=>evE q F ρ t h) (fun ρ h=>exSs q F body ρ h) turns ρ h
 |.raise c,ρ,h=>if !q then .bad else .err c ρ h
 |.try body c x handler,ρ,h=>if !q then .bad else match exSs q F body ρ h with
  |.err d ρ h=>if zag.contains d&&c == "RingError" then(match exSs false F handler (ρ.set x (.exc d)) h with
    |.ok f ρ h=>.ok f (ρ.set x .undef) h
    |.err _ _ _=>.bad
    |.bad=>.bad) else .bad
  |r=>r
 |.pass,ρ,h=>.ok .next ρ h
 |.frz x,ρ,h=>freeze x ρ h
noncomputable def exSs (q:Bool) (F:Fn):List PS→List V→H→RS
 |[],ρ,h=>.ok .next ρ h
 |s::ss,ρ,h=>(exS q F s ρ h).then fun ρ h=>exSs q F ss ρ h
end
noncomputable def RS.out (r:RS):R V :=
 match r with
 |.ok (.ret v) _ h=>.ok v h
 |.ok .next _ h=>.ok .none h
 |.err c _ h=>.err c h
 |.bad=>.bad
noncomputable def runD (q:Bool) (F:Fn) (d:FnDef) (vs:List V) (h:H):R V :=
 if vs.length=d.arity then(exSs q F d.body (vs++List.replicate (d.slots - d.arity) .undef) h).out else .bad
noncomputable def run (P:Tab):Nat→Fn
 |0=>fun z_ z_ z_ z_=>.bad
 |n+1=>fun q f vs h=>match P f with
  |some d=>runD q (run P n) d vs h
  |Option.none=>.bad
theorem zlS {P:Tab}{f:String}{d:FnDef}(hf:P f=some d) (n:Nat) (q:Bool) (vs:List V) (h:H) :
  run P (n+1) q f vs h=runD q (run P n) d vs h:=by
 show(match P f with|some d=>runD q (run P n) d vs h|Option.none=>.bad)=_
 rw[hf]
theorem zoN (n:Nat) (h:H) (i:Nat):frzAt 0 n h i=if i < n then some (.ref i) else Option.none:=rfl
theorem zc8 (k n:Nat) (h:H) (i:Nat):frzAt (k+1) n h i=if i < n then some (.ref i) else match h[i]? with
   |some (.list vs)=>(V.mapRefs (frzAt k n h) vs).map .lst
   |_=>Option.none:=rfl
theorem zdy (a b:Int) (as bs:List Int):lexLt (a::as) (b::bs)=if a=b then lexLt as bs else decide (a < b):=rfl
theorem zoF {α:Type}(lt:α→α→Bool) (x:α) (xs:List α):isort lt (x::xs)=isort.insertBy' lt x (isort lt xs):=rfl
theorem zd8 {α:Type}(lt:α→α→Bool) (x y:α) (ys:List α):isort.insertBy' lt x (y::ys)=if lt y x then y::isort.insertBy' lt x ys else x::y::ys:=rfl
theorem zgi {α:Type}(f:V→Option α):keyed f []=some []:=rfl
theorem zeJ {α:Type}(f:V→Option α) (v:V) (vs:List V):keyed f (v::vs)=(f v).bind fun a=>(keyed f vs).map ((a,v)::·):=rfl
theorem zeE (a:List Int) (v:V) (p:List Int × V) (l:List (List Int × V)):zcN a v (p::l)=if lexLt p.1 a then zcN p.1 p.2 l else zcN a v l:=rfl
theorem zcC (k k' v:V) (es:List (V × V)):dfind k ((k',v)::es)=if k=k' then some v else dfind k es:=rfl
theorem zhh (k v k' v':V) (es:List (V × V)):dput k v ((k',v')::es)=if k=k' then(k',v)::es else(k',v')::dput k v es:=rfl
theorem zh5 (w:Watch) (elt cond:V→H→R V) (h:H):compL w elt cond [] h=if w.ok h then .ok [] h else .bad:=rfl
theorem zh6 (w:Watch) (elt cond:V→H→R V) (x:V) (xs:List V) (h:H):compL w elt cond (x::xs) h=if w.ok h then(cond x h).bind fun b h=>match truthy b with
  |some true=>(elt x h).bind fun v h=>(compL w elt cond xs h).bind fun vs h=>.ok (v::vs) h
  |some false=>compL w elt cond xs h
  |none=>.bad
  else .bad:=rfl
theorem zns (w:Watch) (bindv:List V→V→Option (List V)) (body:List V→H→RS) (ρ:List V) (h:H):forL w bindv body [] ρ h=if w.ok h then .ok .next ρ h else .bad:=rfl
theorem zk3 (w:Watch) (bindv:List V→V→Option (List V)) (body:List V→H→RS) (v:V) (vs ρ:List V) (h:H):forL w bindv body (v::vs) ρ h=if w.ok h then(match bindv ρ v with
   |some ρ'=>(body ρ' h).then fun ρ h=>forL w bindv body vs ρ h
   |none=>.bad) else .bad:=rfl
theorem zlC (test:List V→H→R V) (body:List V→H→RS) (n:Nat) (ρ:List V) (h:H):whileL test body (n+1) ρ h=(test ρ h).st ρ fun b h=>match truthy b with
  |some true=>(body ρ h).then fun ρ h=>whileL test body n ρ h
  |some false=>.ok .next ρ h
  |none=>.bad:=rfl
theorem zcd (q:Bool) (F:Fn) (ρ:List V)  (h):evE q F ρ .none h=.ok .none h:=rfl
theorem zcc (q:Bool) (F:Fn) (ρ:List V) (b) (h):evE q F ρ (.bool b) h=.ok (.bool b) h:=rfl
theorem zb7 (q:Bool) (F:Fn) (ρ:List V) (i) (h):evE q F ρ (.int i) h=.ok (.int i) h:=rfl
theorem zb6 (q:Bool) (F:Fn) (ρ:List V) (s) (h):evE q F ρ (.str s) h=.ok (.str s) h:=rfl
theorem zb5 (q:Bool) (F:Fn) (ρ:List V) (i) (h):evE q F ρ (.var i) h=match ρ[i]? with
  |some .undef=>.bad
  |some (.exc _)=>.bad
  |some v=>.ok v h
  |Option.none=>.bad:=rfl
theorem zb4 (q:Bool) (F:Fn) (ρ:List V) (i) (u1) (h):evE q F ρ (.glob u1 i) h=.ok (.int i) h:=rfl
theorem zbF (q:Bool) (F:Fn) (ρ:List V) (op) (a) (b) (h):evE q F ρ (.bin op a b) h=(evE q F ρ a h).bind fun x h=>(evE q F ρ b h).bind fun y h=>R.opt (pyBin op h x y) h:=rfl
theorem zcb (q:Bool) (F:Fn) (ρ:List V) (i) (h):evE q F ρ (.neg i) h=.ok (.int (-i)) h:=rfl
theorem zb3 (q:Bool) (F:Fn) (ρ:List V) (a) (h):evE q F ρ (.not a) h=(evE q F ρ a h).bind fun x h=>match truthy x with
  |some b=>.ok (.bool (!b)) h
  |Option.none=>.bad:=rfl
theorem za1 (q:Bool) (F:Fn) (ρ:List V) (es) (h):evE q F ρ (.and es) h=evAnd q F ρ es h:=rfl
theorem zaK (q:Bool) (F:Fn) (ρ:List V) (es) (h):evE q F ρ (.or es) h=evOr q F ρ es h:=rfl
theorem za0 (q:Bool) (F:Fn) (ρ:List V) (t) (a) (b) (h):evE q F ρ (.ite t a b) h=(evE q F ρ t h).bind fun x h=>match truthy x with
  |some true=>evE q F ρ a h
  |some false=>evE q F ρ b h
  |Option.none=>.bad:=rfl
theorem zal (q:Bool) (F:Fn) (ρ:List V) (op) (a) (b) (h):evE q F ρ (.cmp op a b) h=(evE q F ρ a h).bind fun x h=>(evE q F ρ b h).bind fun y h=>R.opt ((pyCmp op h x y).map .bool) h:=rfl
theorem zaS (q:Bool) (F:Fn) (ρ:List V) (op1) (op2) (a) (b) (c) (h):evE q F ρ (.cmp2 op1 op2 a b c) h=(evE q F ρ a h).bind fun x h=>(evE q F ρ b h).bind fun y h=>match pyCmp op1 h x y with
  |some true=>(evE q F ρ c h).bind fun z h=>R.opt ((pyCmp op2 h y z).map .bool) h
  |some false=>.ok (.bool false) h
  |Option.none=>.bad:=rfl
theorem zaw (q:Bool) (F:Fn) (ρ:List V) (es) (h):evE q F ρ (.list es) h=(evEs q F ρ es h).bind fun vs h=>R.opt (mkL vs) h:=rfl
theorem zaJ (q:Bool) (F:Fn) (ρ:List V) (es) (h):evE q F ρ (.tup es) h=(evEs q F ρ es h).bind fun vs h=>R.opt (mkT vs) h:=rfl
theorem zaZ (q:Bool) (F:Fn) (ρ:List V)  (h):evE q F ρ .dict0 h=.ok .dct h:=rfl
theorem zar (q:Bool) (F:Fn) (ρ:List V) (a) (i) (h):evE q F ρ (.idx a i) h=(evE q F ρ a h).bind fun x h=>(evE q F ρ i h).bind fun y h=>R.opt (pyIdx h x y) h:=rfl
theorem zaz (q:Bool) (F:Fn) (ρ:List V) (a) (lo) (hi) (h):evE q F ρ (.slice a lo hi) h=(evE q F ρ a h).bind fun x h=>(evO q F ρ lo h).bind fun l h=>(evO q F ρ hi h).bind fun u h=>R.opt (zbp h x l u) h:=rfl
theorem zaI (q:Bool) (F:Fn) (ρ:List V) (a) (h):evE q F ρ (.rev a) h=(evE q F ρ a h).bind fun x h=>R.opt (tailOf x) h:=rfl
theorem zaH (q:Bool) (F:Fn) (ρ:List V) (a) (ts) (h):evE q F ρ (.isinst a ts) h=(evE q F ρ a h).bind fun x h=>R.opt ((isTys h x ts).map .bool) h:=rfl
theorem zaY (q:Bool) (F:Fn) (ρ:List V) (x) (t) (h):evE q F ρ (.isexc x t) h=match ρ[x]? with
  |some (.exc c)=>R.opt ((isExc c t).map .bool) h
  |_=>.bad:=rfl
theorem zaX (q:Bool) (F:Fn) (ρ:List V) (f) (x) (h):evE q F ρ (.callX f x) h=match ρ[x]? with
  |some (.exc c)=>pcall h (F q f [.exc c] h)
  |_=>.bad:=rfl
theorem zaR (q:Bool) (F:Fn) (ρ:List V) (f) (a) (h):evE q F ρ (.bf f a) h=if(!q&&f.walks)||!f.ready then .bad else(evE q F ρ a h).bind fun x h=>R.opt (Mine.bf f h x) h:=rfl
theorem zaW (q:Bool) (F:Fn) (ρ:List V) (a) (h):evE q F ρ (.join0 a) h=if !q then .bad else(evE q F ρ a h).bind fun x h=>R.opt ((litems h x).bind fun vs=>(zgl vs).map .str) h:=rfl
theorem zaG (q:Bool) (F:Fn) (ρ:List V) (elt) (x) (it) (cond) (h):evE q F ρ (.comp elt x it cond) h=if !q then .bad else(evIt q F ρ it h).bind fun vs h =>
   match compL vs.2 (fun v h=>evE q F (ρ.set x v) elt h) (fun v h=>evC q F (ρ.set x v) cond h) vs.1 h with
   |.ok r h=>R.opt (mkL r) h
   |_=>.bad:=rfl
theorem zaq (q:Bool) (F:Fn) (ρ:List V) (k) (f) (args) (h):evE q F ρ (.call k f args) h=(evEs q F ρ args h).bind fun vs h=>if k then F q f vs h else pcall h (F q f vs h):=rfl
theorem zaF (q:Bool) (F:Fn) (ρ:List V) (a) (h):evE q F ρ (.own a) h=(evE q F ρ a h).bind fun x h=>match x with
  |.lst vs=>.ok (.ref h.length) (h++[.list vs])
  |_=>.bad:=rfl
theorem zaV (q:Bool) (F:Fn) (ρ:List V) (es) (h):evE q F ρ (.newDict es) h=(evPs q F ρ es h).bind fun ps h=>.ok (.ref h.length) (h++[.dict ps]):=rfl
theorem zaE (q:Bool) (F:Fn) (ρ:List V) (o) (a) (h):evE q F ρ (.append o a) h=(evE q F ρ o h).bind fun x h=>if lcell h x then(evE q F ρ a h).bind fun y h=>onList h x fun vs=>some (.none,vs++[y]) else .bad:=rfl
theorem zaU (q:Bool) (F:Fn) (ρ:List V) (o) (a) (h):evE q F ρ (.extend o a) h=(evE q F ρ o h).bind fun x h=>if lcell h x then(evE q F ρ a h).bind fun y h=>match y with
  |.lst ws=>onList h x fun vs=>some (.none,vs++ws)
  |_=>.bad
  else .bad:=rfl
theorem zaQ (q:Bool) (F:Fn) (ρ:List V) (o) (h):evE q F ρ (.clear o) h=(evE q F ρ o h).bind fun x h=>onList h x fun z_=>some (.none,[]):=rfl
theorem zaP (q:Bool) (F:Fn) (ρ:List V) (o) (a) (h):evE q F ρ (.remove o a) h=(evE q F ρ o h).bind fun x h=>if lcell h x then(evE q F ρ a h).bind fun y h=>onList h x fun vs=>rmvI y vs else .bad:=rfl
theorem qE_34 (q:Bool) (F:Fn) (ρ:List V) (o) (h):evE q F ρ (.pop o) h=(evE q F ρ o h).bind fun x h=>onList h x fun vs=>(vs.getLast?).map fun v=>(v,vs.dropLast):=rfl
theorem zaD (q:Bool) (F:Fn) (ρ:List V) (o) (i) (h):evE q F ρ (.popAt o i) h=(evE q F ρ o h).bind fun x h=>if lcell h x then(evE q F ρ i h).bind fun y h=>match y with
  |.int k=>onList h x fun vs=>(place vs.length k).bind fun j=>(vs[j]?).map fun v=>(v,vs.eraseIdx j)
  |_=>.bad
  else .bad:=rfl
theorem zaC (q:Bool) (F:Fn) (ρ:List V) (o) (k) (d) (h):evE q F ρ (.get o k d) h=(evE q F ρ o h).bind fun x h=>if dcell h x then(evE q F ρ k h).bind fun y h=>(evE q F ρ d h).bind fun z h=>getDef h x y z else .bad:=rfl
theorem zaO (q:Bool) (F:Fn) (ρ:List V) (o) (k) (d) (h):evE q F ρ (.setdef o k d) h=(evE q F ρ o h).bind fun x h=>if dcell h x then(evE q F ρ k h).bind fun y h=>(evE q F ρ d h).bind fun z h=>setDef h x y z else .bad:=rfl
theorem zaB (q:Bool) (F:Fn) (ρ:List V) (a) (b) (h):evE q F ρ (.dict1 a b) h=(evE q F ρ a (h++[.dict []])).bind fun k h'=>(evE q F ρ b h').bind fun v h'=>match setiD h' h.length k v with
  |some h'=>.ok (.ref h.length) h'
  |Option.none=>.bad:=rfl
theorem zkh (q:Bool) (F:Fn) (ρ:List V)  (h):evEs q F ρ [] h=.ok [] h:=rfl
theorem zcK (q:Bool) (F:Fn) (ρ:List V) (e) (es) (h):evEs q F ρ (e::es) h=(evE q F ρ e h).bind fun v h=>(evEs q F ρ es h).bind fun vs h=>.ok (v::vs) h:=rfl
theorem zpD (q:Bool) (F:Fn) (ρ:List V)  (h):evO q F ρ Option.none h=.ok Option.none h:=rfl
theorem zpC (q:Bool) (F:Fn) (ρ:List V) (e) (h):evO q F ρ (some e) h=(evE q F ρ e h).bind fun v h=>.ok (some v) h:=rfl
theorem zrs (q:Bool) (F:Fn) (ρ:List V)  (h):evC q F ρ Option.none h=.ok (.bool true) h:=rfl
theorem zrr (q:Bool) (F:Fn) (ρ:List V) (e) (h):evC q F ρ (some e) h=evE q F ρ e h:=rfl
theorem zof (q:Bool) (F:Fn) (ρ:List V) (e) (h):evIt q F ρ (.seq e) h=(evE q F ρ e h).bind fun x h=>R.opt (iterOf h x) h:=rfl
theorem zqY (q:Bool) (F:Fn) (ρ:List V) (a) (h):evIt q F ρ (.range1 a) h=(evE q F ρ a h).bind fun x h=>match x with
  |.int n=>if -1000000≤n∧n≤1000000 then .ok (upto n,Option.none) h else .bad
  |_=>.bad:=rfl
theorem zqX (q:Bool) (F:Fn) (ρ:List V) (a) (b) (h):evIt q F ρ (.range2 a b) h=(evE q F ρ a h).bind fun x h=>(evE q F ρ b h).bind fun y h=>match x,y with
  |.int m,.int n=>if -1000000≤m∧m≤1000000∧-1000000≤n∧n≤1000000 then .ok (fromTo m n,Option.none) h else .bad
  |_,_=>.bad:=rfl
theorem zqM (q:Bool) (F:Fn) (ρ:List V) (a) (b) (c) (h):evIt q F ρ (.range3 a b c) h=(evE q F ρ a h).bind fun x h=>(evE q F ρ b h).bind fun y h=>(evE q F ρ c h).bind fun z h=>match x,y,z with
  |.int m,.int n,.int k=>if -1000000≤m∧m≤1000000∧-1000000≤n∧n≤1000000 then
    rng3 m n k h else .bad
  |_,_,_=>.bad:=rfl
theorem zqW (q:Bool) (F:Fn) (ρ:List V) (e) (h):evIt q F ρ (.enum e) h=(evE q F ρ e h).bind fun x h=>R.opt (enumOf h x) h:=rfl
theorem zl4 (q:Bool) (F:Fn) (e) (ρ) (h):exS q F (.expr e) ρ h=(evE q F ρ e h).st ρ fun v h=>noneS v ρ h:=rfl
theorem zkg (q:Bool) (F:Fn) (x) (e) (ρ) (h):exS q F (.asg x e) ρ h=(evE q F ρ e h).st ρ fun v h=>.ok .next (ρ.set x v) h:=rfl
theorem zl3 (q:Bool) (F:Fn) (xs) (e) (ρ) (h):exS q F (.asgT xs e) ρ h=if !q then .bad else(evE q F ρ e h).st ρ fun v h=>match v with
  |.tup vs=>(match setAll ρ xs vs with
   |some ρ=>.ok .next ρ h
   |Option.none=>.bad)
  |_=>.bad:=rfl
theorem zjA (q:Bool) (F:Fn) (o) (i) (e) (ρ) (h):exS q F (.setIdx o i e) ρ h=(evE q F ρ e h).st ρ fun v h=>(evE q F ρ o h).st ρ fun x h=>(evE q F ρ i h).st ρ fun y h=>match seti h x y v with
  |some h=>.ok .next ρ h
  |Option.none=>.bad:=rfl
theorem zl2 (q:Bool) (F:Fn) (o1) (i1) (o2) (i2) (e1) (e2) (ρ) (h):exS q F (.setIdx2 o1 i1 o2 i2 e1 e2) ρ h=(evE q F ρ e1 h).st ρ fun v h=>(evE q F ρ e2 h).st ρ fun w h =>
   (evE q F ρ o1 h).st ρ fun x h=>(evE q F ρ i1 h).st ρ fun y h=>match seti h x y v with
    |some h=>(evE q F ρ o2 h).st ρ fun x h=>(evE q F ρ i2 h).st ρ fun y h=>(match seti h x y w with
     |some h=>.ok .next ρ h
     |Option.none=>.bad)
    |Option.none=>.bad:=rfl
theorem zjz (q:Bool) (F:Fn) (e) (ρ) (h):exS q F (.ret e) ρ h=(evE q F ρ e h).st ρ fun v h=>.ok (.ret v) ρ h:=rfl
theorem zl1 (q:Bool) (F:Fn) (t) (a) (b) (ρ) (h):exS q F (.ifs t a b) ρ h=(evE q F ρ t h).st ρ fun x h=>match truthy x with
  |some true=>exSs q F a ρ h
  |some false=>exSs q F b ρ h
  |Option.none=>.bad:=rfl
theorem zl0 (q:Bool) (F:Fn) (x) (it) (body) (ρ) (h):exS q F (.for1 x it body) ρ h=if !q then .bad else(evIt q F ρ it h).st ρ fun vs h=>forL vs.2 (bind1 x) (fun ρ h=>exSs q F body ρ h) vs.1 ρ h:=rfl
theorem zlZ (q:Bool) (F:Fn) (x) (y) (it) (body) (ρ) (h):exS q F (.for2 x y it body) ρ h=if !q then .bad else(evIt q F ρ it h).st ρ fun vs h=>forL vs.2 (bind2 x y) (fun ρ h=>exSs q F body ρ h) vs.1 ρ h:=rfl
theorem zdY (q:Bool) (F:Fn) (t) (body) (ρ) (h):exS q F (.while t body) ρ h=if !q then .bad else whileL (fun ρ h=>evE q F ρ t h) (fun ρ h=>exSs q F body ρ h) turns ρ h:=rfl
theorem zfZ (q:Bool) (F:Fn) (c) (ρ) (h):exS q F (.raise c) ρ h=if !q then .bad else .err c ρ h:=rfl
theorem zev (q:Bool) (F:Fn) (body) (c) (x) (handler) (ρ) (h):exS q F (.try body c x handler) ρ h=if !q then .bad else match exSs q F body ρ h with
  |.err d ρ h=>if zag.contains d&&c == "RingError" then(match exSs false F handler (ρ.set x (.exc d)) h with
    |.ok f ρ h=>.ok f (ρ.set x .undef) h
    |.err _ _ _=>.bad
    |.bad=>.bad) else .bad
  |r=>r:=rfl
theorem zfY (q:Bool) (F:Fn)  (ρ) (h):exS q F .pass ρ h=.ok .next ρ h:=rfl
theorem zfX (q:Bool) (F:Fn) (x) (ρ) (h):exS q F (.frz x) ρ h=freeze x ρ h:=rfl
theorem zpB (q:Bool) (F:Fn)  (ρ) (h):exSs q F [] ρ h=.ok .next ρ h:=rfl
theorem zod (q:Bool) (F:Fn) (s) (ss) (ρ) (h):exSs q F (s::ss) ρ h=(exS q F s ρ h).then fun ρ h=>exSs q F ss ρ h:=rfl
theorem zqP (q:Bool) (F:Fn) (ρ:List V) (h:H):evAnd q F ρ [] h=.bad:=rfl
theorem zqO (q:Bool) (F:Fn) (ρ:List V) (e:PE) (h:H):evAnd q F ρ [e] h=evE q F ρ e h:=rfl
theorem zqN (q:Bool) (F:Fn) (ρ:List V) (e d:PE) (es:List PE) (h:H):evAnd q F ρ (e::d::es) h=(evE q F ρ e h).bind fun x h=>match truthy x with
  |some true=>evAnd q F ρ (d::es) h
  |some false=>.ok x h
  |Option.none=>.bad:=rfl
theorem zqL (q:Bool) (F:Fn) (ρ:List V) (h:H):evOr q F ρ [] h=.bad:=rfl
theorem zqK (q:Bool) (F:Fn) (ρ:List V) (e:PE) (h:H):evOr q F ρ [e] h=evE q F ρ e h:=rfl
theorem zoe (q:Bool) (F:Fn) (ρ:List V) (e d:PE) (es:List PE) (h:H):evOr q F ρ (e::d::es) h=(evE q F ρ e h).bind fun x h=>match truthy x with
  |some true=>.ok x h
  |some false=>evOr q F ρ (d::es) h
  |Option.none=>.bad:=rfl
end Mine
namespace Mine
open PySem
structure Ck where
 ctx:List (Str × Nat)
 names:List (Str × NameKind)
 fns:List String
 nums:List (String × Int)
noncomputable def zhu (k:Option NameKind):Bool:=k == some .local||k == some .cell||k == some .free
noncomputable def Ck.var (c:Ck) (x:Str) (i:Nat):Bool:=c.ctx.lookup x == some i&&zhu (c.names.lookup x)&&!(x == ("__debug__":Str))&&!(x == ("__classdict__":Str))
noncomputable def Ck.glob (c:Ck) (x:Str):Bool:=c.names.lookup x == some .globalImplicit&&!(x == ("__debug__":Str))
noncomputable def bopM:Bop→Operator
 |.add=>.Add|.sub=>.Sub|.mul=>.Mult|.fdiv=>.FloorDiv|.mod=>.Mod|.pow=>.Pow
noncomputable def copM:Cop→CmpOp
 |.eq=>.Eq|.ne=>.NotEq|.lt=>.Lt|.le=>.LtE|.gt=>.Gt|.ge=>.GtE|.is=>.Is|.isNot=>.IsNot|.isin=>.In|.notIn=>.NotIn
noncomputable def bopIs (op:Bop) (o:Operator):Bool:=decide (bopM op=o)
noncomputable def copIs (op:Cop) (o:CmpOp):Bool:=decide (copM op=o)
noncomputable def tyName:Ty→Str
 |.int=>"int"|.bool=>"bool"|.list=>"list"|.tuple=>"tuple"|.valueError=>"ValueError"
 |.own c=>Str.ofString c
noncomputable def isStar (e:Expr):Bool:=@Expr.casesOn (fun z_=>Bool) e (fun z_ z_ z_=>false) (fun z_ z_ z_=>false) (fun z_ z_ z_ z_=>false) (fun z_ z_ z_=>false) (fun z_ z_ z_ z_=>false) (fun z_ z_ z_ z_=>false) (fun z_ z_ z_=>false) (fun z_ z_ z_=>false) (fun z_ z_ z_ z_=>false) (fun z_ z_ z_ z_=>false) (fun z_ z_ z_ z_ z_=>false) (fun z_ z_ z_ z_=>false) (fun z_ z_=>false) (fun z_ z_=>false) (fun z_ z_=>false) (fun z_ z_ z_ z_=>false) (fun z_ z_ z_ z_=>false) (fun z_ z_ z_ z_=>false) (fun z_ z_=>false) (fun z_ z_ z_=>false) (fun z_ z_ z_=>false) (fun z_ z_ z_=>false) (fun z_ z_=>true) (fun z_ z_=>false) (fun z_ z_=>false) (fun z_ z_ z_=>false) (fun z_ z_ z_ z_=>false)
noncomputable def zoO (o:Bop):Bool:=@Bop.casesOn (fun z_=>Bool) o
 true
 false
 false
 false false false
noncomputable def freshF (f:Bf):Bool:=@Bf.casesOn (fun z_=>Bool) f false true false false false false false false false false true false
noncomputable def freshE (e:PE):Bool:=@PE.casesOn (fun z_=>Bool) e false (fun z_=>false) (fun z_=>false) (fun z_=>false) (fun z_=>false) (fun z_ z_=>false) (fun o z_ z_=>zoO o) (fun z_=>false) (fun z_=>false) (fun z_=>false) (fun z_=>false) (fun z_ z_ z_=>false) (fun z_ z_ z_=>false) (fun z_ z_ z_ z_ z_=>false) (fun z_=>true) (fun z_=>false) false (fun z_ z_=>false) (fun z_ z_ z_=>true) (fun z_=>false) (fun z_ z_=>false) (fun z_ z_=>false) (fun z_ z_=>false) (fun f z_=>freshF f) (fun z_=>false) (fun z_ z_ z_ z_=>true) (fun z_ z_ z_=>false) (fun z_=>false) (fun z_=>false) (fun z_ z_=>false) (fun z_ z_=>false) (fun z_=>false) (fun z_ z_=>false) (fun z_=>false) (fun z_ z_=>false) (fun z_ z_ z_=>false) (fun z_ z_ z_=>false) (fun z_ z_=>false)
noncomputable def okBase (e:Expr):Bool:=@Expr.casesOn (fun z_=>Bool) e (fun z_ z_ z_=>true) (fun z_ z_ z_=>true) (fun z_ z_ z_ z_=>true) (fun z_ z_ z_=>true) (fun z_ z_ z_ z_=>true) (fun z_ z_ z_ z_=>true) (fun z_ z_ z_=>true) (fun z_ z_ z_=>true) (fun z_ z_ z_ z_=>true) (fun z_ z_ z_ z_=>true) (fun z_ z_ z_ z_ z_=>true) (fun z_ z_ z_ z_=>true) (fun z_ z_=>true) (fun z_ z_=>true) (fun z_ z_=>true) (fun z_ z_ z_ z_=>true) (fun z_ xs z_ z_=>!xs.isEmpty) (fun z_ z_ z_ z_=>true) (fun z_ z_=>true) (fun z_ z_ z_=>true) (fun z_ z_ z_=>true) (fun z_ z_ z_=>true) (fun z_ z_=>true) (fun z_ z_=>true) (fun z_ z_=>true) (fun z_ z_ z_=>true) (fun z_ z_ z_ z_=>true)
noncomputable def isSet (e:Expr):Bool:=@Expr.casesOn (fun z_=>Bool) e (fun z_ z_ z_=>false) (fun z_ z_ z_=>false) (fun z_ z_ z_ z_=>false) (fun z_ z_ z_=>false) (fun z_ z_ z_ z_=>false) (fun z_ z_ z_ z_=>false) (fun z_ z_ z_=>false) (fun z_ z_ z_=>true) (fun z_ z_ z_ z_=>false) (fun z_ z_ z_ z_=>false) (fun z_ z_ z_ z_ z_=>false) (fun z_ z_ z_ z_=>false) (fun z_ z_=>false) (fun z_ z_=>false) (fun z_ z_=>false) (fun z_ z_ z_ z_=>false) (fun z_ z_ z_ z_=>false) (fun z_ z_ z_ z_=>false) (fun z_ z_=>false) (fun z_ z_ z_=>false) (fun z_ z_ z_=>false) (fun z_ z_ z_=>false) (fun z_ z_=>false) (fun z_ z_=>false) (fun z_ z_=>false) (fun z_ z_ z_=>false) (fun z_ z_ z_ z_=>false)
noncomputable def tyPl:Ty→Bool
 |.own _|.valueError=>false
 |_=>true
theorem noB {P:Prop}(h:false=true):P:=nomatch h
theorem al {a b:Bool}(h:(a&&b)=true):a=true:=(Bool.and_eq_true_iff.mp h).1
theorem ar {a b:Bool}(h:(a&&b)=true):b=true:=(Bool.and_eq_true_iff.mp h).2
theorem nt {a:Bool}(h:(!a)=true):a=false:=by cases a;rfl;cases h
theorem zah {c:Prop} [Decidable c] {g:c→Bool}{G:Prop}(h:(dite c g fun z_=>false)=true) (k:∀ hc,g hc=true→G):G :=
 if hc:c then k hc ((dif_pos hc).symm.trans h) else noB ((dif_neg hc).symm.trans h)
noncomputable def xConst (e:Expr) (v0:Const) (p:Bool):Bool:=dite (e.ctorIdx=19) (fun hc=>(@Expr.Constant.elim (fun z_=>Bool) e hc fun v z_ z_=>decide (v=v0)&&p)) fun z_=>false
theorem zci {e:Expr}{v0:Const}{p:Bool}{G:Expr→Prop}(h:xConst e v0 p=true) (k:∀ n q,p=true→G (.Constant v0 n q)):G e :=
 zah h fun hc h=>@Expr.Constant.elim (fun e=>∀ hc:e.ctorIdx=19,(@Expr.Constant.elim (fun z_=>Bool) e hc fun v z_ z_=>decide (v=v0)&&p)=true→G e) e hc (fun v n q z_ h=>(show G (.Constant v n q) from by cases of_decide_eq_true (al h);exact k n q (ar h))) hc h
noncomputable def xName (e:Expr) (p:Str→Bool):Bool:=dite (e.ctorIdx=23) (fun hc=>(@Expr.Name.elim (fun z_=>Bool) e hc fun x z_=>p x)) fun z_=>false
theorem zcu {e:Expr}{p:Str→Bool}{G:Expr→Prop}(h:xName e p=true) (k:∀ x q,p x=true→G (.Name x q)):G e :=
 zah h fun hc h=>@Expr.Name.elim (fun e=>∀ hc:e.ctorIdx=23,(@Expr.Name.elim (fun z_=>Bool) e hc fun x z_=>p x)=true→G e) e hc (fun x q z_ h=>k x q h) hc h
noncomputable def zdt (e:Expr) (x0:Str) (p:Bool):Bool:=dite (e.ctorIdx=23) (fun hc=>(@Expr.Name.elim (fun z_=>Bool) e hc fun x z_=>decide (x=x0)&&p)) fun z_=>false
theorem zcg {e:Expr}{x0:Str}{p:Bool}{G:Expr→Prop}(h:zdt e x0 p=true) (k:∀ q,p=true→G (.Name x0 q)):G e :=
 zah h fun hc h=>@Expr.Name.elim (fun e=>∀ hc:e.ctorIdx=23,(@Expr.Name.elim (fun z_=>Bool) e hc fun x z_=>decide (x=x0)&&p)=true→G e) e hc (fun x q z_ h=>(show G (.Name x q) from by cases of_decide_eq_true (al h);exact k q (ar h))) hc h
noncomputable def xBin (e:Expr) (o0:Operator) (p:Expr→Expr→Bool):Bool:=dite (e.ctorIdx=2) (fun hc=>(@Expr.BinOp.elim (fun z_=>Bool) e hc fun l o r z_=>decide (o=o0)&&p l r)) fun z_=>false
theorem zo8 {e:Expr}{o0:Operator}{p:Expr→Expr→Bool}{G:Expr→Prop}(h:xBin e o0 p=true) (k:∀ l r q,p l r=true→G (.BinOp l o0 r q)):G e :=
 zah h fun hc h=>@Expr.BinOp.elim (fun e=>∀ hc:e.ctorIdx=2,(@Expr.BinOp.elim (fun z_=>Bool) e hc fun l o r z_=>decide (o=o0)&&p l r)=true→G e) e hc (fun l o r q z_ h=>(show G (.BinOp l o r q) from by cases of_decide_eq_true (al h);exact k l r q (ar h))) hc h
noncomputable def xUn (e:Expr) (o0:UnaryOp) (p:Expr→Bool):Bool:=dite (e.ctorIdx=3) (fun hc=>(@Expr.UnaryOp.elim (fun z_=>Bool) e hc fun o y z_=>decide (o=o0)&&p y)) fun z_=>false
theorem zna {e:Expr}{o0:UnaryOp}{p:Expr→Bool}{G:Expr→Prop}(h:xUn e o0 p=true) (k:∀ y q,p y=true→G (.UnaryOp o0 y q)):G e :=
 zah h fun hc h=>@Expr.UnaryOp.elim (fun e=>∀ hc:e.ctorIdx=3,(@Expr.UnaryOp.elim (fun z_=>Bool) e hc fun o y z_=>decide (o=o0)&&p y)=true→G e) e hc (fun o y q z_ h=>(show G (.UnaryOp o y q) from by cases of_decide_eq_true (al h);exact k y q (ar h))) hc h
noncomputable def xBool (e:Expr) (o0:BoolOp) (p:List Expr→Bool):Bool:=dite (e.ctorIdx=0) (fun hc=>(@Expr.BoolOp.elim (fun z_=>Bool) e hc fun o ys z_=>decide (o=o0)&&p ys)) fun z_=>false
theorem ziX {e:Expr}{o0:BoolOp}{p:List Expr→Bool}{G:Expr→Prop}(h:xBool e o0 p=true) (k:∀ ys q,p ys=true→G (.BoolOp o0 ys q)):G e :=
 zah h fun hc h=>@Expr.BoolOp.elim (fun e=>∀ hc:e.ctorIdx=0,(@Expr.BoolOp.elim (fun z_=>Bool) e hc fun o ys z_=>decide (o=o0)&&p ys)=true→G e) e hc (fun o ys q z_ h=>(show G (.BoolOp o ys q) from by cases of_decide_eq_true (al h);exact k ys q (ar h))) hc h
noncomputable def xCmp (e:Expr) (p:Expr→List CmpOp→List Expr→Bool):Bool:=dite (e.ctorIdx=15) (fun hc=>(@Expr.Compare.elim (fun z_=>Bool) e hc fun l os rs z_=>p l os rs)) fun z_=>false
theorem zll {e:Expr}{p:Expr→List CmpOp→List Expr→Bool}{G:Expr→Prop}(h:xCmp e p=true) (k:∀ l os rs q,p l os rs=true→G (.Compare l os rs q)):G e :=
 zah h fun hc h=>@Expr.Compare.elim (fun e=>∀ hc:e.ctorIdx=15,(@Expr.Compare.elim (fun z_=>Bool) e hc fun l os rs z_=>p l os rs)=true→G e) e hc (fun l os rs q z_ h=>k l os rs q h) hc h
noncomputable def xList (e:Expr) (p:List Expr→Bool):Bool:=dite (e.ctorIdx=24) (fun hc=>(@Expr.List.elim (fun z_=>Bool) e hc fun xs z_=>p xs)) fun z_=>false
theorem zmk {e:Expr}{p:List Expr→Bool}{G:Expr→Prop}(h:xList e p=true) (k:∀ xs q,p xs=true→G (.List xs q)):G e :=
 zah h fun hc h=>@Expr.List.elim (fun e=>∀ hc:e.ctorIdx=24,(@Expr.List.elim (fun z_=>Bool) e hc fun xs z_=>p xs)=true→G e) e hc (fun xs q z_ h=>k xs q h) hc h
noncomputable def xTup (e:Expr) (p:List Expr→Bool):Bool:=dite (e.ctorIdx=25) (fun hc=>(@Expr.Tuple.elim (fun z_=>Bool) e hc fun xs z_ z_=>p xs)) fun z_=>false
theorem zjV {e:Expr}{p:List Expr→Bool}{G:Expr→Prop}(h:xTup e p=true) (k:∀ xs n q,p xs=true→G (.Tuple xs n q)):G e :=
 zah h fun hc h=>@Expr.Tuple.elim (fun e=>∀ hc:e.ctorIdx=25,(@Expr.Tuple.elim (fun z_=>Bool) e hc fun xs z_ z_=>p xs)=true→G e) e hc (fun xs n q z_ h=>k xs n q h) hc h
noncomputable def xDict (e:Expr) (p:List (Option Expr)→List Expr→Bool):Bool:=dite (e.ctorIdx=6) (fun hc=>(@Expr.Dict.elim (fun z_=>Bool) e hc fun ks vs z_=>p ks vs)) fun z_=>false
theorem zgw {e:Expr}{p:List (Option Expr)→List Expr→Bool}{G:Expr→Prop}(h:xDict e p=true) (k:∀ ks vs q,p ks vs=true→G (.Dict ks vs q)):G e :=
 zah h fun hc h=>@Expr.Dict.elim (fun e=>∀ hc:e.ctorIdx=6,(@Expr.Dict.elim (fun z_=>Bool) e hc fun ks vs z_=>p ks vs)=true→G e) e hc (fun ks vs q z_ h=>k ks vs q h) hc h
noncomputable def xSub (e:Expr) (p:Expr→Expr→Bool):Bool:=dite (e.ctorIdx=21) (fun hc=>(@Expr.Subscript.elim (fun z_=>Bool) e hc fun v i z_=>p v i)) fun z_=>false
theorem zfQ {e:Expr}{p:Expr→Expr→Bool}{G:Expr→Prop}(h:xSub e p=true) (k:∀ v i q,p v i=true→G (.Subscript v i q)):G e :=
 zah h fun hc h=>@Expr.Subscript.elim (fun e=>∀ hc:e.ctorIdx=21,(@Expr.Subscript.elim (fun z_=>Bool) e hc fun v i z_=>p v i)=true→G e) e hc (fun v i q z_ h=>k v i q h) hc h
noncomputable def xSlice (e:Expr) (p:Option Expr→Option Expr→Option Expr→Bool):Bool:=dite (e.ctorIdx=26) (fun hc=>(@Expr.Slice.elim (fun z_=>Bool) e hc fun l u d z_=>p l u d)) fun z_=>false
theorem zgL {e:Expr}{p:Option Expr→Option Expr→Option Expr→Bool}{G:Expr→Prop}(h:xSlice e p=true) (k:∀ l u d q,p l u d=true→G (.Slice l u d q)):G e :=
 zah h fun hc h=>@Expr.Slice.elim (fun e=>∀ hc:e.ctorIdx=26,(@Expr.Slice.elim (fun z_=>Bool) e hc fun l u d z_=>p l u d)=true→G e) e hc (fun l u d q z_ h=>k l u d q h) hc h
noncomputable def xCall (e:Expr) (p:Expr→List Expr→List Keyword→Pos→Bool):Bool:=dite (e.ctorIdx=16) (fun hc=>(@Expr.Call.elim (fun z_=>Bool) e hc fun f xs ks q=>p f xs ks q)) fun z_=>false
theorem ziV {e:Expr}{p:Expr→List Expr→List Keyword→Pos→Bool}{G:Expr→Prop}(h:xCall e p=true) (k:∀ f xs ks q,p f xs ks q=true→G (.Call f xs ks q)):G e :=
 zah h fun hc h=>@Expr.Call.elim (fun e=>∀ hc:e.ctorIdx=16,(@Expr.Call.elim (fun z_=>Bool) e hc fun f xs ks q=>p f xs ks q)=true→G e) e hc (fun f xs ks q z_ h=>k f xs ks q h) hc h
noncomputable def xAttr (e:Expr) (m0:Str) (p:Expr→Pos→Bool):Bool:=dite (e.ctorIdx=20) (fun hc=>(@Expr.Attribute.elim (fun z_=>Bool) e hc fun v m q=>decide (m=m0)&&p v q)) fun z_=>false
theorem zm0 {e:Expr}{m0:Str}{p:Expr→Pos→Bool}{G:Expr→Prop}(h:xAttr e m0 p=true) (k:∀ v q,p v q=true→G (.Attribute v m0 q)):G e :=
 zah h fun hc h=>@Expr.Attribute.elim (fun e=>∀ hc:e.ctorIdx=20,(@Expr.Attribute.elim (fun z_=>Bool) e hc fun v m q=>decide (m=m0)&&p v q)=true→G e) e hc (fun v m q z_ h=>(show G (.Attribute v m q) from by cases of_decide_eq_true (al h);exact k v q (ar h))) hc h
noncomputable def xLC (e:Expr) (p:Expr→List Comprehension→Scope→Bool):Bool:=dite (e.ctorIdx=8) (fun hc=>(@Expr.ListComp.elim (fun z_=>Bool) e hc fun y gs sc z_=>p y gs sc)) fun z_=>false
theorem znn {e:Expr}{p:Expr→List Comprehension→Scope→Bool}{G:Expr→Prop}(h:xLC e p=true) (k:∀ y gs sc q,p y gs sc=true→G (.ListComp y gs sc q)):G e :=
 zah h fun hc h=>@Expr.ListComp.elim (fun e=>∀ hc:e.ctorIdx=8,(@Expr.ListComp.elim (fun z_=>Bool) e hc fun y gs sc z_=>p y gs sc)=true→G e) e hc (fun y gs sc q z_ h=>k y gs sc q h) hc h
noncomputable def one {α:Type}(l:List α) (p:α→Bool):Bool:=@List.casesOn α (fun z_=>Bool) l false fun x t=>@List.casesOn α (fun z_=>Bool) t (p x) fun z_ z_=>false
theorem zax {α:Type}{l:List α}{p:α→Bool}{G:List α→Prop}(h:one l p=true) (k:∀ x,p x=true→G [x]):G l :=
 @List.casesOn α (fun l=>one l p=true→G l) l noB (fun x t=>@List.casesOn α (fun t=>one (x::t) p=true→G (x::t)) t (k x) fun z_ z_=>noB) h
noncomputable def two {α:Type}(l:List α) (p:α→α→Bool):Bool:=@List.casesOn α (fun z_=>Bool) l false fun x t=>one t (p x)
theorem zc3 {α:Type}{l:List α}{p:α→α→Bool}{G:List α→Prop}(h:two l p=true) (k:∀ x y,p x y=true→G [x,y]):G l :=
 @List.casesOn α (fun l=>two l p=true→G l) l noB (fun x t h=>zax (G:=fun t=>G (x::t)) h (k x)) h
noncomputable def three {α:Type}(l:List α) (p:α→α→α→Bool):Bool:=@List.casesOn α (fun z_=>Bool) l false fun x t=>two t (p x)
theorem zjY {α:Type}{l:List α}{p:α→α→α→Bool}{G:List α→Prop}(h:three l p=true) (k:∀ x y z,p x y z=true→G [x,y,z]):G l :=
 @List.casesOn α (fun l=>three l p=true→G l) l noB (fun x t h=>zc3 (G:=fun t=>G (x::t)) h (k x)) h
theorem zbj {α:Type}{l:List α}{G:List α→Prop}(h:l.isEmpty=true) (k:G []):G l:=by
 cases l with
 |nil=>exact k
 |cons _ _=>cases h
noncomputable def oneO {α:Type}(o:Option α) (p:α→Bool):Bool:=@Option.casesOn α (fun z_=>Bool) o false p
theorem zbX {α:Type}{o:Option α}{p:α→Bool}{G:Option α→Prop}(h:oneO o p=true) (k:∀ x,p x=true→G (some x)):G o :=
 @Option.casesOn α (fun o=>oneO o p=true→G o) o noB k h
theorem zdn {α:Type}{o:Option α}{G:Option α→Prop}(h:o.isNone=true) (k:G none):G o:=by
 cases o with
 |none=>exact k
 |some _=>cases h
noncomputable def xNamed (e:Expr) (f:Str) (p:List Expr→Bool):Bool:=xCall e fun g xs ks z_=>ks.isEmpty&&(zdt g f true&&p xs)
theorem zbr {e:Expr}{f:Str}{p:List Expr→Bool}{G:Expr→Prop}(h:xNamed e f p=true) (k:∀ xs q q',p xs=true→G (.Call (.Name f q) xs [] q')):G e :=
 ziV h fun g xs ks q' h=>zbj (G:=fun ks=>G (.Call g xs ks q')) (al h) (zcg (G:=fun g=>G (.Call g xs [] q')) (al (ar h)) fun q z_=>k xs q q' (ar (ar h)))
noncomputable def xMeth (e:Expr) (m:Str) (p:Expr→List Expr→Bool):Bool:=xCall e fun g xs ks q'=>ks.isEmpty&&xAttr g m fun v q=>q.endLine == q'.line&&p v xs
theorem zcw {e:Expr}{m:Str}{p:Expr→List Expr→Bool}{G:Expr→Prop}(h:xMeth e m p=true) (k:∀ v xs q q',(q.endLine == q'.line)=true→p v xs=true→G (.Call (.Attribute v m q) xs [] q')):G e :=
 ziV h fun g xs ks q' h=>zbj (G:=fun ks=>G (.Call g xs ks q')) (al h) (zm0 (G:=fun g=>G (.Call g xs [] q')) (ar h) fun v q h=>k v xs q q' (al h) (ar h))
noncomputable def xGen (gs:List Comprehension) (p:Str→Expr→List Expr→Bool):Bool:=one gs fun g=>decide (g.is_async=0)&&xName g.target fun x=>p x g.iter g.ifs
theorem zkY {gs:List Comprehension}{p:Str→Expr→List Expr→Bool}{G:List Comprehension→Prop}(h:xGen gs p=true) (k:∀ x iter ifs q,p x iter ifs=true→G [⟨.Name x q,iter,ifs,0⟩]):G gs :=
 zax h fun g h=>by
  obtain⟨t,iter,ifs,d⟩:=g
  cases of_decide_eq_true (al h)
  exact zcu (G:=fun t=>G [⟨t,iter,ifs,0⟩]) (ar h) fun x q h=>k x iter ifs q h
noncomputable def ckTy (c:Ck) (t:Ty) (e:Expr):Bool:=zdt e (tyName t) true&&c.glob (tyName t)
theorem zgz {c:Ck}{t:Ty}{e:Expr}(h:ckTy c t e=true):∃ p,e=.Name (tyName t) p∧c.glob (tyName t)=true :=
 zcg (G:=fun e=>∃ p,e=.Name (tyName t) p∧c.glob (tyName t)=true) (al h) fun q z_=>⟨q,rfl,ar h⟩
noncomputable def ckTys (c:Ck):List Ty→List Expr→Bool
 |[],[]=>true
 |t::ts,e::es=>ckTy c t e&&ckTys c ts es
 |_,_=>false
noncomputable def relab (outer:List (Str × NameKind)) (names:List (Str × NameKind)):List (Str × NameKind) :=
 names.map fun(n,k)=>if(k == .free&&outer.lookup n == some .cell) then(n,.cell) else(n,k)
noncomputable def zcr (c:Ck) (x:Str) (scope:Scope):Bool :=
 scope.kind == .function&&scope.names.all (fun p=>(p.2 != .local||((p.1 == x||p.1 == (".0":Str))&&scope.names.lookup p.1 == some .local))&&(p.2 != .free||c.names.lookup p.1 == some .cell||c.names.lookup p.1 == some .free)&&p.2 != .cell) &&
 scope.names.lookup x == some .local&&!(x == (".0":Str))&&c.ctx.lookup (".0":Str) == none
noncomputable def Ck.inner (c:Ck) (x:Str) (i:Nat) (scope:Scope):Ck:=⟨(x,i)::c.ctx,relab c.names scope.names,c.fns,c.nums⟩
noncomputable def bfName:Bf→Str
 |.len=>"len"|.list=>"list"|.tuple=>"tuple"|.sorted=>"sorted"|.min=>"min"|.sum=>"sum"|.any=>"any"|.all=>"all"|.int=>"int"|.str=>"str"
 |.listRev=>"list"|.listRange=>"list"
mutual
noncomputable def ckE (c:Ck):PE→Expr→Bool
 |.none,ex=>xConst ex .none true
 |.bool b,ex=>xConst ex (.bool b) true
 |.int i,ex=>xConst ex (.int i) true
 |.str s,ex=>xConst ex (.str (Str.ofString s)) true
 |.var i,ex=>xName ex fun x=>c.var x i
 |.glob g i,ex=>zdt ex (Str.ofString g) true&&(c.glob (Str.ofString g)&&c.nums.contains (g,i))
 |.bin op a b,ex=>xBin ex (bopM op) fun l r=>ckE c a l&&ckE c b r
 |.neg i,ex=>xUn ex .USub fun y=>xConst y (.int i) true
 |.not a,ex=>xUn ex .Not fun y=>ckE c a y
 |.and es,ex=>xBool ex .And fun ys=>ckEs c es ys
 |.or es,ex=>xBool ex .Or fun ys=>ckEs c es ys
 |.ite ..,_=>false
 |.cmp op a b,ex=>xCmp ex fun l os rs=>one os fun o=>one rs fun r=>copIs op o&&(ckE c a l&&(ckE c b r&&!isSet r))
 |.cmp2 o1 o2 a b d,ex=>xCmp ex fun l os rs=>two os fun u1 u2=>two rs fun r1 r2=>copIs o1 u1&&(copIs o2 u2&&(ckE c a l&&(ckE c b r1&&(ckE c d r2&&!isSet r2))))
 |.list es,ex=>xList ex fun xs=>ckEs c es xs
 |.tup es,ex=>xTup ex fun xs=>ckEs c es xs
 |.dict0,ex=>xDict ex fun ks vs=>ks.isEmpty&&vs.isEmpty
 |.idx a i,ex=>xSub ex fun v s=>ckE c a v&&ckE c i s
 |.slice a lo hi,ex=>xSub ex fun v s=>xSlice s fun l u d=>d.isNone&&(ckE c a v&&(ckO c lo l&&ckO c hi u))
 |.rev a,ex=>xSub ex fun v s=>xSlice s fun l u d=>d.isNone&&(u.isNone&&(ckE c a v&&oneO l fun e=>xConst e (.int 1) true))
 |.isinst a ts,ex=>xNamed ex "isinstance" fun xs=>two xs fun y t=>c.glob "isinstance"&&(ckE c a y&&(ts.all tyPl&&one ts fun u=>ckTy c u t))
 |.isexc i t,ex=>xNamed ex "isinstance" fun xs=>two xs fun y t'=>c.glob "isinstance"&&((xName y fun x=>c.var x i)&&ckTy c t t')
 |.callX f i,ex=>xNamed ex (Str.ofString f) fun xs=>one xs fun v=>c.glob (Str.ofString f)&&(c.fns.contains f&&xName v fun x=>c.var x i)
 |.bf f a,ex=>xNamed ex (bfName f) fun xs=>one xs fun x=>c.glob (bfName f)&&(match f with
    |.listRev=>false
    |.listRange=>false
    |_=>ckE c a x)
 |.join0 ..,_=>false
 |.comp elt i it cond,ex=>xLC ex fun y gs sc=>xGen gs fun x iter ifs=>ckIt c it iter&&(!isSet iter&&(zcr c x sc&&(c.ctx.all (fun p=>p.2 != i)&&(ckE (c.inner x i sc) elt y&&ckC (c.inner x i sc) cond ifs))))
 |.call _ f args,ex=>xNamed ex (Str.ofString f) fun xs=>c.glob (Str.ofString f)&&(c.fns.contains f&&(ckEs c args xs&&!args.isEmpty))
 |.own a,ex=>freshE a&&ckE c a ex
 |.newDict es,ex=>xDict ex fun ks vs=>ks.isEmpty&&(vs.isEmpty&&es.isEmpty)
 |.append o a,ex=>xMeth ex "append" fun v xs=>one xs fun x=>okBase v&&(ckE c o v&&(ckE c a x&&!isStar x))
 |.extend ..,_=>false
 |.clear o,ex=>xMeth ex "clear" fun v xs=>okBase v&&(ckE c o v&&xs.isEmpty)
 |.remove o a,ex=>xMeth ex "remove" fun v xs=>one xs fun x=>okBase v&&(ckE c o v&&(ckE c a x&&!isStar x))
 |.pop o,ex=>xMeth ex "pop" fun v xs=>okBase v&&(ckE c o v&&xs.isEmpty)
 |.popAt o a,ex=>xMeth ex "pop" fun v xs=>one xs fun x=>okBase v&&(ckE c o v&&(ckE c a x&&!isStar x))
 |.get o k d,ex=>xMeth ex "get" fun v xs=>two xs fun x y=>okBase v&&(ckE c o v&&(ckE c k x&&(ckE c d y&&(!isStar x&&!isStar y))))
 |.setdef o k d,ex=>xMeth ex "setdefault" fun v xs=>two xs fun x y=>okBase v&&(ckE c o v&&(ckE c k x&&(ckE c d y&&(!isStar x&&!isStar y))))
 |.dict1 a b,ex=>xDict ex fun ks vs=>one ks fun k=>oneO k fun k=>one vs fun v=>ckE c a k&&ckE c b v
noncomputable def ckEs (c:Ck):List PE→List Expr→Bool
 |[],xs=>xs.isEmpty
 |e::es,xs=>(match xs with|x::xs=>!isStar x&&(ckE c e x&&ckEs c es xs)|[]=>false)
noncomputable def ckO (c:Ck):Option PE→Option Expr→Bool
 |none,x=>x.isNone
 |some e,x=>oneO x fun x=>ckE c e x
noncomputable def ckC (c:Ck):Option PE→List Expr→Bool
 |none,xs=>xs.isEmpty
 |some e,xs=>one xs fun x=>ckE c e x
noncomputable def ckIt (c:Ck):PIt→Expr→Bool
 |.seq e,x=>ckE c e x
 |.range1 a,x=>xNamed x "range" fun xs=>one xs fun y=>c.glob "range"&&ckE c a y
 |.range2 ..,_=>false
 |.range3 a b d,x=>xNamed x "range" fun xs=>three xs fun y z w=>c.glob "range"&&(ckE c a y&&(ckE c b z&&ckE c d w))
 |.enum ..,_=>false
end
structure Amb where
 prog:Program
 w:World
 B:Heap
 mg:Str→Option Value
 mb:Str→Option Value
 P:Tab
 K:List (Addr × Obj):=[]
 res:List Addr:=[]
abbrev Amb.M (am:Amb):Model:=model am.prog am.w
noncomputable def ExcAt (am:Amb) (h:Heap) (c:String) (a:Addr):Prop :=
 ∃ C o vs,am.mg (Str.ofString c)=some (.ref C)∧h.get? a=some o∧(o.cls=.ref C∧o.dict=none)∧o.data=.fields vs∧vs[2]?=some .none∧am.B.get? a=none
mutual
noncomputable def VR (am:Amb) (π:List Addr) (h:Heap):V→Value→Prop
 |.undef,_=>False
 |.none,x=>x=.none
 |.bool b,x=>x=.bool b
 |.int i,x=>∃ t,x=.int i t
 |.str s,x=>∃ t,x=.str (Str.ofString s) t
 |.tup vs,x=>∃ a xs,x=.ref a∧(a ∉ π∧a ∉ am.res)∧h.IsTuple a (List.toArray xs)∧vs.length≤1000000∧VRs am π h vs xs
 |.lst vs,x=>∃ a xs,x=.ref a∧(a ∉ π∧a ∉ am.res)∧h.IsList a (List.toArray xs)∧vs.length≤1000000∧VRs am π h vs xs
 |.ref i,x=>∃ a,x=.ref a∧π[i]?=some a
 |.exc _,_=>False
 |.dct,x=>∃ a o es ep,x=.ref a∧(a ∉ π∧a ∉ am.res)∧h.get? a=some o∧o.cls=.type "dict"∧o.data=.dict es ep
noncomputable def VRs (am:Amb) (π:List Addr) (h:Heap):List V→List Value→Prop
 |[],xs=>xs=[]
 |v::vs,xs=>∃ x xs',xs=x::xs'∧VR am π h v x∧VRs am π h vs xs'
end
theorem VRs.len {am:Amb}{π:List Addr}{h:Heap}:∀ {vs:List V}{xs:List Value},VRs am π h vs xs→xs.length=vs.length
 |[],xs,e=>by simp only[VRs] at e;simp[e]
 |v::vs,xs,e=>by
  simp only[VRs] at e;obtain⟨x,xs',rfl,_,r⟩:=e;simp[VRs.len r]
theorem VRs.get {am:Amb}{π:List Addr}{h:Heap}:∀ {vs:List V}{xs:List Value},VRs am π h vs xs→∀ (i:Nat) (v:V),vs[i]?=some v→∃ x,xs[i]?=some x∧VR am π h v x
 |[],_,_,i,v,hv=>by simp at hv
 |v::vs,xs,e,i,w,hw=>by
  simp only[VRs] at e;obtain⟨x,xs',rfl,hx,r⟩:=e
  cases i with
  |zero=>simp only[List.getElem?_cons_zero,Option.some.injEq] at hw ⊢;subst hw;exact⟨x,rfl,hx⟩
  |succ i=>simp only[List.getElem?_cons_succ] at hw ⊢;exact VRs.get r i w hw
theorem VRs.append {am:Amb}{π:List Addr}{h:Heap}:∀ {vs ws:List V}{xs ys:List Value},VRs am π h vs xs→VRs am π h ws ys→VRs am π h (vs++ws) (xs++ys)
 |[],ws,xs,ys,e,r=>by simp only[VRs] at e;subst e;exact r
 |v::vs,ws,xs,ys,e,r=>by
  simp only[VRs] at e;obtain⟨x,xs',rfl,hx,e⟩:=e;simp only[List.cons_append,VRs];exact⟨x,xs'++ys,rfl,hx,VRs.append e r⟩
theorem VRs.single {am:Amb}{π:List Addr}{h:Heap}{v:V}{x:Value}(e:VR am π h v x):VRs am π h [v] [x]:=by
 simp only[VRs];exact⟨x,[],rfl,e,rfl⟩
theorem VRs.take {am:Amb}{π:List Addr}{h:Heap}:∀ {vs:List V}{xs:List Value}(n:Nat),VRs am π h vs xs→VRs am π h (vs.take n) (xs.take n)
 |[],xs,n,e=>by simp only[VRs] at e;subst e;simp[VRs]
 |v::vs,xs,n,e=>by
  simp only[VRs] at e;obtain⟨x,xs',rfl,hx,e⟩:=e
  cases n with
  |zero=>simp[VRs]
  |succ n=>simp only[List.take_succ_cons,VRs];exact⟨x,xs'.take n,rfl,hx,VRs.take n e⟩
theorem VRs.drop {am:Amb}{π:List Addr}{h:Heap}:∀ {vs:List V}{xs:List Value}(n:Nat),VRs am π h vs xs→VRs am π h (vs.drop n) (xs.drop n)
 |[],xs,n,e=>by simp only[VRs] at e;subst e;simp[VRs]
 |v::vs,xs,n,e=>by
  have e0:=e;simp only[VRs] at e;obtain⟨x,xs',rfl,hx,e⟩:=e
  cases n with
  |zero=>exact e0
  |succ n=>simp only[List.drop_succ_cons];exact VRs.drop n e
theorem VRs.reverse {am:Amb}{π:List Addr}{h:Heap}:∀ {vs:List V}{xs:List Value},VRs am π h vs xs→VRs am π h vs.reverse xs.reverse
 |[],xs,e=>by simp only[VRs] at e;subst e;simp[VRs]
 |v::vs,xs,e=>by
  simp only[VRs] at e;obtain⟨x,xs',rfl,hx,e⟩:=e;rw[List.reverse_cons,List.reverse_cons];exact VRs.append (VRs.reverse e) (VRs.single hx)
theorem VRs.flatten {am:Amb}{π:List Addr}{h:Heap}{vs:List V}{xs:List Value}(e:VRs am π h vs xs):∀ n:Nat,VRs am π h (List.replicate n vs).flatten (List.replicate n xs).flatten
 |0=>by simp[VRs]
 |n+1=>by rw[List.replicate_succ,List.replicate_succ,List.flatten_cons,List.flatten_cons];exact VRs.append e (VRs.flatten e n)
theorem VRs.set {am:Amb}{π:List Addr}{h:Heap}:∀ {vs:List V}{xs:List Value}(i:Nat){v:V}{x:Value},VRs am π h vs xs→VR am π h v x→VRs am π h (vs.set i v) (xs.set i x)
 |[],xs,i,v,x,e,_=>by simp only[VRs] at e;subst e;simp[VRs]
 |w::vs,xs,i,v,x,e,hv=>by
  simp only[VRs] at e;obtain⟨y,xs',rfl,hy,e⟩:=e
  cases i with
  |zero=>simp only[List.set_cons_zero,VRs];exact⟨x,xs',rfl,hv,e⟩
  |succ i=>simp only[List.set_cons_succ,VRs];exact⟨y,xs'.set i x,rfl,hy,VRs.set i e hv⟩
theorem VRs.eraseIdx {am:Amb}{π:List Addr}{h:Heap}:∀ {vs:List V}{xs:List Value}(i:Nat),VRs am π h vs xs→VRs am π h (vs.eraseIdx i) (xs.eraseIdx i)
 |[],xs,i,e=>by simp only[VRs] at e;subst e;simp[VRs]
 |w::vs,xs,i,e=>by
  simp only[VRs] at e;obtain⟨y,xs',rfl,hy,e⟩:=e
  cases i with
  |zero=>simpa using e
  |succ i=>simp only[List.eraseIdx_cons_succ,VRs];exact⟨y,xs'.eraseIdx i,rfl,hy,VRs.eraseIdx i e⟩
structure Ext (π Fs:List Addr) (h h':Heap):Prop where
 keep:∀ a o,h.get? a=some o→a ∉ π→a ∉ Fs→h'.get? a=some o
 slots:∀ a o,h.get? a=some o→a ∉ π→∃ sl,h'.get? a=some { o with slots:=sl }
 alive:∀ a o,h.get? a=some o→∃ o',h'.get? a=some o'
theorem Ext.refl (π Fs:List Addr) (h:Heap):Ext π Fs h h :=
 ⟨fun z_ z_ e z_ z_=>e,fun z_ o e z_=>⟨o.slots,e⟩,fun z_ o e=>⟨o,e⟩⟩
theorem Ext.of_keeps {π Fs:List Addr}{h h':Heap}(k:∀ b o,h.get? b=some o→h'.get? b=some o):Ext π Fs h h' :=
 ⟨fun a o e z_ z_=>k a o e,fun a o e z_=>⟨o.slots,k a o e⟩,fun a o e=>⟨o,k a o e⟩⟩
theorem Ext.push (π Fs:List Addr) (h:Heap) (o:Obj):Ext π Fs h (h.push o) :=
 Ext.of_keeps fun z_ z_ e=>Heap.get?_push_of_some _ e
theorem Ext.list {π Fs:List Addr}{h h':Heap}(x:Ext π Fs h h'){a:Addr}{xs:Array Value}(hl:h.IsList a xs) (ha:a ∉ π):h'.IsList a xs:=by
 obtain⟨o,ho,hc,n,hd⟩:=hl;obtain⟨sl,hs⟩:=x.slots a o ho ha;exact⟨_,hs,hc,n,hd⟩
theorem Ext.tuple {π Fs:List Addr}{h h':Heap}(x:Ext π Fs h h'){a:Addr}{xs:Array Value}(hl:h.IsTuple a xs) (ha:a ∉ π):h'.IsTuple a xs:=by
 obtain⟨o,ho,hc,n,hd⟩:=hl;obtain⟨sl,hs⟩:=x.slots a o ho ha;exact⟨_,hs,hc,n,hd⟩
structure Step (Fs:List Addr) (π:List Addr) (s:Shared) (π':List Addr) (s':Shared):Prop where
 same:∃ h' tk,s'={ s with heap:=h',toks:=tk }
 ext:Ext π Fs s.heap s'.heap
 grow:∃ δ,π'=π++δ∧∀ a∈δ,s.heap.get? a=none
theorem Step.refl (Fs π:List Addr) (s:Shared):Step Fs π s π s:=⟨⟨s.heap,s.toks,rfl⟩,.refl ..,[],by simp,by simp⟩
theorem Step.notin {Fs π π':List Addr}{s s':Shared}(x:Step Fs π s π' s'){a:Addr}{o:Obj}(ho:s.heap.get? a=some o) (ha:a ∉ π):a ∉ π':=by
 obtain⟨δ,rfl,hδ⟩:=x.grow;intro hm
 rcases List.mem_append.mp hm with h1|h1
 ·exact ha h1
 ·have:=hδ a h1;rw[ho] at this;cases this
theorem Step.trans {Fs π₀ π₁ π₂:List Addr}{s₀ s₁ s₂:Shared}(x:Step Fs π₀ s₀ π₁ s₁) (y:Step Fs π₁ s₁ π₂ s₂):Step Fs π₀ s₀ π₂ s₂:=by
 refine⟨?_,⟨fun a o e h1 h2=>?_,fun a o e h1=>?_,fun a o e=>?_⟩,?_⟩
 ·obtain⟨h',tk,rfl⟩:=x.same
  obtain⟨h'',tk',rfl⟩:=y.same;exact⟨h'',tk',rfl⟩
 ·exact y.ext.keep a o (x.ext.keep a o e h1 h2) (x.notin e h1) h2
 ·obtain⟨sl,h3⟩:=x.ext.slots a o e h1
  obtain⟨sl',h4⟩:=y.ext.slots a _ h3 (x.notin e h1);exact⟨sl',h4⟩
 ·obtain⟨o',h3⟩:=x.ext.alive a o e
  exact y.ext.alive a o' h3
 ·obtain⟨δ,rfl,hδ⟩:=x.grow
  obtain⟨δ',rfl,hδ'⟩:=y.grow;refine⟨δ++δ',by simp,fun a ha=>?_⟩
  rcases List.mem_append.mp ha with h1|h1
  ·exact hδ a h1
  ·cases hq:s₀.heap.get? a with
   |none=>rfl
   |some o =>
    obtain⟨o',h3⟩:=x.ext.alive a o hq;have:=hδ' a h1;rw[h3] at this;cases this
theorem Step.keeps {Fs π:List Addr}{s:Shared}{h':Heap}{tk:Nat}(k:∀ b o,s.heap.get? b=some o→h'.get? b=some o):Step Fs π s π { s with heap:=h',toks:=tk } :=
 ⟨⟨h',tk,rfl⟩,.of_keeps k,[],by simp,by simp⟩
theorem Step.tok {Fs π:List Addr}{s:Shared}(tk:Nat):Step Fs π s π { s with toks:=tk }:=Step.keeps fun z_ z_ e=>e
noncomputable def Via (am am':Amb) (π π':List Addr) (h h':Heap):Prop :=
 (∀ a o,h.get? a=some o→(∀ us,o.data≠.fields us)→a ∉ π→a ∉ am.res→(∃ sl,h'.get? a=some { o with slots:=sl })∧a ∉ π'∧a ∉ am'.res)∧∀ (i:Nat) (a:Addr),π[i]?=some a→π'[i]?=some a
mutual
theorem VR.via {am am':Amb}{π π':List Addr}{h h':Heap}(k:Via am am' π π' h h'):∀ {v:V}{y:Value},VR am π h v y→VR am' π' h' v y
 |.undef,_,e=>e
 |.none,_,e=>e
 |.bool _,_,e=>e
 |.int _,_,e=>e
 |.str _,_,e=>e
 |.exc _,_,e=>e
 |.ref i,y,⟨a,h1,h2⟩=>⟨a,h1,k.2 i a h2⟩
 |.tup vs,y,⟨a,xs,h1,ha,⟨o,ho,hc,n,hd⟩,hz,e⟩ =>
  have q:=k.1 a o ho (fun us z=>by rw[hd] at z;cases z) ha.1 ha.2
  have⟨sl,hs⟩:=q.1
  ⟨a,xs,h1,q.2,⟨_,hs,hc,n,hd⟩,hz,VRs.via k e⟩
 |.lst vs,y,⟨a,xs,h1,ha,⟨o,ho,hc,n,hd⟩,hz,e⟩ =>
  have q:=k.1 a o ho (fun us z=>by rw[hd] at z;cases z) ha.1 ha.2
  have⟨sl,hs⟩:=q.1
  ⟨a,xs,h1,q.2,⟨_,hs,hc,n,hd⟩,hz,VRs.via k e⟩
 |.dct,y,⟨a,o,es,ep,h1,ha,ho,hc,hd⟩ =>
  have q:=k.1 a o ho (fun us z=>by rw[hd] at z;cases z) ha.1 ha.2
  have⟨sl,hs⟩:=q.1
  ⟨a,_,es,ep,h1,q.2,hs,hc,hd⟩
theorem VRs.via {am am':Amb}{π π':List Addr}{h h':Heap}(k:Via am am' π π' h h'):∀ {vs:List V}{ys:List Value},VRs am π h vs ys→VRs am' π' h' vs ys
 |[],_,e=>e
 |v::vs,ys,⟨y,ys',h1,h2,h3⟩=>⟨y,ys',h1,VR.via k h2,VRs.via k h3⟩
end
theorem Step.via {am:Amb}{Fs π π':List Addr}{s s':Shared}(x:Step Fs π s π' s'):Via am am π π' s.heap s'.heap :=
 ⟨fun a o ho z_ h1 h2=>⟨x.ext.slots a o ho h1,x.notin ho h1,h2⟩,fun i a ha=>by
  obtain⟨δ,rfl,_⟩:=x.grow;rw[List.getElem?_append_left (List.getElem?_eq_some_iff.mp ha).1];exact ha⟩
theorem VR.step {am:Amb}{Fs π π':List Addr}{s s':Shared}(x:Step Fs π s π' s'){v:V}{y:Value}(e:VR am π s.heap v y):VR am π' s'.heap v y:=e.via x.via
theorem VRs.step {am:Amb}{Fs π π':List Addr}{s s':Shared}(x:Step Fs π s π' s'){vs:List V}{ys:List Value}(e:VRs am π s.heap vs ys):VRs am π' s'.heap vs ys:=e.via x.via
noncomputable def PL (h:Heap) (a:Addr) (xs:List Value):Prop:=∃ o n,h.get? a=some o∧o.cls=.type "list"∧o.dict=none∧o.data=.seq (List.toArray xs) n
theorem PL.is {h:Heap}{a:Addr}{xs:List Value}(x:PL h a xs):h.IsList a (List.toArray xs):=let ⟨o,n,ho,hc,_,hd⟩:=x;⟨o,ho,hc,n,hd⟩
noncomputable def Cell.vals:Cell→List V
 |.list vs=>vs
 |.dict es=>es.flatMap fun e=>[e.1,e.2]
noncomputable def hashV (k:V):Int:=match keyT k with
 |some is=>reduceHash (Builtin.Tuple.tupleHashOf (is.map hashInt))
 |none=>0
noncomputable def ents:List (V × V)→List Value→List DictEntry
 |(k,_)::es,x::y::xs=>⟨hashV k,x,y⟩::ents es xs
 |_,_=>[]
noncomputable def dgood (es:List (V × V)):Prop:=(es.map (·.1)).Nodup∧∀ e∈es,(keyT e.1).isSome=true
noncomputable def CK:Cell→Addr→Obj→List Value→Prop
 |.list _,_,o,xs=>∃ n,o.cls=.type "list"∧o.dict=none∧o.data=.seq (List.toArray xs) n
 |.dict es,a,o,xs=>a≠sysModules∧∃ arr ep,o.cls=.type "dict"∧o.dict=none∧o.data=.dict arr ep∧arr.toList=ents es xs∧dgood es∧ep=es.length
theorem CK.slots {c:Cell}{a:Addr}{o:Obj}{xs:List Value}(sl:Array (Option Value)) (x:CK c a o xs):CK c a { o with slots:=sl } xs:=by
 cases c<;>exact x
theorem CK.nf {c:Cell}{a:Addr}{o:Obj}{xs:List Value}(x:CK c a o xs):∀ us,o.data≠.fields us:=fun us q=>by
 cases c with
 |list vs=>obtain⟨n,_,_,hd⟩:=x;rw[hd] at q;cases q
 |dict es=>obtain⟨_,arr,ep,_,_,hd,_⟩:=x;rw[hd] at q;cases q
noncomputable def CellAt (am:Amb) (π:List Addr) (h:Heap) (c:Cell) (a:Addr):Prop:=∃ o xs,h.get? a=some o∧CK c a o xs∧c.vals.length≤1000000∧VRs am π h c.vals xs
theorem CellAt.list {am:Amb}{π:List Addr}{h:Heap}{vs:List V}{a:Addr}(x:CellAt am π h (.list vs) a):∃ xs,PL h a xs∧vs.length≤1000000∧VRs am π h vs xs:=by
 obtain⟨o,xs,ho,⟨n,r⟩,h2,h3⟩:=x;exact⟨xs,⟨o,n,ho,r⟩,h2,h3⟩
theorem CellAt.ofList {am:Amb}{π:List Addr}{h:Heap}{vs:List V}{a:Addr}{xs:List Value}(x:PL h a xs) (h2:vs.length≤1000000) (h3:VRs am π h vs xs):CellAt am π h (.list vs) a:=by
 obtain⟨o,n,ho,r⟩:=x;exact⟨o,xs,ho,⟨n,r⟩,h2,h3⟩
theorem CellAt.obj {am:Amb}{π:List Addr}{h:Heap}{c:Cell}{a:Addr}(x:CellAt am π h c a):∃ o,h.get? a=some o∧∀ us,o.data≠.fields us:=by
 obtain⟨o,xs,ho,hk,_⟩:=x;exact⟨o,ho,hk.nf⟩
theorem CellAt.via {am am':Amb}{π π':List Addr}{h h':Heap}(k:Via am am' π π' h h'){c:Cell}{a:Addr}(ka:∀ o,h.get? a=some o→(∀ us,o.data≠.fields us)→∃ sl,h'.get? a=some { o with slots:=sl }) (x:CellAt am π h c a):CellAt am' π' h' c a:=by
 obtain⟨o,xs,ho,hk,h2,h3⟩:=x;obtain⟨sl,hs⟩:=ka o ho hk.nf;exact⟨_,xs,hs,hk.slots sl,h2,h3.via k⟩
structure HR (am:Amb) (stack:List Env) (π:List Addr) (H:H) (h:Heap):Prop where
 base:am.B.StaysIn h
 frames:h.FunFrames am.B stack
 len:π.length=H.length
 nodup:π.Nodup
 res:∀ a∈am.res,∃ o,h.get? a=some o∧∀ us,o.data≠.fields us
 off:∀ a∈π,am.B.get? a=none∧a ∉ stack.filterMap (·.frame)
 cell:∀ (i:Nat) (c:Cell) (a:Addr),H[i]?=some c→π[i]?=some a→CellAt am π h c a
end Mine
namespace Mine
open PySem PySem.W
abbrev Fs (stack:List Env):List Addr:=stack.filterMap (·.frame)
noncomputable def XAt (base h:Heap) (e:Addr) (C:Value) (fl:Option Value):Prop :=
 base.StaysIn h∧base.get? e=none∧∃ oe vs,h.get? e=some oe∧(oe.cls=C∧oe.dict=none)∧oe.data=.fields vs∧vs[2]?=some .none ∧
  (match fl with
   |none=>vs[1]?=some .none
   |some f=>∃ T oT ts,vs[1]?=some (.ref T)∧base.get? T=none∧T≠e∧h.get? T=some oT∧oT.data=.fields ts∧ts[3]?=some f)
theorem zas {base B:Heap}(k:base.StaysIn B){b:Addr}(e:B.get? b=none):base.get? b=none:=by
 cases q:base.get? b with
 |none=>rfl
 |some o=>have:=k b o q;rw[e] at this;cases this
theorem XAt.mono {base B h:Heap}{e:Addr}{C:Value}{fl:Option Value}(k:base.StaysIn B) (x:XAt B h e C fl):XAt base h e C fl:=by
 refine hold fun z_ k_=>?_;obtain⟨h1,h2,oe,vs,h3,h4,h5,h6,h7⟩:=x;refine k_ ?_;refine⟨fun b o q=>h1 b o (k b o q),zas k h2,oe,vs,h3,h4,h5,h6,?_⟩
 cases fl with
 |none=>exact h7
 |some f =>
  refine hold fun z_ k_=>?_;obtain⟨T,oT,ts,t1,t2,t3⟩:=h7;refine k_ ?_;exact⟨T,oT,ts,t1,zas k t2,t3⟩
structure Touch (base:Heap) (h h':Heap):Prop where
 stays:base.StaysIn h'
 slots:h.UpToSlots h'
theorem Touch.trans {base h₁ h₂ h₃:Heap}(x:Touch base h₁ h₂) (y:Touch base h₂ h₃):Touch base h₁ h₃:=⟨y.stays,x.slots.trans y.slots⟩
theorem zff (o:Obj) (f):(o.mapFields f).dict=o.dict:=by
 obtain⟨c,d,dt,sl⟩:=o;cases dt<;>rfl
theorem zeO {h h' base:Heap}(k:h.UpToSlots h'){l:List Env}(x:h.FunFrames base l):h'.FunFrames base l :=
 x.of_keeps fun b o ho hn=>let ⟨_,e⟩:=k b o ho hn;⟨_,e,rfl⟩
section
variable {M:Model}{A:Around}{E:Value→Shared→Prop}{s:Shared}
theorem zjC {base:Heap}{env:Env}{outer:List Env}{L e:Addr}{oe:Obj}{vs:Array Value}{head:Value}{hadNext:Bool}{Q:Unit→Shared→Prop}
  (hfr:A.frames=some (env::outer)) (hl:s.heap.FunFrames base (env::outer)) (hf:env.frame=some L)
  (he:s.heap.get? e=some oe) (hkb:base.StaysIn s.heap) (hen:base.get? e=none) (hdi:oe.dict=none) (hd:oe.data=.fields vs) (hsz:1 < vs.size) (h2:vs[2]?=some .none)
  (h:∀ h',XAt base h' e oe.cls (some (rawInt L))→Touch base s.heap h'→Q () { s with heap:=h' }) :
  wpAny M A (do let a ← frameOf env;let pl ← entryPlaceOf L hadNext;let b ← EntryCells.newEntry head a .none (rawInt L) .none pl;setField (.ref e) 1 b) Q E s:=by
 have hene:e ∉ (env::outer).filterMap (·.frame):=fun hm=>by
  refine hold fun z_ k_=>?_;obtain⟨_,o,ho,hnf⟩:=hl.mem hm;refine k_ ?_;rw[he] at ho;injection ho with ho;subst ho;exact hnf vs hd
 refine wpAny_bind (wpAny_frameOf_fun hfr hl hf fun h₁ hs₁=>?_);refine wpAny_bind (wpAny_entryPlaceOf fun pl hpl=>?_);unfold EntryCells.newEntry newFields;refine wpAny_bind (wpAny_newObj_type ?_ (hpl.sizeOk5 _ _ _ _ _));have he₁:h₁.get? e=some oe:=(hs₁.2.1 e hene).trans he;have kb₁:base.StaysIn h₁:=fun b o hbo=>(hs₁.2.1 b fun hm=>by rw[(hl.mem hm).1] at hbo;cases hbo).trans (hkb b o hbo)
 generalize hT:({ cls:=.type "traceback",dict:=none,data:=.fields ([head,.ref L,.none,rawInt L,.none]++(if pl.isEmpty then List.replicate 6 Value.none else pl)).toArray }:Obj)=T;have hTd:T.data=.fields ([head,.ref L,.none,rawInt L,.none]++(if pl.isEmpty then List.replicate 6 Value.none else pl)).toArray:=by rw[←hT]
 have he₂:=Heap.get?_push_of_some (h:=h₁) T he₁;refine wpAny_setField he₂ hd hsz (h _ ?_ ?_)
 all_goals
  have hTe:h₁.objs.size≠e:=Nat.ne_of_gt (Heap.lt_size he₁);have hd₃:=Obj.data_mapFields hd (·.setIfInBounds 1 (Value.ref h₁.objs.size));have he₃:=Heap.get?_update_self (Obj.mapFields (·.setIfInBounds 1 (Value.ref h₁.objs.size))) he₂ (Obj.isFreed_of_fields hd₃);have hT₃:=(Heap.get?_update_other (h₁.push T) (Obj.mapFields (·.setIfInBounds 1 (Value.ref h₁.objs.size))) (Ne.symm hTe)).trans (Heap.get?_push_size h₁ (Obj.isFreed_of_fields hTd))
  have keep:∀ b o,b≠e→h₁.get? b=some o→((h₁.push T).update e (Obj.mapFields (·.setIfInBounds 1 (Value.ref h₁.objs.size)))).get? b=some o :=
   fun b o hbe hb=>by
    rw[Heap.get?_update_other _ _ (Ne.symm hbe)];exact Heap.get?_push_of_some _ hb
  have noRecord:∀ b o,s.heap.get? b=some o→(∀ vs,o.data≠.fields vs)→b≠e:=fun b o hb hnf q=>by
   rw[q,he] at hb;injection hb with hb;subst hb;exact hnf vs hd
  have kb₂:base.StaysIn ((h₁.push T).update e (Obj.mapFields (·.setIfInBounds 1 (Value.ref h₁.objs.size)))):=fun b o hbo=>keep b o (fun q=>by rw[q,hen] at hbo;cases hbo) (kb₁ b o hbo)
 ·refine⟨kb₂,hen,_,_,he₃,⟨Obj.cls_mapFields _ _,(zff _ _).trans hdi⟩,hd₃,by rw[Array.getElem?_setIfInBounds_ne (by decide)];exact h2,h₁.objs.size,_,_,by simp[hsz],kb₁.fresh,hTe,hT₃,hTd,?_⟩
  first|(simp;done)|(rcases hpl with rfl|⟨_,_,_,_,_,_,_,rfl⟩<;>simp)
 ·refine⟨kb₂,fun b o hb hnf=>?_⟩
  obtain⟨sl,hs⟩:=hs₁.2.2 b o hb;exact⟨sl,keep b _ (noRecord b o hb hnf) hs⟩
theorem zjB {base:Heap}{env:Env}{outer:List Env}{L e:Addr}{C:Value}{fl:Option Value}{Q:Unit→Shared→Prop}
  (hfr:A.frames=some (env::outer)) (hl:s.heap.FunFrames base (env::outer)) (hf:env.frame=some L) (x:XAt base s.heap e C fl)
  (h:∀ h',XAt base h' e C (some (rawInt L))→Touch base s.heap h'→Q () { s with heap:=h' }):wpAny M A (noteFrame (.ref e) env) Q E s:=by
 refine hold fun z_ k_=>?_;obtain⟨h1,h2,oe,vs,h3,h4,h5,h6,h7⟩:=id x;refine k_ ?_;have hz2:2 < vs.size:=(Array.getElem?_eq_some_iff.mp h6).1;obtain⟨rfl,h4d⟩:=h4;unfold noteFrame;simp only[hf]
 cases fl with
 |none =>
  refine wpAny_bind (wpAny_field h3 h5 h7 ?_);rw[if_neg (by decide)]
  exact zjC hfr hl hf h3 h1 h2 h4d h5 (by omega) h6 h
 |some f =>
  refine hold fun z_ k_=>?_;obtain⟨T,oT,ts,t1,t2,t3,t4,t5,t6⟩:=h7;refine k_ ?_;refine wpAny_bind (wpAny_field h3 h5 t1 ?_);rw[if_pos (show(Value.ref T != Value.none)=true from by simp)]
  refine wpAny_bind (wpAny_field t4 t5 t6 ?_)
  by_cases hq:(f == rawInt L)=true
  ·rw[if_pos hq]
   have:f=rawInt L:=eq_of_beq hq;subst this;refine hold fun z_ k_=>?_;obtain⟨hh,hg,hd,ht,ho⟩:=s;refine k_ ?_;exact wpAny_pure (h hh x ⟨h1,.refl _⟩)
  ·rw[if_neg hq]
   refine wpAny_bind (wpAny_setField t4 t5 (Array.getElem?_eq_some_iff.mp t6).1 ?_);have other:∀ b,b≠T→(s.heap.update T (Obj.mapFields (·.setIfInBounds 3 Value.none))).get? b=s.heap.get? b:=fun b hb=>Heap.get?_update_other _ _ (Ne.symm hb);have noRecord:∀ b o,s.heap.get? b=some o→(∀ vs,o.data≠.fields vs)→b≠T:=fun b o hb hnf q=>by
    rw[q,t4] at hb;injection hb with hb;subst hb;exact hnf ts t5
   refine zjC (s:={ s with heap:=s.heap.update T (Obj.mapFields (·.setIfInBounds 3 Value.none)) }) hfr (hl.of_keeps fun b o hb hnf=>⟨o,(other b (noRecord b o hb hnf)).trans hb,rfl⟩) hf ((other e (Ne.symm t3)).trans h3)
    (fun b o hbo=>(other b fun q=>by rw[q,t2] at hbo;cases hbo).trans (h1 b o hbo)) h2 h4d h5 (by omega) h6 fun h' y1 y2=>h h' y1 ⟨y2.stays,fun b o hb hnf=>y2.slots b o ((other b (noRecord b o hb hnf)).trans hb) hnf⟩
theorem zdZ {base:Heap}{e:Addr}{C f:Value}{fr:Option Addr}{Q:Unit→Shared→Prop}
  (x:XAt base s.heap e C (some f))
  (h:∀ h',XAt base h' e C (some (fr.elim .none fun f=>rawInt f))→Touch base s.heap h'→Q () { s with heap:=h' }):wpAny M A (setFlight (.ref e) fr) Q E s:=by
 refine hold fun z_ k_=>?_;obtain⟨h1,h2,oe,vs,h3,h4,h5,h6,T,oT,ts,t1,t2,t3,t4,t5,t6⟩:=id x;refine k_ ?_;have hsz3:3 < ts.size:=(Array.getElem?_eq_some_iff.mp t6).1;have other:∀ b,b≠T→(s.heap.update T (Obj.mapFields (·.setIfInBounds 3 (fr.elim Value.none fun f=>rawInt f)))).get? b=s.heap.get? b :=
  fun b hb=>Heap.get?_update_other _ _ (Ne.symm hb)
 have noRecord:∀ b o,s.heap.get? b=some o→(∀ vs,o.data≠.fields vs)→b≠T:=fun b o hb hnf q=>by
  rw[q,t4] at hb;injection hb with hb;subst hb;exact hnf ts t5
 have kb:base.StaysIn (s.heap.update T (Obj.mapFields (·.setIfInBounds 3 (fr.elim Value.none fun f=>rawInt f)))):=fun b o hbo=>(other b fun q=>by rw[q,t2] at hbo;cases hbo).trans (h1 b o hbo)
 unfold setFlight;refine wpAny_bind (wpAny_field h3 h5 t1 ?_);rw[if_pos (show(Value.ref T != Value.none)=true from by simp)]
 refine wpAny_setField t4 t5 hsz3 (h _ ?_ ⟨kb,fun b o hb hnf=>⟨o.slots,(other b (noRecord b o hb hnf)).trans hb⟩⟩);exact⟨kb,h2,oe,vs,(other e (Ne.symm t3)).trans h3,h4,h5,h6,T,_,_,t1,t2,t3,Heap.get?_update_self _ t4 (Obj.isFreed_of_fields (Obj.data_mapFields t5 _)),Obj.data_mapFields t5 _,by simp[hsz3]⟩
theorem znE {base:Heap}{env:Env}{outer:List Env}{L e:Addr}{C:Value}{fl:Option Value}{Q:Unit→Shared→Prop}
  (hfr:A.frames=some (env::outer)) (hl:s.heap.FunFrames base (env::outer)) (hf:env.frame=some L) (x:XAt base s.heap e C fl)
  (h:∀ h',XAt base h' e C (some .none)→Touch base s.heap h'→Q () { s with heap:=h' }):wpAny M A (leaving env (.ref e)) Q E s:=by
 unfold leaving;refine wpAny_bind (zjB hfr hl hf x fun h₁ x₁ k₁=>?_);exact zdZ (fr:=none) x₁ fun h₂ x₂ k₂=>h h₂ x₂ (k₁.trans k₂)
end
theorem zfj {M:Model}{A:Around}{α:Type}{t:Sem α}{Q:α→Shared→Prop}{E:Value→Shared→Prop}{s:Shared}(h:∀ (Q':α→Shared→Prop) (E':Value→Shared→Prop),(∀ a s,Q a s→Q' a s)→(∀ y s,E y s→E' y s)→wpAny M A t Q' E' s):wpAny M A t Q E s:=h Q E (fun z_ z_ h=>h) fun z_ z_ h=>h
inductive OkP (am:Amb) (stack:List Env){α β:Type}(Rel:List Addr→Heap→β→α→Prop) (π:List Addr) (s:Shared) (r:R β) (a:α) (s':Shared):Prop
 |mk (b:β) (H':H) (π':List Addr) (h1:r=.ok b H') (h2:Step (Fs stack) π s π' s') (h3:HR am stack π' H' s'.heap) (h4:Rel π' s'.heap b a)
abbrev ground (stack:List Env) (π:List Addr) (h:Heap):Heap:=hideAll h (π++Fs stack)
inductive ErP (am:Amb) (stack:List Env){β:Type}(π:List Addr) (s:Shared) (r:R β) (x:Value) (s':Shared):Prop
 |mk (c:String) (H':H) (π':List Addr) (e C:Addr) (fl:Option Value) (h1:r=.err c H') (h2:x=.ref e) (h3:am.mg (Str.ofString c)=some (.ref C)) (h4:Step (Fs stack) π s π' s') (h5:HR am stack π' H' s'.heap) (h6:XAt (ground stack π s.heap) s'.heap e (.ref C) fl)
noncomputable def JAt (am:Amb) (stack:List Env) (A:Around){α β:Type}(m:Sem α) (r:R β) (Rel:List Addr→Heap→β→α→Prop) (π:List Addr) (s:Shared):Prop :=
 r=.bad∨wpAny am.M A m (OkP am stack Rel π s r) (ErP am stack π s r) s
theorem zh1 {stack:List Env}{π π':List Addr}{s s':Shared}(x:Step (Fs stack) π s π' s'):(ground stack π s.heap).StaysIn (ground stack π' s'.heap):=by
 intro b o e;have h1:=of_hideAll _ e;have hn:b ∉ π++Fs stack:=fun hm=>by rw[hideAll_none _ hm] at e;cases e
 rw[List.mem_append,not_or] at hn;refine hideAll_get _ (x.ext.keep b o h1 hn.1 hn.2) ?_;rw[List.mem_append,not_or];exact⟨x.notin h1 hn.1,hn.2⟩
theorem OkP.step {am:Amb}{stack:List Env}{α β:Type}{Rel:List Addr→Heap→β→α→Prop}{π π₁:List Addr}{s s₁:Shared}{r:R β}{a:α}{s':Shared}
  (x:Step (Fs stack) π s π₁ s₁) (y:OkP am stack Rel π₁ s₁ r a s'):OkP am stack Rel π s r a s':=by
 refine hold fun z_ k_=>?_;obtain⟨b,H',π',h1,h2,h3,h4⟩:=y;refine k_ ?_;exact⟨b,H',π',h1,x.trans h2,h3,h4⟩
theorem ErP.step {am:Amb}{stack:List Env}{β:Type}{π π₁:List Addr}{s s₁:Shared}{r:R β}{a:Value}{s':Shared}
  (x:Step (Fs stack) π s π₁ s₁) (y:ErP am stack π₁ s₁ r a s'):ErP am stack π s r a s':=by
 refine hold fun z_ k_=>?_;obtain⟨c,H',π',e,C,fl,h1,h2,h3,h4,h5,h6⟩:=y;refine k_ ?_;exact⟨c,H',π',e,C,fl,h1,h2,h3,x.trans h4,h5,h6.mono (zh1 x)⟩
section
variable {am:Amb}{stack:List Env}{A:Around}{α β γ δ:Type}{Rel:List Addr→Heap→β→α→Prop}{Rel':List Addr→Heap→δ→γ→Prop}{π:List Addr}{s:Shared}
theorem JAt.bind {m:Sem α}{f:α→Sem γ}{r:R β}{g:β→H→R δ}(h1:JAt am stack A m r Rel π s)
  (h2:∀ a b H' π' s',r=.ok b H'→Step (Fs stack) π s π' s'→HR am stack π' H' s'.heap→Rel π' s'.heap b a→JAt am stack A (f a) (g b H') Rel' π' s') :
  JAt am stack A (m >>= f) (r.bind g) Rel' π s:=by
 rcases h1 with rfl|h1
 ·exact .inl rfl
 ·cases r with
  |bad=>exact .inl rfl
  |err c H' =>
   refine .inr (wpAny_bind (wpAny_mono h1 (fun a s' h=>?_) fun e s' h=>?_))
   ·obtain⟨_,_,_,h,_⟩:=h;cases h
   ·refine hold fun z_ k_=>?_
    obtain⟨c',H'',π',e',C,fl,h,r2,r3,r4,r5,r6⟩:=h;refine k_ ?_
    cases h
    exact⟨c,H',π',e',C,fl,rfl,r2,r3,r4,r5,r6⟩
  |ok b H' =>
   by_cases hb:g b H'=.bad
   ·exact .inl hb
   ·refine .inr (wpAny_bind (wpAny_mono h1 (fun a s' h=>?_) fun e s' h=>?_))
    ·refine hold fun z_ k_=>?_
     obtain⟨b',H'',π',h,h3,h4,h5⟩:=h;refine k_ ?_
     cases h
     rcases h2 a b H' π' s' rfl h3 h4 h5 with h6|h6
     ·exact absurd h6 hb
     ·exact wpAny_mono h6 (fun z_ z_ y=>OkP.step h3 y) fun z_ z_ y=>ErP.step h3 y
    ·obtain⟨_,_,_,_,_,_,h,_⟩:=h;cases h
theorem JAt.mono {m:Sem α}{r:R β}{Rel₂:List Addr→Heap→β→α→Prop}(h:JAt am stack A m r Rel π s) (k:∀ π h b a,Rel π h b a→Rel₂ π h b a):JAt am stack A m r Rel₂ π s:=by
 rcases h with h|h
 ·exact .inl h
 ·exact .inr (wpAny_mono h (fun a s' ⟨b,H',π',h1,h2,h3,h4⟩=>⟨b,H',π',h1,h2,h3,k _ _ _ _ h4⟩) fun z_ z_ y=>y)
theorem JAt.pure {a:α}{b:β}{Hc:H}(hr:HR am stack π Hc s.heap) (h:Rel π s.heap b a):JAt am stack A (pure a:Sem α) (.ok b Hc) Rel π s :=
 .inr (wpAny_pure ⟨b,Hc,π,rfl,.refl ..,hr,h⟩)
theorem JAt.bad {m:Sem α}:JAt am stack A m (.bad:R β) Rel π s:=.inl rfl
theorem JAt.congr {m m':Sem α}{r r':R β}(e:m=m') (er:r=r') (h:JAt am stack A m' r' Rel π s):JAt am stack A m r Rel π s:=by subst e er;exact h
theorem JAt.holding {vs:List Value}{m:Sem α}{r:R β}(h:JAt am stack A m r Rel π s):JAt am stack A (PySem.holding vs m) r Rel π s:=by
 rcases h with h|h
 ·exact .inl h
 ·exact .inr (wpAny_holding h)
theorem JAt.standAt {pos:Pos}{f:Unit→Sem α}{r:R β}(h:JAt am stack A (f ()) r Rel π s):JAt am stack A (PySem.standAt pos >>= f) r Rel π s:=by
 rcases h with h|h
 ·exact .inl h
 ·exact .inr (wpAny_bind (wpAny_standAt h))
theorem JAt.rule {m m':Sem α}{r:R β}(k:∀ (Q:α→Shared→Prop) (E:Value→Shared→Prop),wpAny am.M A m' Q E s→wpAny am.M A m Q E s) (h:JAt am stack A m' r Rel π s):JAt am stack A m r Rel π s:=by
 rcases h with h|h
 ·exact .inl h
 ·exact .inr (k _ _ h)
end
theorem zfr {M:Model}{A:Around}{vs keep:List Value}{Q:Unit→Shared→Prop}{E:Value→Shared→Prop}{s:Shared}(h:Q () s):wpAny M A (release vs keep) Q E s :=
 fun Γ p z_=>by
  unfold release;rw[Sem.wp_release_go];exact h
theorem zdx {M:Model}{A:Around}{vs:List Value}{m:Sem Value}{Q:Value→Shared→Prop}{E:Value→Shared→Prop}{s:Shared}(h:wpAny M A m Q E s):wpAny M A (operate vs m) Q E s:=by
 unfold operate;exact wpAny_bind (wpAny_holding (wpAny_mono h (fun r s' hr=>wpAny_bind (zfr (wpAny_pure hr))) fun z_ z_ y=>y))
theorem JAt.operate {am:Amb}{stack:List Env}{A:Around}{β:Type}{Rel:List Addr→Heap→β→Value→Prop}{π:List Addr}{s:Shared}{vs:List Value}{m:Sem Value}{r:R β}(h:JAt am stack A m r Rel π s):JAt am stack A (PySem.operate vs m) r Rel π s :=
 h.rule fun z_ z_ x=>zdx x
structure Cx where
 env:Env
 stack:List Env
 ctx:List (Str × Nat)
noncomputable def Vis (env:Env) (x:Str):Prop:=env.kindOf x=some .local∨env.kindOf x=some .cell∨env.kindOf x=some .free
noncomputable def VarAt (h:Heap) (env:Env) (x:Str) (v:Value):Prop :=
 (env.kindOf x=some .local∧∃ m,h.Ns env.locals m∧m x=some v) ∨
 ((env.kindOf x=some .cell∨env.kindOf x=some .free)∧∃ c,env.cells.lookup x=some c∧h.IsCell c (some v))
noncomputable def SR (am:Amb) (π:List Addr) (h:Heap) (v:V) (x:Value):Prop :=
 VR am π h v x∨∃ c a,v=.exc c∧x=.ref a∧a ∉ π∧ExcAt am h c a
structure ER (am:Amb) (cx:Cx) (ρ:List V) (π:List Addr) (h:Heap):Prop where
 ns:∃ m,h.Ns cx.env.locals m
 locOff:cx.env.locals ∉ π
 cellOff:∀ x c,cx.env.cells.lookup x=some c→c ∉ π∧c≠cx.env.locals∧∃ v,h.IsCell c v
 apart:∀ x y c,cx.env.cells.lookup x=some c→cx.env.cells.lookup y=some c→x=y
 var:∀ x i v,cx.ctx.lookup x=some i→ρ[i]?=some v→v≠.undef→Vis cx.env x→∃ v',VarAt h cx.env x v'∧SR am π h v v'
theorem Ext.ns {π Fs:List Addr}{h h':Heap}(x:Ext π Fs h h'){a:Addr}{m:Str→Option Value}(hn:h.Ns a m) (ha:a ∉ π):h'.Ns a m:=by
 refine hold fun z_ k_=>?_;obtain⟨o,es,ep,ho,hd,r⟩:=hn;refine k_ ?_;obtain⟨sl,hs⟩:=x.slots a o ho ha;exact⟨_,es,ep,hs,hd,r⟩
theorem Ext.cell {π Fs:List Addr}{h h':Heap}(x:Ext π Fs h h'){a:Addr}{v:Option Value}(hn:h.IsCell a v) (ha:a ∉ π):h'.IsCell a v:=by
 obtain⟨o,ho,hd⟩:=hn;obtain⟨sl,hs⟩:=x.slots a o ho ha;exact⟨_,hs,hd⟩
theorem Heap.Ns.exist {h:Heap}{a:Addr}{m:Str→Option Value}(hn:h.Ns a m):∃ o,h.get? a=some o:=let ⟨o,_,_,ho,_⟩:=hn;⟨o,ho⟩
theorem Heap.IsCell.exist {h:Heap}{a:Addr}{v:Option Value}(hn:h.IsCell a v):∃ o,h.get? a=some o:=let ⟨o,ho,_⟩:=hn;⟨o,ho⟩
theorem ExcAt.step {am:Amb}{Fs π π':List Addr}{s s':Shared}(x:Step Fs π s π' s'){c:String}{a:Addr}(e:ExcAt am s.heap c a) (ha:a ∉ π):a ∉ π'∧ExcAt am s'.heap c a:=by
 refine hold fun z_ k_=>?_;obtain⟨C,o,vs,h1,h2,h3,h4,h5,h6⟩:=e;refine k_ ?_;obtain⟨sl,h7⟩:=x.ext.slots a o h2 ha;exact⟨x.notin h2 ha,C,_,vs,h1,h7,h3,h4,h5,h6⟩
theorem SR.step {am:Amb}{Fs π π':List Addr}{s s':Shared}(x:Step Fs π s π' s'){v:V}{y:Value}(e:SR am π s.heap v y):SR am π' s'.heap v y:=by
 rcases e with e|⟨c,a,h1,h2,h3,h4⟩
 ·exact .inl (e.step x)
 ·have:=h4.step x h3
  exact .inr ⟨c,a,h1,h2,this.1,this.2⟩
theorem ER.step {am:Amb}{cx:Cx}{ρ:List V}{Fs π π':List Addr}{s s':Shared}(x:Step Fs π s π' s') (e:ER am cx ρ π s.heap):ER am cx ρ π' s'.heap:=by
 obtain⟨m,hm⟩:=e.ns;obtain⟨o,ho⟩:=Heap.Ns.exist hm;refine⟨⟨m,x.ext.ns hm e.locOff⟩,x.notin ho e.locOff,fun y c hc=>?_,e.apart,fun y i v h1 h2 h3 h4=>?_⟩
 ·refine hold fun z_ k_=>?_
  obtain⟨h1,h2,v,h3⟩:=e.cellOff y c hc;refine k_ ?_;obtain⟨o,ho⟩:=Heap.IsCell.exist h3;exact⟨x.notin ho h1,h2,v,x.ext.cell h3 h1⟩
 ·obtain⟨v',h5,h6⟩:=e.var y i v h1 h2 h3 h4
  refine⟨v',?_,h6.step x⟩
  rcases h5 with⟨k,m',h7,h8⟩|⟨k,c,h7,h8⟩
  ·exact .inl ⟨k,m',x.ext.ns h7 e.locOff,h8⟩
  ·exact .inr ⟨k,c,h7,x.ext.cell h8 (e.cellOff y c h7).1⟩
noncomputable def Hd (q:Bool) (A:Around) (π Fs:List Addr) (h:Heap):Prop :=
 if q then A.handled=none else ∃ he o vs,A.handled=some (.ref he)∧he ∉ π∧he ∉ Fs∧h.get? he=some o∧o.data=.fields vs∧vs[2]?=some .none
set_option tactic.hygienic true in
theorem Hd.step {q:Bool}{A:Around}{Fs π π':List Addr}{s s':Shared}(x:Step Fs π s π' s') (e:Hd q A π Fs s.heap):Hd q A π' Fs s'.heap:=by
 unfold Hd at e ⊢
 split
 ·rename_i hq;rw[if_pos hq] at e;exact e
 ·rename_i hq
  rw[if_neg hq] at e;refine hold fun z_ k_=>?_;obtain⟨he,o,vs,h1,h2,h3,h4,h5⟩:=e;refine k_ ?_;exact⟨he,o,vs,h1,x.notin h4 h2,h3,x.ext.keep he o h4 h2 h3,h5⟩
structure AS (n:Nat) (stack:List Env) (A:Around):Prop where
 frames:A.frames=some stack
 depth:A.depth+n < 800
 units:A.units+10 * n < 9000
theorem AS.dk {n:Nat}{stack:List Env}{A:Around}(as:AS n stack A){k:Nat}(hk:k≤200):A.depth+k < 1000:=Nat.lt_of_le_of_lt (Nat.add_le_add_right (Nat.le_add_right _ n) k) (Nat.lt_of_lt_of_le (Nat.add_lt_add_right as.depth k) (Nat.add_le_add_left hk 800))
theorem AS.uk {n:Nat}{stack:List Env}{A:Around}(as:AS n stack A){k:Nat}(hk:k≤900):A.units+k < 9900:=Nat.lt_of_le_of_lt (Nat.add_le_add_right (Nat.le_add_right _ (10 * n)) k) (Nat.lt_of_lt_of_le (Nat.add_lt_add_right as.units k) (Nat.add_le_add_left hk 9000))
theorem zk8 {i n:Nat}(h:i < n+1) (h':¬ i < n):i=n:=Nat.le_antisymm (Nat.le_of_lt_succ h) (Nat.le_of_not_lt h')
structure St (am:Amb) (q:Bool) (cx:Cx) (ρ:List V) (π:List Addr) (Hc:H) (A:Around) (s:Shared):Prop where
 hr:HR am cx.stack π Hc s.heap
 er:ER am cx ρ π s.heap
 hd:Hd q A π (Fs cx.stack) s.heap
theorem St.step {am:Amb}{q:Bool}{cx:Cx}{ρ:List V}{π π':List Addr}{Hc H':H}{A:Around}{s s':Shared}(x:St am q cx ρ π Hc A s) (y:Step (Fs cx.stack) π s π' s') (hr:HR am cx.stack π' H' s'.heap):St am q cx ρ π' H' A s' :=
 ⟨hr,x.er.step y,x.hd.step y⟩
structure AmbOK (am:Amb):Prop where
 g:am.B.Ns mainGlobals am.mg
 b:am.B.Ns builtinsNs am.mb
 nolimit:am.B.NoLimit
 noseer:am.B.NoSeer
 tree:am.prog.given.tree=none
structure TopEnv (e₀:Env):Prop where
 gen:e₀.scope.isGenerator=false
 co:e₀.scope.isCoroutine=false
 globals:e₀.globals=mainGlobals
 builtins:e₀.builtins=builtinsNs
noncomputable def zgA (stack:List Env):Prop:=∃ e₀ outer,stack=e₀::outer∧TopEnv e₀
structure CxOK (cx:Cx):Prop where
 clos:∀ x,cx.env.kindOf x=some .cell∨cx.env.kindOf x=some .free→∃ c,cx.env.cells.lookup x=some c
 kind:cx.env.scope.kind=.function
 globals:cx.env.globals=mainGlobals
 builtins:cx.env.builtins=builtinsNs
 top:∃ e₀ outer,cx.stack=e₀::outer∧e₀.frame=cx.env.frame∧TopEnv e₀
theorem CxOK.stackOK {cx:Cx}(x:CxOK cx):zgA cx.stack:=let ⟨e₀,outer,h,_,t⟩:=x.top;⟨e₀,outer,h,t⟩
end Mine
namespace Mine
open PySem PySem.W PyProof.Rows
theorem VR.keeps {am:Amb}{π:List Addr}{h h':Heap}(k:∀ b o,h.get? b=some o→h'.get? b=some o){v:V}{x:Value}(e:VR am π h v x):VR am π h' v x :=
 VR.step (Fs:=[]) (s:={ heap:=h }) (s':={ heap:=h' }) (Step.keeps (s:={ heap:=h }) (tk:=1) k) e
theorem VRs.keeps {am:Amb}{π:List Addr}{h h':Heap}(k:∀ b o,h.get? b=some o→h'.get? b=some o){v:List V}{x:List Value}(e:VRs am π h v x):VRs am π h' v x :=
 VRs.step (Fs:=[]) (s:={ heap:=h }) (s':={ heap:=h' }) (Step.keeps (s:={ heap:=h }) (tk:=1) k) e
theorem CellAt.keeps {am:Amb}{π:List Addr}{h h':Heap}(k:∀ b o,h.get? b=some o→h'.get? b=some o){c:Cell}{a:Addr}(e:CellAt am π h c a):CellAt am π h' c a:=by
 obtain⟨o,xs,ho,hk,h2,h3⟩:=e;exact⟨o,xs,k _ _ ho,hk,h2,h3.keeps k⟩
theorem HR.keeps {am:Amb}{stack:List Env}{π:List Addr}{Hc:H}{h h':Heap}(x:HR am stack π Hc h) (k:∀ b o,h.get? b=some o→h'.get? b=some o):HR am stack π Hc h' :=
 ⟨fun b o e=>k b o (x.base b o e),x.frames.of_keeps fun b o e z_=>⟨o,k b o e,rfl⟩,x.len,x.nodup,fun a ha=>let ⟨o,ho,hn⟩:=x.res a ha;⟨o,k a o ho,hn⟩,x.off,fun i c a h1 h2=>(x.cell i c a h1 h2).keeps k⟩
section
variable {am:Amb}{stack:List Env}{A:Around}{α β:Type}{Rel:List Addr→Heap→β→α→Prop}{π:List Addr}{s:Shared}{Hc:H}
theorem OkP.keeps {h':Heap}{tk:Nat}{a:α}{b:β}(hr:HR am stack π Hc s.heap) (k:∀ b o,s.heap.get? b=some o→h'.get? b=some o) (h:Rel π h' b a) :
  OkP am stack Rel π s (.ok b Hc) a { s with heap:=h',toks:=tk } :=
 ⟨b,Hc,π,rfl,.keeps k,hr.keeps k,h⟩
theorem OkP.tok {tk:Nat}{a:α}{b:β}(hr:HR am stack π Hc s.heap) (h:Rel π s.heap b a) :
  OkP am stack Rel π s (.ok b Hc) a { s with toks:=tk }:=OkP.keeps (h':=s.heap) hr (fun z_ z_ e=>e) h
theorem OkP.here {a:α}{b:β}(hr:HR am stack π Hc s.heap) (h:Rel π s.heap b a) :
  OkP am stack Rel π s (.ok b Hc) a s:=OkP.tok (tk:=s.toks) hr h
end
theorem zao {am:Amb}{stack:List Env}{π:List Addr}{Hc:H}{h:Heap}(hr:HR am stack π Hc h){l:Addr}(hl:h.get? l=none):l ∉ am.res:=fun hm=>by
 obtain⟨o,ho,_⟩:=hr.res l hm;rw[hl] at ho;cases ho
theorem zat {am:Amb}{stack:List Env}{π:List Addr}{Hc:H}{h:Heap}(hr:HR am stack π Hc h){l:Addr}(hl:h.get? l=none):l ∉ π:=by
 intro hm;obtain⟨i,hi⟩:=List.mem_iff_getElem?.mp hm;have hlt:i < Hc.length:=by rw[←hr.len];exact(List.getElem?_eq_some_iff.mp hi).1
 obtain⟨o,ho,_⟩:=(hr.cell i Hc[i] _ (List.getElem?_eq_getElem hlt) hi).obj;rw[hl] at ho;cases ho
theorem za4 {am:Amb}{stack:List Env}{π:List Addr}{Hc:H}{h:Heap}(hr:HR am stack π Hc h){l:Addr}(hl:h.get? l=none):l ∉ Fs stack:=fun hm=>by
 refine hold fun z_ k_=>?_;obtain⟨_,o,ho,_⟩:=hr.frames.mem hm;refine k_ ?_;rw[hl] at ho;cases ho
theorem zan (h:Heap):h.get? h.objs.size=none:=by
 cases q:h.get? h.objs.size with
 |none=>rfl
 |some o=>exact absurd (Heap.lt_size q) (Nat.lt_irrefl _)
noncomputable def Amb.hold (am:Amb) (l:Addr):Amb:={ am with res:=l::am.res }
theorem zm9 {am:Amb}{π:List Addr}{h:Heap}{l:Addr}:Via (am.hold l) am π (π++[l]) h h :=
 ⟨fun a o ho z_ h1 h2=>⟨⟨o.slots,ho⟩,by
   simp only[Amb.hold,List.mem_cons,not_or] at h2;simp[h1,h2.1],by
   simp only[Amb.hold,List.mem_cons,not_or] at h2;exact h2.2⟩,fun i a ha=>by rw[List.getElem?_append_left (List.getElem?_eq_some_iff.mp ha).1];exact ha⟩
theorem zjO {am:Amb}{π:List Addr}{h:Heap}{l:Addr}:Via (am.hold l) am π π h h :=
 ⟨fun a o ho z_ h1 h2=>⟨⟨o.slots,ho⟩,h1,fun q=>h2 (List.mem_cons_of_mem _ q)⟩,fun z_ z_ e=>e⟩
theorem zih {am:Amb}{π:List Addr}{h:Heap}{l:Addr}(hl:h.get? l=none):Via am (am.hold l) π π h h :=
 ⟨fun a o ho z_ h1 h2=>⟨⟨o.slots,ho⟩,h1,fun q=>by
  rcases List.mem_cons.mp q with rfl|q
  ·rw[hl] at ho;cases ho
  ·exact h2 q⟩,fun z_ z_ e=>e⟩
theorem VR.reserve {am:Amb}{π:List Addr}{h:Heap}{l:Addr}{v:V}{x:Value}(e:VR (am.hold l) π h v x):VR am (π++[l]) h v x∧VR am π h v x:=⟨e.via zm9,e.via zjO⟩
theorem VRs.reserve {am:Amb}{π:List Addr}{h:Heap}{l:Addr}{vs:List V}{xs:List Value}(e:VRs (am.hold l) π h vs xs):VRs am (π++[l]) h vs xs∧VRs am π h vs xs:=⟨e.via zm9,e.via zjO⟩
theorem VR.held {am:Amb}{π:List Addr}{h:Heap}{l:Addr}(hl:h.get? l=none){v:V}{x:Value}(e:VR am π h v x):VR (am.hold l) π h v x:=e.via (zih hl)
theorem VRs.held {am:Amb}{π:List Addr}{h:Heap}{l:Addr}(hl:h.get? l=none){vs:List V}{xs:List Value}(e:VRs am π h vs xs):VRs (am.hold l) π h vs xs:=e.via (zih hl)
noncomputable def NewL (am:Amb) (π:List Addr) (s:Shared) (vs:List V) (x:Value) (s':Shared):Prop :=
 ∃ l xs h' tk,x=.ref l∧s'={ s with heap:=h',toks:=tk }∧(∀ b o,s.heap.get? b=some o→h'.get? b=some o)∧s.heap.get? l=none∧PL h' l xs∧VRs (am.hold l) π h' vs xs
theorem NewL.push {am:Amb}{π:List Addr}{s:Shared}{vs:List V}{xs:List Value}{o:Obj}{n:Nat}{tk:Nat}(hv:VRs am π s.heap vs xs) (hc:o.cls=.type "list") (hdi:o.dict=none) (hd:o.data=.seq (List.toArray xs) n) :
  NewL am π s vs (.ref s.heap.objs.size) { s with heap:=s.heap.push o,toks:=tk }:=by
 have k:∀ b o',s.heap.get? b=some o'→(s.heap.push o).get? b=some o':=fun z_ z_ e=>Heap.get?_push_of_some _ e;exact⟨_,xs,_,tk,rfl,rfl,k,zan _,⟨o,n,Heap.get?_push_size _ (Obj.isFreed_of_seq hd),hc,hdi,hd⟩,(hv.held (zan _)).keeps k⟩
theorem NewL.lst {am:Amb}{stack:List Env}{π:List Addr}{s s':Shared}{Hc:H}{vs:List V}{x:Value}(hr:HR am stack π Hc s.heap) (hl:vs.length≤1000000) (n:NewL am π s vs x s') :
  OkP am stack (VR am) π s (.ok (.lst vs) Hc) x s':=by
 refine hold fun z_ k_=>?_;obtain⟨l,xs,h',tk,rfl,rfl,k,h1,h2,h3⟩:=n;refine k_ ?_;refine OkP.keeps hr k ?_;simp only[VR];exact⟨_,xs,rfl,⟨zat hr h1,zao hr h1⟩,h2.is,hl,h3.reserve.2⟩
theorem NewL.cell {am:Amb}{stack:List Env}{π:List Addr}{s s':Shared}{Hc:H}{vs:List V}{x:Value}(hr:HR am stack π Hc s.heap) (hl:vs.length≤1000000) (n:NewL am π s vs x s') :
  OkP am stack (VR am) π s (.ok (.ref Hc.length) (Hc++[.list vs])) x s':=by
 refine hold fun z_ k_=>?_;obtain⟨l,xs,h',tk,rfl,rfl,k,h1,h2,h3⟩:=n;refine k_ ?_;have hp:=zat hr h1;have st:Step (Fs stack) π s (π++[l]) { s with heap:=h',toks:=tk }:=⟨⟨h',tk,rfl⟩,.of_keeps k,[l],rfl,fun a ha=>by rw[List.mem_singleton.mp ha];exact h1⟩
 have hr':=hr.keeps k;refine⟨_,_,π++[l],rfl,st,⟨hr'.base,hr'.frames,by simp[hr.len],?_,hr'.res,?_,?_⟩,?_⟩
 ·rw[List.nodup_append]
  exact⟨hr.nodup,by simp,fun a ha b hb=>by rw[List.mem_singleton.mp hb];exact fun q=>hp (q ▸ ha)⟩
 ·intro a ha
  rcases List.mem_append.mp ha with ha|ha
  ·exact hr.off a ha
  ·rw[List.mem_singleton.mp ha];exact⟨zas hr.base h1,za4 hr h1⟩
 ·intro i c a hi ha
  by_cases hlt:i < Hc.length
  ·rw[List.getElem?_append_left hlt] at hi
   rw[List.getElem?_append_left (by rw[hr.len];exact hlt)] at ha
   exact(hr.cell i c a hi ha).via st.via fun o e z_=>⟨o.slots,k _ _ e⟩
  ·have hi':i=Hc.length:=zk8 (by have:=(List.getElem?_eq_some_iff.mp hi).1;rw[List.length_append] at this;exact this) hlt
   subst hi';simp only[List.getElem?_concat_length,Option.some.injEq] at hi;rw[←hr.len] at ha;simp only[List.getElem?_concat_length,Option.some.injEq] at ha;subst hi ha;exact .ofList h2 hl h3.reserve.1
 ·simp only[VR]
  exact⟨l,rfl,by rw[←hr.len];simp⟩
theorem OkP.lst {am:Amb}{stack:List Env}{π:List Addr}{s:Shared}{Hc:H}{vs:List V}{xs:List Value}{o:Obj}{n:Nat}{tk:Nat}(hr:HR am stack π Hc s.heap) (hv:VRs am π s.heap vs xs) (hl:vs.length≤1000000)
  (hc:o.cls=.type "list") (hdi:o.dict=none) (hd:o.data=.seq (List.toArray xs) n):OkP am stack (VR am) π s (.ok (.lst vs) Hc) (.ref s.heap.objs.size) { s with heap:=s.heap.push o,toks:=tk } :=
 (NewL.push hv hc hdi hd).lst hr hl
theorem OkP.tup {am:Amb}{stack:List Env}{π:List Addr}{s:Shared}{Hc:H}{vs:List V}{xs:List Value}{o:Obj}{n:Nat}{tk:Nat}(hr:HR am stack π Hc s.heap) (hv:VRs am π s.heap vs xs) (hl:vs.length≤1000000)
  (hc:o.cls=.type "tuple") (hd:o.data=.seq (List.toArray xs) n):OkP am stack (VR am) π s (.ok (.tup vs) Hc) (.ref s.heap.objs.size) { s with heap:=s.heap.push o,toks:=tk }:=by
 have k:∀ b o',s.heap.get? b=some o'→(s.heap.push o).get? b=some o':=fun z_ z_ e=>Heap.get?_push_of_some _ e;refine OkP.keeps hr k ?_;simp only[VR];exact⟨_,xs,rfl,⟨zat hr (zan _),zao hr (zan _)⟩,⟨o,Heap.get?_push_size _ (Obj.isFreed_of_seq hd),hc,n,hd⟩,hl,hv.keeps k⟩
set_option tactic.hygienic true in
theorem zbc {am:Amb}{stack:List Env}{π:List Addr}{Hc:H}{h:Heap}(hr:HR am stack π Hc h){v:V}{x:Value}{vs:List V}(e:VR am π h v x) (hi:litems Hc v=some vs) :
  ∃ l xs,x=.ref l∧h.IsList l (List.toArray xs)∧vs.length≤1000000∧VRs am π h vs xs:=by
 cases v with
 |lst ws =>
  simp only[litems,Option.some.injEq] at hi;subst hi;simp only[VR] at e;refine hold fun z_ k_=>?_;obtain⟨a,xs,h1,_,h3,h4,h5⟩:=e;refine k_ ?_;exact⟨a,xs,h1,h3,h4,h5⟩
 |ref i =>
  simp only[litems] at hi;simp only[VR] at e;obtain⟨a,h1,h2⟩:=e
  split at hi
  ·rename_i ws hw
   simp only[Option.some.injEq] at hi;subst hi;refine hold fun z_ k_=>?_;obtain⟨xs,h3,h4,h5⟩:=(hr.cell i _ a hw h2).list;refine k_ ?_;exact⟨a,xs,h1,h3.is,h4,h5⟩
  ·cases hi
 |_=>simp[litems] at hi
theorem zcv:(1000000:Nat)≤sizeLine:=by decide
theorem zbi {n:Nat}(h:n≤1000000):n≤sizeLine:=Nat.le_trans h zcv
theorem zep {n:Nat}(h:n≤1000000):(n:Int) < 2 ^ 63:=Int.lt_of_le_of_lt (Int.ofNat_le.2 h) (by decide)
theorem zin {j n:Nat}(h:j < n) (hz:n≤1000000):(j:Int) < 2 ^ 63:=zep (Nat.le_trans (Nat.le_of_lt h) hz)
theorem zgK {k:Int}{n:Nat}(h:-(n:Int)≤k) (hz:n≤1000000):-2 ^ 63≤k:=Int.le_trans (Int.le_trans (by decide) (Int.neg_le_neg (Int.ofNat_le.2 hz))) h
section
variable {am:Amb}{stack:List Env}{A:Around}{π:List Addr}{s:Shared}{Hc:H}
theorem seer (ok:AmbOK am) (st:zgA stack) (hf:A.frames=some stack) (hr:HR am stack π Hc s.heap):SeerAt am.M A s.heap:=by
 refine hold fun z_ k_=>?_;obtain⟨e₀,outer,rfl,t⟩:=st;refine k_ ?_;exact SeerAt.of (ok.noseer.keeps hr.base) ok.tree hf t.gen t.co t.builtins t.globals
theorem zjj {x y:Int}{t u:Tok}(hr:HR am stack π Hc s.heap):JAt am stack A (binaryOp .Add (.int x t) (.int y u)) (.ok (V.int (x+y)) Hc) (VR am) π s :=
 .inr (add_int (OkP.tok hr ⟨_,rfl⟩))
theorem zje {x y:Int}{t u:Tok}(hr:HR am stack π Hc s.heap):JAt am stack A (binaryOp .Sub (.int x t) (.int y u)) (.ok (V.int (x - y)) Hc) (VR am) π s :=
 .inr (sub_int' (OkP.tok hr ⟨_,rfl⟩))
set_option tactic.hygienic true in
theorem zfE {x:Int}(h:x.natAbs < 9223372036854775808):Builtin.Int.intBits x≤64:=by
 unfold Builtin.Int.intBits
 split
 ·exact Nat.zero_le _
 ·rename_i h0
  have h1:x.natAbs≠0:=by simpa using h0
  exact Nat.le_succ_of_le ((Nat.log2_lt h1 (k:=63)).mpr (by simpa using h))
theorem zjf {x y:Int}{t u:Tok}(hr:HR am stack π Hc s.heap) (h:x.natAbs < 9223372036854775808∨y.natAbs < 9223372036854775808) :
  JAt am stack A (binaryOp .Mult (.int x t) (.int y u)) (.ok (V.int (x * y)) Hc) (VR am) π s :=
 .inr (PyProof.Rows.mul_int (OkP.tok hr ⟨_,rfl⟩) (h.elim (fun h=>.of_left (zfE h)) fun h=>.of_right (zfE h)))
theorem zjg {x y:Int}{t u:Tok}(hr:HR am stack π Hc s.heap) (h:y≠0) :
  JAt am stack A (binaryOp .Mod (.int x t) (.int y u)) (.ok (V.int (x.fmod y)) Hc) (VR am) π s :=
 .inr (mod_int' h (OkP.tok hr ⟨_,rfl⟩))
theorem zhN {n:Nat}{x y:Int}{t u:Tok}(ok:AmbOK am) (st:zgA stack) (as:AS n stack A) (hr:HR am stack π Hc s.heap) (h:y≠0) :
  JAt am stack A (binaryOp .FloorDiv (.int x t) (.int y u)) (.ok (V.int (x.fdiv y)) Hc) (VR am) π s :=
 .inr (floordiv_int h (OkP.tok hr ⟨_,rfl⟩) (.inr (PylongRoom.of (ok.nolimit.keeps hr.base) (as.dk (by decide)) (seer ok st as.frames hr))))
theorem zef {a b:V}{x y:Value}{vs ws:List V}{Q:Value→Shared→Prop}{E:Value→Shared→Prop}(hr:HR am stack π Hc s.heap) (ha:VR am π s.heap a x) (hb:VR am π s.heap b y) (la:litems Hc a=some vs) (lb:litems Hc b=some ws) (hle:(vs++ws).length≤1000000)
  (h:∀ y s',NewL am π s (vs++ws) y s'→Q y s'):wpAny am.M A (binaryOp .Add x y) Q E s:=by
 refine hold fun z_ k_=>?_;obtain⟨l,xs,rfl,hl,h1,h2⟩:=zbc hr ha la;refine k_ ?_;refine hold fun z_ k_=>?_;obtain⟨l',ys,rfl,hl',h3,h4⟩:=zbc hr hb lb;refine k_ ?_;refine hold fun z_ k_=>?_;obtain⟨⟨cls,dd,data,sl⟩,ho,hc,n,hd⟩:=hl;refine k_ ?_;refine hold fun z_ k_=>?_;obtain⟨⟨cls2,dd2,data2,sl2⟩,ho2,hc2,n2,hd2⟩:=hl';refine k_ ?_;simp only at hc hd hc2 hd2;subst hc hd hc2 hd2;have hsz:(List.toArray xs).size+(List.toArray ys).size≤sizeLine:=by
  rw[List.length_append] at hle;rw[List.size_toArray,List.size_toArray,h2.len,h4.len];exact zbi hle
 refine concat_meets ⟨_,ho,rfl⟩ ⟨_,ho2,rfl⟩ noFill_list_add seq_list_add PySem.F.slot_list_add PySem.F.entry_list_add (PySem.F.args_list_add_2 _ _) (list_addW l l' _ _ n n2 dd dd2 sl sl2 hsz) ⟨ho,ho2,?_⟩;exact h _ _ (NewL.push (xs:=xs++ys) (n:=0) (h2.append h4) rfl rfl (by simp))
set_option tactic.hygienic true in
theorem zhO {a b:V}{x y:Value}{vs ws:List V}(hr:HR am stack π Hc s.heap) (ha:VR am π s.heap a x) (hb:VR am π s.heap b y) (la:litems Hc a=some vs) (lb:litems Hc b=some ws) :
  JAt am stack A (binaryOp .Add x y) (R.opt (mkL (vs++ws)) Hc) (VR am) π s:=by
 unfold mkL
 split
 ·rename_i hle
  exact .inr (zef hr ha hb la lb hle fun y s' n=>n.lst hr hle)
 ·exact .inl rfl
set_option tactic.hygienic true in
theorem zji {x y:Value}{vs ws:List V}(hr:HR am stack π Hc s.heap) (ha:VR am π s.heap (.tup vs) x) (hb:VR am π s.heap (.tup ws) y) :
  JAt am stack A (binaryOp .Add x y) (R.opt (mkT (vs++ws)) Hc) (VR am) π s:=by
 unfold mkT
 split
 ·rename_i hle
  simp only[VR] at ha hb;refine hold fun z_ k_=>?_;obtain⟨l,xs,rfl,hp,hl,h1,h2⟩:=ha;refine k_ ?_;refine hold fun z_ k_=>?_;obtain⟨l',ys,rfl,hp',hl',h3,h4⟩:=hb;refine k_ ?_;have hl0:=hl;have hl0':=hl';refine hold fun z_ k_=>?_;obtain⟨⟨cls,dd,data,sl⟩,ho,hc,n,hd⟩:=hl;refine k_ ?_;refine hold fun z_ k_=>?_;obtain⟨⟨cls2,dd2,data2,sl2⟩,ho2,hc2,n2,hd2⟩:=hl';refine k_ ?_;simp only at hc hd hc2 hd2;subst hc hd hc2 hd2
  have hsz:(List.toArray xs).size+(List.toArray ys).size≤sizeLine:=by
   rw[List.length_append] at hle;rw[List.size_toArray,List.size_toArray,h2.len,h4.len];exact zbi hle
  refine .inr ?_
  by_cases hv:xs=[]
  ·refine concat_meets ⟨_,ho,rfl⟩ ⟨_,ho2,rfl⟩ noFill_tuple_add seq_tuple_add PySem.F.slot_tuple_add PySem.F.entry_tuple_add (PySem.F.args_tuple_add_2 _ _)
    (tuple_addW0 l l' _ _ n n2 dd dd2 sl sl2 (by simp[hv])) ⟨ho,ho2,OkP.here hr ?_⟩
   have:vs=[]:=by have:=h2.len;rw[hv] at this;exact List.eq_nil_of_length_eq_zero this.symm
   subst this;simp only[List.nil_append,VR];exact⟨l',ys,rfl,hp',hl0',h3,h4⟩
  ·by_cases hw:ys=[]
   ·refine concat_meets ⟨_,ho,rfl⟩ ⟨_,ho2,rfl⟩ noFill_tuple_add seq_tuple_add PySem.F.slot_tuple_add PySem.F.entry_tuple_add (PySem.F.args_tuple_add_2 _ _)
     (tuple_addW1 l l' _ _ n n2 dd dd2 sl sl2 (by simpa using hv) (by simp[hw])) ⟨ho,ho2,OkP.here hr ?_⟩
    have:ws=[]:=by have:=h4.len;rw[hw] at this;exact List.eq_nil_of_length_eq_zero this.symm
    subst this;simp only[List.append_nil,VR];exact⟨l,xs,rfl,hp,hl0,h1,h2⟩
   ·refine concat_meets ⟨_,ho,rfl⟩ ⟨_,ho2,rfl⟩ noFill_tuple_add seq_tuple_add PySem.F.slot_tuple_add PySem.F.entry_tuple_add (PySem.F.args_tuple_add_2 _ _)
     (tuple_addW2 l l' _ _ n n2 dd dd2 sl sl2 (by simpa using hv) (by simpa using hw) hsz) ⟨ho,ho2,?_⟩
    exact OkP.tup (xs:=xs++ys) (n:=0) hr (h2.append h4) hle rfl (by simp)
 ·exact .inl rfl
theorem zhd (xs:List Value):∀ (n:Nat) (acc:Array Value),(List.foldl (fun x1 x2=>x1++x2) acc (List.replicate n (List.toArray xs)))=acc++List.toArray (List.replicate n xs).flatten
 |0,acc=>by simp
 |n+1,acc=>by
  rw[List.replicate_succ,List.foldl_cons,zhd xs n,List.replicate_succ,List.flatten_cons];simp
theorem zn9 {α:Type}(vs:List α) (n:Int):(rep vs n).length=n.toNat * vs.length:=by simp[rep]
theorem zhs {a:V}{x:Value}{vs:List V}{k:Int}{u:Tok}{Q:Value→Shared→Prop}{E:Value→Shared→Prop}(hr:HR am stack π Hc s.heap) (ha:VR am π s.heap a x) (la:litems Hc a=some vs) (hk:k < 1000000∧-1000000 < k) (hle:(rep vs k).length≤1000000)
  (h:∀ y s',NewL am π s (rep vs k) y s'→Q y s'):wpAny am.M A (binaryOp .Mult x (.int k u)) Q E s:=by
 refine hold fun z_ k_=>?_;obtain⟨l,xs,rfl,hl,h1,h2⟩:=zbc hr ha la;refine k_ ?_;refine hold fun z_ k_=>?_;obtain⟨⟨cls,dd,data,sl⟩,ho,hc,n,hd⟩:=hl;refine k_ ?_;simp only at hc hd;subst hc hd;have e1:=h2.len;rw[zn9] at hle;have hsz:(List.toArray xs).size * k.toNat≤1000000:=by rw[List.size_toArray,e1,Nat.mul_comm];exact hle
 refine wpAny_binaryOp_repeat_ref (T:="list") (U:="int") (by decide) ⟨_,ho,rfl⟩ (fun s'=>typeIs_int s' k u) noFill_list_mul PySem.F.fills_int_mul PySem.F.slot_int_rmul repeat_list PySem.F.slot_int_index.lookup
  (call_meets PySem.F.slot_int_rmul (typeIs_int s k u) PySem.F.entry_int_rmul (PySem.F.args_int_rmul_2 _ _) (lm_int_rmul_list_any k u l _ n dd sl)
   ⟨ho,rfl,⟨_,ho,rfl⟩,call_meets PySem.F.slot_list_mul ⟨_,ho,rfl⟩ PySem.F.entry_list_mul (PySem.F.args_list_mul_2 _ _)
    (lm_list_mul_any l _ n dd sl k u (by simp[Builtin.List.listFitsIndex];omega) (by omega) (by simp[Builtin.List.listTooLong,sizeLine];simp only[List.size_toArray] at hsz;omega)) ⟨ho,?_⟩⟩)
 rw[zhd];refine h _ _ (NewL.push (xs:=(List.replicate k.toNat xs).flatten) (n:=0) (VRs.flatten h2 _) rfl rfl ?_);simp only[Array.empty_append,List.isEmpty_toArray]
 by_cases hx:xs=[]
 ·subst hx;simp
 ·rw[if_neg (by simpa using hx)]
set_option tactic.hygienic true in
theorem zhM {a:V}{x:Value}{vs:List V}{k:Int}{u:Tok}(hr:HR am stack π Hc s.heap) (ha:VR am π s.heap a x) (la:litems Hc a=some vs) (hk:k < 1000000∧-1000000 < k) :
  JAt am stack A (binaryOp .Mult x (.int k u)) (R.opt (mkL (rep vs k)) Hc) (VR am) π s:=by
 unfold mkL
 split
 ·rename_i hle
  exact .inr (zhs hr ha la hk hle fun y s' n=>n.lst hr hle)
 ·exact .inl rfl
end
end Mine
namespace Mine
open PySem PySem.W PyProof.Rows PySem.SeqAt
mutual
noncomputable def toD:V→PyData
 |.undef=>.none
 |.none=>.none
 |.bool b=>.bool b
 |.int i=>.int i
 |.str s=>.str (Str.ofString s)
 |.tup vs=>.tuple (toDs vs)
 |.lst vs=>.list (toDs vs)
 |.ref _=>.none
 |.exc _=>.none
 |.dct=>.none
noncomputable def toDs:List V→List PyData
 |[]=>[]
 |v::vs=>toD v::toDs vs
end
theorem zgR {a b:String}(h:Str.ofString a=Str.ofString b):a=b:=by
 unfold Str.ofString at h
 injection h with h
 have h:=congrArg Array.toList h;simp only at h;rw[cpsOfBytes_string,cpsOfBytes_string] at h;have h2:a.toList=b.toList:=List.map_inj_right (fun x y e=>by
  have:=Char.ext (UInt32.toNat_inj.mp e);exact this) |>.mp h
 exact String.toList_inj.mp h2
theorem zgS (a b:String):(Str.ofString a == Str.ofString b)=(a == b):=by
 by_cases h:a=b
 ·subst h;simp
 ·rw[beq_eq_false_iff_ne.mpr h]
  exact beq_eq_false_iff_ne.mpr fun e=>h (zgR e)
theorem zlM (s:String):PyData.strOk (Str.ofString s)=true:=by
 unfold PyData.strOk Str.ofString;rw[←Array.all_toList];simp only[cpsOfBytes_string,List.all_map,List.all_eq_true];intro c _;have h:=c.valid;simp only[UInt32.isValidChar,Nat.isValidChar] at h;exact decide_eq_true (h.elim (fun h=>Nat.lt_trans h (by decide)) And.right)
mutual
theorem zgv:∀ (n:Nat) (a b:V),V.ok n a=true→V.ok n b=true→PyData.eqv (toD a) (toD b)=peq a b
 |0,a,b,h,_=>absurd h Bool.false_ne_true
 |n+1,.undef,b,h,_=>absurd h Bool.false_ne_true
 |n+1,.exc _,b,h,_=>absurd h Bool.false_ne_true
 |n+1,.ref _,b,h,_=>absurd h Bool.false_ne_true
 |n+1,.dct,b,h,_=>absurd h Bool.false_ne_true
 |n+1,.none,b,_,h=>by cases b<;>first|rfl|exact absurd h Bool.false_ne_true
 |n+1,.bool _,b,_,h=>by cases b<;>first|rfl|exact absurd h Bool.false_ne_true
 |n+1,.int _,b,_,h=>by cases b<;>first|rfl|exact absurd h Bool.false_ne_true
 |n+1,.str x,b,_,h=>by
  cases b<;>first|rfl|exact absurd h Bool.false_ne_true|exact zgS _ _
 |n+1,.tup vs,b,h,h'=>by
  cases b<;>first|rfl|exact absurd h' Bool.false_ne_true|exact zgu n vs _ h h'
 |n+1,.lst vs,b,h,h'=>by
  cases b<;>first|rfl|exact absurd h' Bool.false_ne_true|exact zgu n vs _ h h'
theorem zgu:∀ (n:Nat) (a b:List V),a.all (V.ok n)=true→b.all (V.ok n)=true→PyData.eqvAll (toDs a) (toDs b)=peqs a b
 |n,[],[],_,_=>rfl
 |n,[],_::_,_,_=>rfl
 |n,_::_,[],_,_=>rfl
 |n,a::as,b::bs,h,h'=>by
  simp only[List.all_cons,Bool.and_eq_true] at h h';simp only[toDs,PyData.eqvAll,zgP,zgv n a b h.1 h'.1,zgu n as bs h.2 h'.2]
end
mutual
theorem zdG:∀ (n:Nat) (a:V),V.ok n a=true→(toD a).canLay0=true∧(toD a).depth≤n
 |0,a,h=>absurd h Bool.false_ne_true
 |n+1,.undef,h=>absurd h Bool.false_ne_true
 |n+1,.exc _,h=>absurd h Bool.false_ne_true
 |n+1,.ref _,h=>absurd h Bool.false_ne_true
 |n+1,.dct,h=>absurd h Bool.false_ne_true
 |n+1,.none,_=>⟨rfl,Nat.zero_le _⟩
 |n+1,.bool _,_=>⟨rfl,Nat.zero_le _⟩
 |n+1,.int _,_=>⟨rfl,Nat.zero_le _⟩
 |n+1,.str x,_=>⟨zlM x,Nat.zero_le _⟩
 |n+1,.tup vs,h=>(zcD n vs h).imp id Nat.succ_le_succ
 |n+1,.lst vs,h=>(zcD n vs h).imp id Nat.succ_le_succ
theorem zcD:∀ (n:Nat) (a:List V),a.all (V.ok n)=true→PyData.canLayAll0 (toDs a)=true∧PyData.depthAll (toDs a)≤n
 |n,[],_=>⟨rfl,by simp[toDs,PyData.depthAll]⟩
 |n,a::as,h=>by
  simp only[List.all_cons,Bool.and_eq_true] at h;have h1:=zdG n a h.1;have h2:=zcD n as h.2;simp only[toDs,PyData.canLayAll0,PyData.depthAll,Bool.and_eq_true];exact⟨⟨h1.1,h2.1⟩,Nat.max_le.2 ⟨h1.2,h2.2⟩⟩
end
theorem zcV {a:V}(h:V.ok 8 a=true):shaped (toD a)=true:=by
 have:=zdG 8 a h;unfold shaped;rw[this.1];simp only[Bool.true_and,decide_eq_true_eq];exact Nat.le_trans this.2 (by decide)
noncomputable def Tells (am:Amb) (π:List Addr) (h:Heap) (g:Nat→Option V):Prop :=
 ∀ (i:Nat) (a:Addr) (v':V),π[i]?=some a→g i=some v'→∀ n,V.ok n v'=true→∃ as,Reads h (.ref a) (toD v') as
mutual
theorem zdR {am:Amb}{π:List Addr}{h:Heap}{g:Nat→Option V}(T:Tells am π h g):∀ (v:V) (x:Value) (v':V) (n:Nat),VR am π h v x→V.mapRef g v=some v'→V.ok n v'=true→∃ as,Reads h x (toD v') as
 |v,x,v',0,_,_,h3=>absurd h3 Bool.false_ne_true
 |.undef,x,v',n+1,h1,_,_=>h1.elim
 |.exc _,x,v',n+1,h1,_,_=>h1.elim
 |.dct,x,v',n+1,_,h2,h3=>by cases h2;exact absurd h3 Bool.false_ne_true
 |.none,x,v',n+1,h1,h2,_=>by
  cases h2;obtain rfl:x=.none:=h1;exact⟨[],.none⟩
 |.bool b,x,v',n+1,h1,h2,_=>by
  cases h2;obtain rfl:x=.bool b:=h1;exact⟨[],.bool _⟩
 |.int _,x,v',n+1,h1,h2,_=>by
  cases h2;obtain⟨t,rfl⟩:=h1;exact⟨[],.int _ t⟩
 |.str _,x,v',n+1,h1,h2,_=>by
  cases h2;obtain⟨t,rfl⟩:=h1;exact⟨[],.str _ t⟩
 |.ref i,x,v',n+1,h1,h2,h3=>by
  obtain⟨a,rfl,ha⟩:=h1;exact T i a v' ha h2 _ h3
 |.tup vs,x,v',n+1,h1,h2,h3=>by
  obtain⟨vs',j2,rfl⟩:=Option.map_eq_some_iff.1 h2;refine hold fun z_ k_=>?_;obtain⟨a,xs,rfl,_,⟨o,ho,hc,m,hd⟩,_,h5⟩:=h1;refine k_ ?_;obtain⟨as,h6⟩:=zbG T vs xs vs' n h5 j2 h3;exact⟨as,.tuple ho hc hd (by simpa using h6)⟩
 |.lst vs,x,v',n+1,h1,h2,h3=>by
  obtain⟨vs',j2,rfl⟩:=Option.map_eq_some_iff.1 h2;refine hold fun z_ k_=>?_;obtain⟨a,xs,rfl,_,⟨o,ho,hc,m,hd⟩,_,h5⟩:=h1;refine k_ ?_;obtain⟨as,h6⟩:=zbG T vs xs vs' n h5 j2 h3;exact⟨a::as,.list ho hc hd (by simpa using h6)⟩
theorem zbG {am:Amb}{π:List Addr}{h:Heap}{g:Nat→Option V}(T:Tells am π h g):∀ (vs:List V) (xs:List Value) (vs':List V) (n:Nat),VRs am π h vs xs→V.mapRefs g vs=some vs'→vs'.all (V.ok n)=true→∃ as,ReadsAll h xs (toDs vs') as
 |[],xs,vs',n,h1,h2,_=>by
  cases h2;obtain rfl:xs=[]:=h1
  exact⟨[],.nil⟩
 |v::vs,xs,vs',n,h1,h2,h3=>by
  refine hold fun z_ k_=>?_;obtain⟨v',j2,h4⟩:=Option.bind_eq_some_iff.1 h2;obtain⟨ws,j4,rfl⟩:=Option.map_eq_some_iff.1 h4;refine k_ ?_;refine hold fun z_ k_=>?_;obtain⟨x,xs',rfl,h5,h6⟩:=h1;refine k_ ?_;simp only[List.all_cons,Bool.and_eq_true] at h3;obtain⟨as,h7⟩:=zdR T v x v' n h5 j2 h3.1;obtain⟨bs,h8⟩:=zbG T vs xs' ws n h6 j4 h3.2;exact⟨as++bs,.cons h7 h8⟩
end
set_option tactic.hygienic true in
theorem zel {am:Amb}{stack:List Env}{π:List Addr}{Hc:H}{h:Heap}(hr:HR am stack π Hc h):∀ k:Nat,Tells am π h (frzAt k 0 Hc)
 |0=>fun i a v' z_ hg=>nomatch hg
 |k+1=>fun i a v' hi hg n hn=>by
  rw[zc8,if_neg (Nat.not_lt_zero _)] at hg
  split at hg
  ·rename_i vs hc
   obtain⟨vs',h1,rfl⟩:=Option.map_eq_some_iff.1 hg;refine hold fun z_ k_=>?_;obtain⟨xs,⟨o,m,ho,hcl,_,hd⟩,_,h3⟩:=(hr.cell i _ a hc hi).list;refine k_ ?_
   cases n with
   |zero=>exact absurd hn Bool.false_ne_true
   |succ n =>
    obtain⟨as,h6⟩:=zbG (zel hr k) vs xs vs' n h3 h1 hn;exact⟨a::as,.list ho hcl hd (by simpa using h6)⟩
  ·cases hg
section
variable {am:Amb}{stack:List Env}{A:Around}{π:List Addr}{s:Shared}{Hc:H}
theorem zca (hr:HR am stack π Hc s.heap){v v':V}{x:Value}(h1:VR am π s.heap v x) (h2:frz 0 Hc v=some v') (h3:V.ok 8 v'=true):∃ as,Reads s.heap x (toD v') as :=
 zdR (zel hr 4) v x v' 8 h1 h2 h3
set_option tactic.hygienic true in
theorem zq4 {n:Nat}{a b:V}{x y:Value}(as:AS n stack A) (hr:HR am stack π Hc s.heap) (ha:VR am π s.heap a x) (hb:VR am π s.heap b y) :
  JAt am stack A (compareOp .Eq x y) (R.opt ((pyEq Hc a b).map V.bool) Hc) (VR am) π s:=by
 unfold pyEq
 cases h1:frz 0 Hc a with
 |none=>exact .inl rfl
 |some a' =>
  cases h2:frz 0 Hc b with
  |none=>exact .inl rfl
  |some b' =>
   simp only
   split
   ·rename_i h
    simp only[Bool.and_eq_true] at h;obtain⟨_,r1⟩:=zca hr ha h1 h.1;obtain⟨_,r2⟩:=zca hr hb h2 h.2;refine .inr (compareEq_shaped r1 r2 (zcV h.1) (zcV h.2) (as.uk (by decide)) ?_)
    rw[zgv 8 a' b' h.1 h.2];exact OkP.here hr rfl
   ·exact .inl rfl
set_option tactic.hygienic true in
theorem zqZ {n:Nat}{a b:V}{x y:Value}(as:AS n stack A) (hr:HR am stack π Hc s.heap) (ha:VR am π s.heap a x) (hb:VR am π s.heap b y) :
  JAt am stack A (compareOp .NotEq x y) (R.opt (((pyEq Hc a b).map (!·)).map V.bool) Hc) (VR am) π s:=by
 unfold pyEq
 cases h1:frz 0 Hc a with
 |none=>exact .inl rfl
 |some a' =>
  cases h2:frz 0 Hc b with
  |none=>exact .inl rfl
  |some b' =>
   simp only
   split
   ·rename_i h
    simp only[Bool.and_eq_true] at h;obtain⟨_,r1⟩:=zca hr ha h1 h.1;obtain⟨_,r2⟩:=zca hr hb h2 h.2;refine .inr (compareNe_shaped r1 r2 (zcV h.1) (zcV h.2) (as.uk (by decide)) ?_)
    rw[zgv 8 a' b' h.1 h.2];exact OkP.here hr rfl
   ·exact .inl rfl
theorem zo9 {n:Nat}{vs:List V}{a:V}(h:vs.all (V.ok n)=true) (ha:V.ok n a=true):((toDs vs).any fun y=>PyData.eqv y (toD a))=vs.any fun y=>peq y a:=by
 induction vs with
 |nil=>rfl
 |cons v vs ih =>
  simp only[List.all_cons,Bool.and_eq_true] at h;simp only[toDs,List.any_cons,zgv n v a h.1 ha,ih h.2]
theorem zkv:∀ (n:Nat) (v:V),V.ok n v=true→V.ok (n+1) v=true
 |0,v,h=>by simp[V.ok] at h
 |n+1,v,h=>by
  unfold V.ok at h ⊢
  cases v<;>simp only at h ⊢<;>first|exact h|(simp only[List.all_eq_true] at h ⊢;exact fun x hx=>zkv n x (h x hx))
set_option tactic.hygienic true in
theorem zks {n:Nat}{a b:V}{x y:Value}(as:AS n stack A) (hr:HR am stack π Hc s.heap) (ha:VR am π s.heap a x) (hb:VR am π s.heap b y) :
  JAt am stack A (compareOp .In x y) (R.opt ((isIn Hc a b).map V.bool) Hc) (VR am) π s∧JAt am stack A (compareOp .NotIn x y) (R.opt (((isIn Hc a b).map (!·)).map V.bool) Hc) (VR am) π s:=by
 unfold isIn
 cases h1:frz 0 Hc a with
 |none=>exact⟨.inl rfl,.inl rfl⟩
 |some a' =>
  cases h2:frz 0 Hc b with
  |none=>exact⟨.inl rfl,.inl rfl⟩
  |some b' =>
   simp only
   split
   ·rename_i h
    simp only[Bool.and_eq_true] at h;obtain⟨_,r1⟩:=zca hr ha h1 h.1;obtain⟨_,r2⟩:=zca hr hb h2 h.2;have hu:A.units+100 < cLine:=as.uk (by decide)
    have ca:=zdG 8 a' h.1;have key:∀ vs:List V,vs.all (V.ok 7)=true→PyData.canLayAll0 (toDs vs)=true∧A.units+1+min (PyData.depthAll (toDs vs)) (toD a').depth < cLine∧((toDs vs).any fun y=>PyData.eqv y (toD a'))=vs.any fun y=>peq y a':=fun vs hv=>by
     have:=zcD 7 vs hv;refine⟨this.1,Nat.lt_of_le_of_lt (Nat.add_le_add_left (Nat.le_trans (Nat.min_le_left ..) this.2) _) (as.uk (k:=8) (by decide)),zo9 (n:=8) (by simp only[List.all_eq_true] at hv ⊢;exact fun x hx=>zkv 7 x (hv x hx)) h.1⟩
    cases b' with
    |lst vs =>
     have hv:vs.all (V.ok 7)=true:=h.2;obtain⟨k1,k2,k3⟩:=key vs hv;refine⟨.inr (in_list_reads (c:=y) (xs:=toDs vs) r2 r1 k1 ca.1 k2 ?_),.inr (notIn_list_reads (c:=y) (xs:=toDs vs) r2 r1 k1 ca.1 k2 ?_)⟩
     ·rw[k3];exact OkP.here hr rfl
     ·rw[k3];exact OkP.here hr rfl
    |tup vs =>
     have hv:vs.all (V.ok 7)=true:=h.2;obtain⟨k1,k2,k3⟩:=key vs hv;refine⟨.inr (in_tuple_reads (c:=y) (xs:=toDs vs) r2 r1 k1 ca.1 k2 ?_),.inr (notIn_tuple_reads (c:=y) (xs:=toDs vs) r2 r1 k1 ca.1 k2 ?_)⟩
     ·rw[k3];exact OkP.here hr rfl
     ·rw[k3];exact OkP.here hr rfl
    |_=>exact⟨.inl rfl,.inl rfl⟩
   ·exact⟨.inl rfl,.inl rfl⟩
theorem zot {v:V}{x:Value}(h:VR am π s.heap v x) (hv:v≠.none):(x == Value.none)=false:=by
 cases v<;>simp only[VR] at h<;>first|exact h.elim|exact absurd rfl hv|skip
 ·subst h;rfl
 ·obtain⟨t,rfl⟩:=h;rfl
 ·obtain⟨t,rfl⟩:=h;rfl
 ·obtain⟨a,xs,rfl,_⟩:=h;rfl
 ·obtain⟨a,xs,rfl,_⟩:=h;rfl
 ·obtain⟨a,rfl,_⟩:=h;rfl
 ·obtain⟨a,_,_,_,rfl,_⟩:=h;rfl
theorem zpN {a b:V}{x y:Value}(hr:HR am stack π Hc s.heap) (ha:VR am π s.heap a x) (hb:VR am π s.heap b y) :
  JAt am stack A (compareOp .Is x y) (R.opt ((pyIs a b).map V.bool) Hc) (VR am) π s∧JAt am stack A (compareOp .IsNot x y) (R.opt (((pyIs a b).map (!·)).map V.bool) Hc) (VR am) π s:=by
 unfold pyIs
 cases b with
 |none =>
  simp only[VR] at hb;subst hb
  by_cases hv:a=.none
  ·subst hv
   simp only[VR] at ha;subst ha;exact⟨.inr (is_none (OkP.here hr rfl)),.inr (isNot_none (OkP.here hr rfl))⟩
  ·have e:=zot ha hv
   have key:JAt am stack A (compareOp .Is x Value.none) (R.ok (V.bool false) Hc) (VR am) π s∧JAt am stack A (compareOp .IsNot x Value.none) (R.ok (V.bool true) Hc) (VR am) π s:=by
    refine⟨.inr (is_none ?_),.inr (isNot_none ?_)⟩
    ·rw[e];exact OkP.here hr rfl
    ·rw[e];exact OkP.here hr rfl
   cases a<;>first|exact key|exact absurd rfl hv|exact⟨.inl rfl,.inl rfl⟩
 |bool y' =>
  simp only[VR] at hb;subst hb
  cases a with
  |bool x' =>
   simp only[VR] at ha;subst ha;have e:(Value.bool x' == Value.bool y')=(x' == y'):=by cases x'<;>cases y'<;>rfl
   refine⟨.inr (wpAny_is_plain (by cases x'<;>cases y'<;>rfl) ?_),.inr ?_⟩
   ·rw[e];exact OkP.here hr rfl
   ·refine wpAny_isNot_plain (by cases x'<;>cases y'<;>rfl) ?_
    rw[e];exact OkP.here hr rfl
  |_=>exact⟨.inl rfl,.inl rfl⟩
 |_=>exact⟨.inl rfl,.inl rfl⟩
theorem zgX (a b:Int):decide (a≤b)=!decide (b < a):=by
 rw[←decide_not];exact decide_eq_decide.mpr Int.not_lt.symm
theorem zq0 {a b:V}{x y:Value}(hr:HR am stack π Hc s.heap) (ha:VR am π s.heap a x) (hb:VR am π s.heap b y) :
  JAt am stack A (compareOp .Lt x y) (R.opt ((pyLt a b).map V.bool) Hc) (VR am) π s:=by
 unfold pyLt
 split
 ·simp only[VR] at ha hb;obtain⟨_,rfl⟩:=ha;obtain⟨_,rfl⟩:=hb
  exact .inr (lt_int (OkP.here hr rfl))
 ·exact .inl rfl
theorem zq2 {a b:V}{x y:Value}(hr:HR am stack π Hc s.heap) (ha:VR am π s.heap a x) (hb:VR am π s.heap b y) :
  JAt am stack A (compareOp .Gt x y) (R.opt ((pyLt b a).map V.bool) Hc) (VR am) π s:=by
 unfold pyLt
 split
 ·simp only[VR] at ha hb;obtain⟨_,rfl⟩:=ha;obtain⟨_,rfl⟩:=hb
  exact .inr (gt_int (OkP.here hr rfl))
 ·exact .inl rfl
theorem zq1 {a b:V}{x y:Value}(hr:HR am stack π Hc s.heap) (ha:VR am π s.heap a x) (hb:VR am π s.heap b y) :
  JAt am stack A (compareOp .LtE x y) (R.opt (((pyLt b a).map (!·)).map V.bool) Hc) (VR am) π s:=by
 unfold pyLt
 split
 ·simp only[VR] at ha hb;obtain⟨_,rfl⟩:=ha;obtain⟨_,rfl⟩:=hb
  exact .inr (PyProof.Rows.le_int (OkP.here hr (congrArg Value.bool (zgX _ _))))
 ·exact .inl rfl
theorem zq3 {a b:V}{x y:Value}(hr:HR am stack π Hc s.heap) (ha:VR am π s.heap a x) (hb:VR am π s.heap b y) :
  JAt am stack A (compareOp .GtE x y) (R.opt (((pyLt a b).map (!·)).map V.bool) Hc) (VR am) π s:=by
 unfold pyLt
 split
 ·simp only[VR] at ha hb;obtain⟨_,rfl⟩:=ha;obtain⟨_,rfl⟩:=hb
  exact .inr (PyProof.Rows.ge_int (OkP.here hr (congrArg Value.bool (zgX _ _))))
 ·exact .inl rfl
end
end Mine
namespace Mine
open PySem PySem.W PyProof.Rows PySem.MeetsSeq PySem.MeetsSeq3
open AutoSeq1 (wpAny_loadPart')
theorem zhZ {xs:List Value}{is:List Int}(h:IntsAre xs is):∀ {i:Nat},i < xs.length→∃ n t,xs[i]?=some (.int n t)∧is.drop i=n::is.drop (i+1):=by
 induction h with
 |nil=>intro i hi;simp at hi
 |@cons n t vs ns _ ih =>
  intro i hi
  cases i with
  |zero=>exact⟨n,t,rfl,rfl⟩
  |succ i =>
   obtain⟨m,u,h1,h2⟩:=ih (i:=i) (by simpa using hi)
   exact⟨m,u,by simpa using h1,by simpa using h2⟩
theorem zmw {xs:List Value}{is:List Int}(h:IntsAre xs is):is.length=xs.length:=by
 induction h with
 |nil=>rfl
 |cons _ _ _ ih=>simp[ih]
theorem zgr {xs:List Value}{is:List Int}(h:IntsAre xs is){i:Nat}(hi:xs.length≤i):is.drop i=[]:=by
 exact List.drop_of_length_le (by rw[zmw h];exact hi)
theorem zov (l b:Addr) (d1 d2:Option Addr) (s1 s2:Array (Option Value)) (xs ys:List Value) (is js:List Int) (n n2:Nat) (h1:IntsAre xs is) (h2:IntsAre ys js) (k:Nat) :
  ∀ i:Nat,i≤ys.length→i+k=xs.length→Meets (Builtin.«list.__eq__.loop» ⟨[.ref l,.ref b,rawInt i,rawInt 0],[]⟩)
   (fun z_ R s=>s.heap.get? l=some { cls:=.type "list",dict:=d1,data:=.seq xs.toArray n,slots:=s1 }∧s.heap.get? b=some { cls:=.type "list",dict:=d2,data:=.seq ys.toArray n2,slots:=s2 } ∧
    R (.ok (.ret (.bool (lexLt (is.drop i) (js.drop i))))) s):=by
 have fin:∀ {R:Result→Shared→Prop}{s:Shared}{v:Bool},R (.ok (.ret (.bool v))) s→v=decide (xs.length < ys.length)→R (.ok (.ret (.bool (decide (xs.toArray.size < ys.toArray.size))))) s:=fun h e=>by
  rw[List.size_toArray,List.size_toArray,← e];exact h
 induction k with
 |zero =>
  intro i hj hk prog w A R s h;obtain⟨hp,g,d,tk,os⟩:=s;obtain⟨hl,hb,h⟩:=h
  wp_walk using wpAny_loadPart' hl,wpAny_loadPart' hb
  have hi1:xs.toArray[((i:Nat):Int).toNat]?=none:=by simp;exact Nat.le_of_eq hk.symm
  rw[hi1];rw[zgr h1 (i:=i) (Nat.le_of_eq hk.symm)] at h
  cases hy:ys.toArray[((i:Nat):Int).toNat]? with
  |none =>
   have hy':ys.length≤i:=by simpa using hy
   wp_walk using wpAny_loadPart' hl,wpAny_loadPart' hb
   rw[zgr h2 hy'] at h;exact fin h (decide_eq_false (Nat.not_lt.2 (Nat.le_trans hy' (Nat.le_of_eq hk)))).symm
  |some y =>
   have hy':i < ys.length:=by
    have:=(Array.getElem?_eq_some_iff.1 hy).1
    simpa using this
   obtain⟨m,u,_,e2⟩:=zhZ h2 hy';rw[e2] at h
   wp_walk using wpAny_loadPart' hl,wpAny_loadPart' hb
   exact fin h (decide_eq_true (Nat.lt_of_le_of_lt (Nat.le_of_eq hk.symm) hy')).symm
 |succ k ih =>
  intro i hj hk prog w A R s h;obtain⟨hp,g,d,tk,os⟩:=s;obtain⟨hl,hb,h⟩:=h
  wp_walk using wpAny_loadPart' hl,wpAny_loadPart' hb
  obtain⟨x,t,hx,ex⟩:=zhZ h1 (i:=i) (hk ▸ Nat.lt_add_of_pos_right (Nat.succ_pos k));have hi1:xs.toArray[((i:Nat):Int).toNat]?=some (.int x t):=by simpa using hx
  rw[hi1];rw[ex] at h
  rcases Nat.lt_or_ge i ys.length with hlt|hge
  ·obtain⟨y,u,hy,ey⟩:=zhZ h2 hlt
   have hi2:ys.toArray[((i:Nat):Int).toNat]?=some (.int y u):=by simpa using hy
   rw[hi2];rw[ey] at h;refine wpAny_bind (wpAny_eqBool_int ?_);have hc:((i:Int)+1)=((i+1:Nat):Int):=by push_cast;rfl
   by_cases hxy:x=y
   ·rw[if_pos (by simpa using hxy),hc]
    rw[zdy,if_pos hxy] at h
    wp_walk
    exact⟨plainId_quiet plain_eq_loop _,codeAny_builtin entry_eq_loop (by
     rw[Around.under_plainId plain_eq_loop _];exact ih (i+1) hlt (by rw[Nat.add_assoc,Nat.add_comm 1 k];exact hk) prog w A R _ ⟨hl,hb,h⟩)⟩
   ·rw[if_neg (by simpa using hxy)]
    rw[zdy,if_neg hxy] at h
    wp_walk using wpAny_loadPart' hl,wpAny_loadPart' hb
    rw[hi1,hi2];refine wpAny_bind (PyProof.Rows.lt_int ?_);exact wpAny_pure h
  ·have hi2:ys.toArray[((i:Nat):Int).toNat]?=none:=by simpa using hge
   rw[hi2]
   wp_walk using wpAny_loadPart' hl,wpAny_loadPart' hb
   rw[zgr h2 hge] at h;exact fin h (decide_eq_false (Nat.not_lt.2 (Nat.le_trans hge (hk ▸ Nat.le_add_right ..)))).symm
theorem ziz (l b:Addr) (d1 d2:Option Addr) (s1 s2:Array (Option Value)) (xs ys:List Value) (is js:List Int) (n1 n2:Nat) (I1:IntsAre xs is) (I2:IntsAre ys js):Meets (Builtin.«list.__lt__» ⟨[.ref l,.ref b],[]⟩)
  (fun z_ R s=>s.heap.get? l=some ⟨.type "list",d1,.seq xs.toArray n1,s1⟩∧s.heap.get? b=some ⟨.type "list",d2,.seq ys.toArray n2,s2⟩∧R (.ok (.ret (.bool (lexLt is js)))) s):=by
 intro prog w A R s h;obtain⟨hp,g,d,tk,os⟩:=s;obtain⟨hl,hb,h⟩:=h;have f3:=AutoSeq1.sub_list_list
 wp_walk using AutoSeq1.wpAny_loadPart' hl,AutoSeq1.wpAny_loadPart' hb
 exact⟨plainId_quiet MeetsSeq3.plain_eq_loop _,codeAny_builtin MeetsSeq3.entry_eq_loop (by
  rw[Around.under_plainId MeetsSeq3.plain_eq_loop _];exact zov l b d1 d2 s1 s2 xs ys is js n1 n2 I1 I2 xs.length 0 (Nat.zero_le _) (Nat.zero_add _) prog w A R _ ⟨hl,hb,by simpa using h⟩)⟩
end Mine
namespace Mine
open PySem PySem.W PyProof.Rows
theorem zcY {am:Amb}{π:List Addr}{h:Heap}:∀ {vs:List V}{is:List Int}{xs:List Value},asInts vs=some is→VRs am π h vs xs→IntsAre xs is
 |[],is,xs,e,hv=>by cases e;simp only[VRs] at hv;subst hv;exact .nil
 |v::vs,is,xs,e,hv=>by
  cases v<;>first|(cases e;done)|skip
  simp only[asInts,Option.map_eq_some_iff] at e;obtain⟨js,e,rfl⟩:=e;obtain⟨x,xs',rfl,⟨t,rfl⟩,r⟩:=hv;exact .cons _ _ (zcY e r)
section
variable {am:Amb}{stack:List Env}{A:Around}{π:List Addr}{s:Shared}{Hc:H}
theorem zeK (hr:HR am stack π Hc s.heap){v:V}{x:Value}{is:List Int}(hvx:VR am π s.heap v x) (hk:keyL Hc v=some is):∃ b ys,x=.ref b∧s.heap.IsList b ys.toArray∧IntsAre ys is:=by
 unfold keyL at hk;obtain⟨us,e1,e2⟩:=Option.bind_eq_some_iff.1 hk;obtain⟨b,ys,rfl,hb,_,hvs⟩:=zbc hr hvx e1;exact⟨b,ys,rfl,hb,zcY e2 hvs⟩
end
section
variable {am:Amb}{stack:List Env}{π:List Addr}{Hc:H}{A:Around}
theorem zq6 {s:Shared}{h':Heap}{tk:Nat}(hu:A.units < cLine) (hr:HR am stack π Hc s.heap) (kk:∀ b o,s.heap.get? b=some o→h'.get? b=some o){v u:V}{x y:Value}{is js:List Int}(hv:VR am π s.heap v x) (hw:VR am π s.heap u y) (hk:keyL Hc v=some is) (hk':keyL Hc u=some js)
  {Q:Value→Shared→Prop}{E:Value→Shared→Prop}(h:Q (.bool (lexLt is js)) { s with heap:=h',toks:=tk }):wpAny am.M A (richCompare .Lt x y) Q E { s with heap:=h',toks:=tk }:=by
 obtain⟨l,xs,rfl,⟨⟨k1,d1,u1,s1⟩,ho1,c1,n1,e1⟩,I1⟩:=zeK hr hv hk;obtain⟨b,ys,rfl,⟨⟨k2,d2,u2,s2⟩,ho2,c2,n2,e2⟩,I2⟩:=zeK hr hw hk';simp only at c1 c2 e1 e2;subst c1 c2 e1 e2;exact richCompare_meets_room ⟨_,kk _ _ ho1,rfl⟩ ⟨_,kk _ _ ho2,rfl⟩ F.slot_list_lt F.entry_list_lt (F.args_list_lt_2 _ _) (ziz l b d1 d2 s1 s2 xs ys is js n1 n2 I1 I2) ⟨kk _ _ ho1,kk _ _ ho2,by simp,h⟩ hu
end
noncomputable abbrev kI (am:Amb):KeyKind am.prog am.w Int:=intKind am.prog am.w
theorem zcA (es:List (V × V)):(es.flatMap fun e=>[e.1,e.2]).length=2 * es.length:=by
 induction es with
 |nil=>rfl
 |cons e es ih=>rw[List.flatMap_cons,List.length_append,ih,List.length_cons,List.length_cons,List.length_cons,List.length_nil];exact Nat.add_comm 2 (2 * es.length)
theorem zhi {k v:V}:∀ {es:List (V × V)},dfind k es=some v→∃ j:Nat,es[j]?=some (k,v)
 |(k',v')::es,h=>by
  rw[zcC] at h
  by_cases e:k=k'
  ·rw[if_pos e] at h;cases h;exact⟨0,by rw[e];rfl⟩
  ·rw[if_neg e] at h
   obtain⟨j,hj⟩:=zhi h;exact⟨j+1,hj⟩
theorem zgx {k v:V}:∀ {es:List (V × V)}{j:Nat},(es.map (·.1)).Nodup→es[j]?=some (k,v)→dfind k es=some v
 |(k',v')::es,0,_,h=>by cases h;rw[zcC,if_pos rfl]
 |(k',v')::es,j+1,hn,h=>by
  rw[List.map_cons,List.nodup_cons] at hn;have hm:k∈es.map (·.1):=List.mem_map.2 ⟨_,List.mem_of_getElem? h,rfl⟩;rw[zcC,if_neg fun q:k=k'=>hn.1 (q ▸ hm)];exact zgx hn.2 h
section
variable {am:Amb}{π:List Addr}{h:Heap}
theorem ziM:∀ {es:List (V × V)}{xs:List Value},VRs am π h (es.flatMap fun e=>[e.1,e.2]) xs→∀ {j:Nat}{k v:V},es[j]?=some (k,v)→∃ x y,(ents es xs)[j]?=some ⟨hashV k,x,y⟩∧VR am π h k x∧VR am π h v y
 |[],_,_,_,_,_,e=>nomatch e
 |(k',v')::es,xs,r,j,k,v,e=>by
  rw[List.flatMap_cons] at r;simp only[List.cons_append,List.nil_append,VRs] at r;obtain⟨x,_,rfl,hx,y,xs',rfl,hy,r⟩:=r
  cases j with
  |zero=>cases e;exact⟨x,y,rfl,hx,hy⟩
  |succ j=>exact ziM r e
theorem ziL:∀ {es:List (V × V)}{xs:List Value},VRs am π h (es.flatMap fun e=>[e.1,e.2]) xs→(ents es xs).length=es.length
 |[],xs,_=>by cases xs<;>rfl
 |(k',v')::es,xs,r=>by
  rw[List.flatMap_cons] at r;simp only[List.cons_append,List.nil_append,VRs] at r;obtain⟨x,_,rfl,hx,y,xs',rfl,hy,r⟩:=r;exact congrArg Nat.succ (ziL r)
structure DC (am:Amb) (π:List Addr) (h:Heap) (es:List (V × V)) (d:Addr) (o:Obj) (arr:Array DictEntry) (ep:Nat) (xs:List Value):Prop where
 ne:(d == sysModules)=false
 ho:h.get? d=some o
 cls:o.cls=.type "dict"
 dict:o.dict=none
 data:o.data=.dict arr ep
 arr:arr.toList=ents es xs
 vr:VRs am π h (es.flatMap fun e=>[e.1,e.2]) xs
 good:dgood es
 age:ep=es.length
 len:(es.flatMap fun e=>[e.1,e.2]).length≤1000000
theorem CellAt.dict {es:List (V × V)}{d:Addr}(x:CellAt am π h (.dict es) d):∃ o arr ep xs,DC am π h es d o arr ep xs:=by
 obtain⟨o,xs,ho,⟨hs,arr,ep,hc,hdi,hd,he,hg,ha⟩,hl,hv⟩:=x;exact⟨o,arr,ep,xs,beq_false_of_ne hs,ho,hc,hdi,hd,he,hv,hg,ha,hl⟩
end
section
variable {am:Amb}{stack:List Env}{A:Around}{π:List Addr}{s:Shared}{Hc:H}{E:Value→Shared→Prop}{es:List (V × V)}{d:Addr}{o:Obj}{arr:Array DictEntry}{ep:Nat}{xs:List Value}{k:V}{x:Value}
theorem DC.typeIs (D:DC am π s.heap es d o arr ep xs):s.TypeIs (.ref d) "dict":=⟨o,D.ho,D.cls⟩
theorem DC.at (D:DC am π s.heap es d o arr ep xs){j:Nat}{k v:V}(e:es[j]?=some (k,v)):∃ x y,arr[j]?=some ⟨hashV k,x,y⟩∧VR am π s.heap k x∧VR am π s.heap v y:=by
 obtain⟨x,y,e1,r⟩:=ziM D.vr e;rw[←D.arr,Array.getElem?_toList] at e1;exact⟨x,y,e1,r⟩
theorem DC.size (D:DC am π s.heap es d o arr ep xs):arr.size=es.length:=by rw[←Array.length_toList,D.arr,ziL D.vr]
noncomputable abbrev kT (am:Amb):HeapKind am.prog am.w (List Int):=tupleKind (kI am)
theorem zfG:∀ {vs ws:List V}{is:List Int},asInts vs=some is→asInts ws=some is→vs=ws
 |[],[],_,_,_=>rfl
 |[],w::ws,is,h1,h2=>by
  cases h1
  cases w<;>simp[asInts] at h2
 |v::vs,[],is,h1,h2=>by
  cases h2
  cases v<;>simp[asInts] at h1
 |v::vs,w::ws,is,h1,h2=>by
  cases v with
  |int i=>cases w with
   |int j =>
    simp only[asInts,Option.map_eq_some_iff] at h1 h2;obtain⟨a,ha,rfl⟩:=h1;obtain⟨b,hb,e⟩:=h2
    cases e
    rw[zfG ha hb]
   |_=>exact nomatch h2
  |_=>exact nomatch h1
theorem zgj {k:V}{is:List Int}(h:keyT k=some is):∃ vs,k=.tup vs∧asInts vs=some is:=by
 cases k with
 |tup vs=>exact⟨vs,rfl,h⟩
 |_=>exact nomatch h
theorem ziC {k k':V}{is:List Int}(h:keyT k=some is) (h':keyT k'=some is):k=k':=by
 obtain⟨vs,rfl,e⟩:=zgj h;obtain⟨ws,rfl,e'⟩:=zgj h';rw[zfG e e']
theorem zha {h:Heap}:∀ {vs:List V}{xs:List Value}{is:List Int},asInts vs=some is→VRs am π h vs xs→ItemsAre (kI am) is xs
 |[],xs,is,e,r=>by cases e;simp only[VRs] at r;subst r;exact .nil
 |v::vs,xs,is,e,r=>by
  cases v with
  |int i =>
   simp only[asInts,Option.map_eq_some_iff] at e;obtain⟨a,ha,rfl⟩:=e;simp only[VRs,VR] at r;obtain⟨x,xs',rfl,⟨t,rfl⟩,r⟩:=r;exact .cons (by simp[kI,intKind,Value.isInt]) (zha ha r)
  |_=>exact nomatch e
theorem zkL {h:Heap}{k:V}{x:Value}(hk:keyOk k=true) (r:VR am π h k x):∃ is a,x=.ref a∧keyT k=some is∧IsTupleKey (kI am) h is a∧hashV k=(kT am).hash is:=by
 obtain⟨is,e⟩:=Option.isSome_iff_exists.1 (show(keyT k).isSome=true from hk);have hh:hashV k=(kT am).hash is:=by unfold hashV;rw[e];rfl
 refine⟨is,?_⟩;obtain⟨vs,rfl,e'⟩:=zgj e;simp only[VR] at r;obtain⟨a,xs,rfl,_,⟨o,ho,hc,n,hd⟩,_,rs⟩:=r;exact⟨a,rfl,e,⟨o,_,n,ho,hc,hd,zha e' rs⟩,hh⟩
theorem zhW (hk:keyOk k=true) (r:VR am π s.heap k x) (hu:A.units < cLine):∃ n,∀ {Q:Int→Shared→Prop}{E:Value→Shared→Prop},Q (hashV k) { s with toks:=s.toks+n }→wpAny am.M A (pyHash x) Q E s:=by
 obtain⟨is,a,rfl,_,hb,hh⟩:=zkL hk r;refine⟨(kT am).draws is,fun h=>?_⟩;rw[hh] at h;exact(kT am).pyHash hu hb h
theorem zqv {h:Heap}:∀ {es:List (V × V)}{xs:List Value},VRs am π h (es.flatMap fun e=>[e.1,e.2]) xs→(∀ e∈es,keyOk e.1=true) →
  ∃ ks:List (List Int × Addr × Value),ents es xs=ks.map (entryOfKey (kT am))∧(∀ x∈ks,IsTupleKey (kI am) h x.1 x.2.1)∧es.map (fun e=>keyT e.1)=ks.map fun x=>some x.1
 |[],xs,_,_=>⟨[],by cases xs<;>rfl,fun z_ h=>(nomatch h),rfl⟩
 |(k,v)::es,xs,r,g=>by
  rw[List.flatMap_cons] at r;simp only[List.cons_append,List.nil_append,VRs] at r;obtain⟨x,_,rfl,hx,y,xs',rfl,hy,r⟩:=r;obtain⟨is,a,rfl,hk,ht,hh⟩:=zkL (g _ (List.mem_cons_self ..)) hx;obtain⟨ks,he,hi,hm⟩:=zqv r fun e he=>g e (List.mem_cons_of_mem _ he);refine⟨(is,a,y)::ks,?_,fun z hz=>?_,by rw[List.map_cons,List.map_cons,hm,hk]⟩
  ·rw[List.map_cons,← he]
   show(⟨hashV k,.ref a,y⟩:DictEntry)::_=⟨(kT am).hash is,.ref a,y⟩::_;rw[hh]
  ·rcases List.mem_cons.1 hz with rfl|hz
   ·exact ht
   ·exact hi z hz
theorem zhX (D:DC am π s.heap es d o arr ep xs) (hk:keyOk k=true) (r:VR am π s.heap k x) (hu:A.units < cLine){Q:Option Nat→Shared→Prop}(h0:dfind k es=none→Q none s) (h1:∀ j v,es[j]?=some (k,v)→Q (some j) s):wpAny am.M A (dictFind d x (hashV k)) Q E s:=by
 obtain⟨is,a,rfl,e,hb,hh⟩:=zkL hk r;obtain⟨ks,he,hi,hm⟩:=zqv D.vr D.good.2;have at':∀ j:Nat,(es[j]?).map (fun e=>keyT e.1)=(ks[j]?).map fun x=>some x.1:=fun j=>by rw[←List.getElem?_map,hm,List.getElem?_map]
 have hn:(ks.map (·.1)).Nodup:=by
  have inj:(es.map fun e=>keyT e.1).Nodup:=by
   refine List.pairwise_map.2 (List.Pairwise.imp_of_mem (fun {x y} hx hy ne q=>?_) (List.pairwise_map.1 D.good.1));obtain⟨i,ex⟩:=Option.isSome_iff_exists.1 (D.good.2 x hx);exact ne (ziC ex (q ▸ ex))
  rw[hm] at inj;exact List.pairwise_map.2 (List.Pairwise.imp (fun {x y} ne q=>ne (congrArg some q)) (List.pairwise_map.1 inj))
 rw[hh];refine wpAny_dictFind_heap (knd:=kT am) hu hb D.ho D.data (D.arr.trans he) hi hn (fun hno=>h0 ?_) fun j p hj=>?_
 ·cases hd:dfind k es with
  |none=>rfl
  |some v =>
   obtain⟨j,ej⟩:=zhi hd;have:=at' j;rw[ej,Option.map_some,e] at this
   cases hq:ks[j]? with
   |none=>rw[hq] at this;cases this
   |some z =>
    rw[hq] at this
    cases this
    exact absurd hq (hno j z.2)
 ·have:=at' j
  rw[hj] at this
  cases hq:es[j]? with
  |none=>rw[hq] at this;cases this
  |some z =>
   rw[hq,Option.map_some,Option.map_some] at this;obtain⟨k',v⟩:=z;exact h1 j v (by rw[hq,ziC (k:=k') (Option.some.inj this) e])
theorem DC.get (D:DC am π s.heap es d o arr ep xs) (hk:keyOk k=true) (r:VR am π s.heap k x) (hu:A.units < cLine){Q:Option Value→Shared→Prop}
  (h0:∀ n,dfind k es=none→Q none { s with toks:=s.toks+n }) (h1:∀ n v y,dfind k es=some v→VR am π s.heap v y→Q (some y) { s with toks:=s.toks+n }):wpAny am.M A (dictGet d x) Q E s:=by
 obtain⟨n,hh⟩:=zhW hk r hu;unfold dictGet
 try with_reducible refine wpAny_holding ?_
 refine wpAny_bind (hh (wpAny_bind (zhX (s:={ s with toks:=s.toks+n }) D hk r hu (fun e=>wpAny_pure (h0 n e)) fun j v e=>?_)))
 obtain⟨x',y,e1,_,hy⟩:=D.at e;refine wpAny_bind (wpAny_dictEntries (s:={ s with toks:=s.toks+n }) D.ho D.data ?_)
 rw[e1];exact wpAny_pure (h1 n v y (zgx D.good.1 e) hy)
theorem DC.contains (D:DC am π s.heap es d o arr ep xs) (hk:keyOk k=true) (r:VR am π s.heap k x) (hu:A.in1.units < cLine){Q:Bool→Shared→Prop}(h:∀ n,Q (dfind k es).isSome { s with toks:=s.toks+n }):wpAny am.M A (PySem.contains (.ref d) x) Q E s:=by
 unfold PySem.contains
 try with_reducible refine wpAny_holding ?_
 refine wpAny_bind (wpAny_specialOf D.typeIs slot_dict_contains.lookup ?_);show wpAny _ _ (if(some (Value.builtin "dict.__contains__") == some Value.none)=true then _ else _) _ E s;rw[if_neg (by rw[beq_builtin_none];exact Bool.false_ne_true)]
 refine wpAny_bind (wpAny_callSpecialUnlessNone?_slot (name:=Str.ofString "__contains__") D.typeIs slot_dict_contains
  (wpAny_call_entry slot_dict_contains D.typeIs entry_dict_contains ?_ (args_dict_contains _ _)))
 show wpAny _ _ (dictGet d x >>= _) _ _ s;refine wpAny_bind (D.get hk r hu (fun n e=>?_) fun n v y e z_=>?_)
 ·have h:=h n
  rw[e] at h;show wpAny _ _ (Builtin.Dict.pendingKey? d x >>= _) _ _ _;exact wpAny_bind (wpAny_pendingKey_other D.ne (wpAny_pure ⟨_,rfl,wpAny_truthy_bool h⟩))
 ·have h:=h n
  rw[e] at h;show wpAny _ _ (ret (.bool true)) _ _ _;exact wpAny_pure ⟨_,rfl,wpAny_truthy_bool h⟩
theorem zkt {n:Nat}{i:Nat}{a:V}(as:AS n stack A) (hr:HR am stack π Hc s.heap) (hc:Hc[i]?=some (.dict es)) (hp:π[i]?=some d) (ha:VR am π s.heap a x) :
  JAt am stack A (compareOp .In x (.ref d)) (R.opt ((if keyOk a then some (dfind a es).isSome else Option.none).map V.bool) Hc) (VR am) π s∧JAt am stack A (compareOp .NotIn x (.ref d)) (R.opt (((if keyOk a then some (dfind a es).isSome else Option.none).map (!·)).map V.bool) Hc) (VR am) π s:=by
 cases hk:keyOk a with
 |false=>exact⟨.inl rfl,.inl rfl⟩
 |true =>
  obtain⟨o,arr,ep,xs,D⟩:=(hr.cell i _ d hc hp).dict;have hu:A.in1.units < cLine:=as.uk (k:=1) (by decide)
  refine⟨.inr ?_,.inr ?_⟩
  ·show wpAny _ _ (do return Value.bool (← PySem.contains (.ref d) x)) _ _ s
   exact wpAny_bind (D.contains hk ha hu fun n=>wpAny_pure (OkP.tok hr rfl))
  ·show wpAny _ _ (do return Value.bool (!(← PySem.contains (.ref d) x))) _ _ s
   exact wpAny_bind (D.contains hk ha hu fun n=>wpAny_pure (OkP.tok hr rfl))
theorem dput_new {k v:V}:∀ {es:List (V × V)},dfind k es=none→dput k v es=es++[(k,v)]
 |[],_=>rfl
 |(k',v')::es,h=>by
  rw[zcC] at h
  by_cases e:k=k'
  ·rw[if_pos e] at h;cases h
  ·rw[if_neg e] at h
   rw[zhh,if_neg e,dput_new h];rfl
theorem ziP {k v v0:V}:∀ {es:List (V × V)}{j:Nat},(es.map (·.1)).Nodup→es[j]?=some (k,v0)→dput k v es=es.set j (k,v)
 |(k',v')::es,0,_,h=>by cases h;rw[zhh,if_pos rfl];rfl
 |(k',v')::es,j+1,hn,h=>by
  rw[List.map_cons,List.nodup_cons] at hn;have hm:k∈es.map (·.1):=List.mem_map.2 ⟨_,List.mem_of_getElem? h,rfl⟩;rw[zhh,if_neg fun q:k=k'=>hn.1 (q ▸ hm),ziP hn.2 h];rfl
theorem ziK {h:Heap}{v:V}{y:Value}(hy:VR am π h v y):∀ {es:List (V × V)}{xs:List Value}{j:Nat}{k v0:V},VRs am π h (es.flatMap fun e=>[e.1,e.2]) xs→es[j]?=some (k,v0) →
  ∃ xs',VRs am π h ((es.set j (k,v)).flatMap fun e=>[e.1,e.2]) xs'∧ents (es.set j (k,v)) xs'=(ents es xs).modify j fun e=>{ e with val:=y }
 |(k',v')::es,xs,j,k,v0,r,e=>by
  rw[List.flatMap_cons] at r;simp only[List.cons_append,List.nil_append,VRs] at r;obtain⟨x,_,rfl,hx,y',xs',rfl,hy',r⟩:=r
  cases j with
  |zero=>cases e;exact⟨x::y::xs',⟨_,_,rfl,hx,_,_,rfl,hy,r⟩,rfl⟩
  |succ j =>
   obtain⟨xs2,r2,e2⟩:=ziK hy r e;refine⟨x::y'::xs2,⟨_,_,rfl,hx,_,_,rfl,hy',r2⟩,?_⟩;show(⟨hashV k',x,y'⟩:DictEntry)::ents (es.set j (k,v)) xs2=_;rw[e2];rfl
theorem zhe:∀ (es:List (V × V)) (xs:List Value) (k v:V) (x y:Value),xs.length=2 * es.length→ents (es++[(k,v)]) (xs++[x,y])=ents es xs++[⟨hashV k,x,y⟩]
 |[],xs,k,v,x,y,h=>by
  have:xs=[]:=List.eq_nil_of_length_eq_zero h;subst this;rfl
 |(k',v')::es,xs,k,v,x,y,h=>by
  match xs,h with
  |[],h=>exact absurd h (Nat.succ_ne_zero _).symm
  |[_],h=>exact absurd (Nat.succ.inj h) (Nat.succ_ne_zero _).symm
  |a::b::xs,h =>
   show(⟨hashV k',a,b⟩:DictEntry)::ents (es++[(k,v)]) (xs++[x,y])=⟨hashV k',a,b⟩::(ents es xs++_);rw[zhe es xs k v x y (Nat.succ.inj (Nat.succ.inj h))]
set_option tactic.hygienic true in
theorem zfB:∀ {es:List (V × V)}{k:V},dfind k es=Option.none→k ∉ es.map (·.1)
 |[],_,_=>by simp
 |(k',v)::es,k,h=>by
  rw[zcC] at h
  split at h
  ·cases h
  ·rename_i ne
   rw[List.map_cons,List.mem_cons];exact fun q=>q.elim (fun e=>ne e) (zfB h)
theorem zjr {k v:V}(g:dgood es) (hk:keyOk k=true) (hn:dfind k es=none):dgood (es++[(k,v)]):=by
 refine⟨?_,fun e he=>?_⟩
 ·rw[List.map_append,List.nodup_append]
  refine⟨g.1,by simp,fun x hx y hy=>?_⟩
  rw[List.map_cons,List.map_nil,List.mem_singleton] at hy;subst hy;exact fun q=>zfB hn (q ▸ hx)
 ·rcases List.mem_append.1 he with he|he
  ·exact g.2 e he
  ·rw[List.mem_singleton.1 he];exact hk
end
section
variable {am:Amb}{stack:List Env}{A:Around}{π:List Addr}{s:Shared}{Hc:H}
theorem zpH {t u:Tok}(hr:HR am stack π Hc s.heap):JAt am stack A (binaryOp .Pow (.int 10 t) (.int 20 u)) (.ok (V.int 100000000000000000000) Hc) (VR am) π s :=
 .inr (pow_int (by decide) (by decide +kernel) (OkP.tok hr ⟨_,rfl⟩))
set_option tactic.hygienic true in
theorem zpR {n:Nat}{op:Bop}{a b:V}{x y:Value}(ok:AmbOK am) (st:zgA stack) (as:AS n stack A) (hr:HR am stack π Hc s.heap) (ha:VR am π s.heap a x) (hb:VR am π s.heap b y) :
  JAt am stack A (binaryOp (bopM op) x y) (R.opt (pyBin op Hc a b) Hc) (VR am) π s:=by
 cases op with
 |add =>
  show JAt _ _ _ _ (R.opt (pyAdd Hc a b) Hc) _ _ _
  rcases zew Hc a b with h|⟨i,j,rfl,rfl⟩|⟨us,ws,rfl,rfl⟩|⟨us,ws,h1,h2,h⟩
  ·rw[h];exact .inl rfl
  ·simp only[VR] at ha hb;obtain⟨_,rfl⟩:=ha;obtain⟨_,rfl⟩:=hb;exact zjj hr
  ·exact zji hr ha hb
  ·rw[h];exact zhO hr ha hb h1 h2
 |sub =>
  rcases zcX (fun x y=>some (V.int (x - y))) a b with h|⟨i,j,rfl,rfl⟩
  ·show JAt _ _ _ _ (R.opt (int2 (fun x y=>some (V.int (x - y))) a b) Hc) _ _ _
   rw[h];exact .inl rfl
  ·simp only[VR] at ha hb;obtain⟨_,rfl⟩:=ha;obtain⟨_,rfl⟩:=hb;exact zje hr
 |mul =>
  show JAt _ _ _ _ (R.opt (pyMul Hc a b) Hc) _ _ _
  rcases zhK Hc a b with h|⟨i,j,rfl,rfl⟩|⟨k,rfl,h⟩
  ·rw[h];exact .inl rfl
  ·simp only[VR] at ha hb;obtain⟨_,rfl⟩:=ha;obtain⟨_,rfl⟩:=hb
   show JAt _ _ _ _ (R.opt (if i.natAbs < 9223372036854775808∨j.natAbs < 9223372036854775808 then some (V.int (i * j)) else Option.none) Hc) _ _ _
   split
   ·rename_i h;exact zjf hr h
   ·exact .inl rfl
  ·rw[h]
   split
   ·rename_i hk
    simp only[VR] at hb;obtain⟨u,rfl⟩:=hb
    cases h1:litems Hc a with
    |none=>exact .inl rfl
    |some vs=>exact zhM hr ha h1 ⟨hk.2,hk.1⟩
   ·exact .inl rfl
 |fdiv =>
  show JAt _ _ _ _ (R.opt (int2 (fun x y=>if y=0 then Option.none else some (V.int (x.fdiv y))) a b) Hc) _ _ _
  rcases zcX (fun x y=>if y=0 then Option.none else some (V.int (x.fdiv y))) a b with h|⟨i,j,rfl,rfl⟩
  ·rw[h];exact .inl rfl
  ·simp only[VR] at ha hb;obtain⟨_,rfl⟩:=ha;obtain⟨_,rfl⟩:=hb
   show JAt _ _ _ _ (R.opt (if j=0 then Option.none else some (V.int (i.fdiv j))) Hc) _ _ _
   split
   ·exact .inl rfl
   ·rename_i h;exact zhN ok st as hr h
 |mod =>
  show JAt _ _ _ _ (R.opt (int2 (fun x y=>if y=0 then Option.none else some (V.int (x.fmod y))) a b) Hc) _ _ _
  rcases zcX (fun x y=>if y=0 then Option.none else some (V.int (x.fmod y))) a b with h|⟨i,j,rfl,rfl⟩
  ·rw[h];exact .inl rfl
  ·simp only[VR] at ha hb;obtain⟨_,rfl⟩:=ha;obtain⟨_,rfl⟩:=hb
   show JAt _ _ _ _ (R.opt (if j=0 then Option.none else some (V.int (i.fmod j))) Hc) _ _ _
   split
   ·exact .inl rfl
   ·rename_i h;exact zjg hr h
 |pow =>
  show JAt _ _ _ _ (R.opt (int2 (fun x y=>if x=10∧y=20 then some (V.int 100000000000000000000) else Option.none) a b) Hc) _ _ _
  rcases zcX (fun x y=>if x=10∧y=20 then some (V.int 100000000000000000000) else Option.none) a b with h|⟨i,j,rfl,rfl⟩
  ·rw[h];exact .inl rfl
  ·simp only[VR] at ha hb;obtain⟨_,rfl⟩:=ha;obtain⟨_,rfl⟩:=hb
   show JAt _ _ _ _ (R.opt (if i=10∧j=20 then some (V.int 100000000000000000000) else Option.none) Hc) _ _ _
   split
   ·rename_i h;obtain⟨rfl,rfl⟩:=h;exact zpH hr
   ·exact .inl rfl
set_option tactic.hygienic true in
theorem zkr {n:Nat}{a b:V}{x y:Value}(as:AS n stack A) (hr:HR am stack π Hc s.heap) (ha:VR am π s.heap a x) (hb:VR am π s.heap b y) :
  JAt am stack A (compareOp .In x y) (R.opt ((pyIn Hc a b).map V.bool) Hc) (VR am) π s∧JAt am stack A (compareOp .NotIn x y) (R.opt (((pyIn Hc a b).map (!·)).map V.bool) Hc) (VR am) π s:=by
 unfold pyIn
 cases b with
 |ref i =>
  simp only
  split
  ·rename_i es hc
   simp only[VR] at hb;obtain⟨ad,rfl,hp⟩:=hb;exact zkt as hr hc hp ha
  ·exact zks as hr ha hb
 |_=>exact zks as hr ha hb
theorem zft {n:Nat}{op:Cop}{a b:V}{x y:Value}(as:AS n stack A) (hr:HR am stack π Hc s.heap) (ha:VR am π s.heap a x) (hb:VR am π s.heap b y) :
  JAt am stack A (compareOp (copM op) x y) (R.opt ((pyCmp op Hc a b).map V.bool) Hc) (VR am) π s:=by
 cases op with
 |eq=>exact zq4 as hr ha hb
 |ne=>exact zqZ as hr ha hb
 |lt=>exact zq0 hr ha hb
 |le=>exact zq1 hr ha hb
 |gt=>exact zq2 hr ha hb
 |ge=>exact zq3 hr ha hb
 |is=>exact(zpN hr ha hb).1
 |isNot=>exact(zpN hr ha hb).2
 |isin=>exact(zkr as hr ha hb).1
 |notIn=>exact(zkr as hr ha hb).2
theorem zpJ {a:V}{x:Value}(hr:HR am stack π Hc s.heap) (ha:VR am π s.heap a x) :
  JAt am stack A (unaryOp .Not x) ((match truthy a with|some b=>R.ok (V.bool (!b)) Hc|Option.none=>R.bad)) (VR am) π s:=by
 cases a with
 |bool b=>simp only[VR] at ha;subst ha;exact .inr (not_value (wpAny_truthy_bool (OkP.here hr rfl)))
 |_=>exact .inl rfl
theorem znT (slice:Expr) (o i:Value):subscripted slice false o i=operate [i,o] (getItem o i)∨subscripted slice false o i=operate [o,i] (getItem o i):=by
 cases slice with
 |Slice a b c p =>
  cases c with
  |none=>exact .inl rfl
  |some _=>exact .inr rfl
 |_=>exact .inr rfl
theorem zdh {E:Value→Shared→Prop}{value slice:Expr}{o i:Value}{T id:String}{Q:Value→Shared→Prop}(hT:s.TypeIs o T)
  (hl:typeLookup (.type T) "__getitem__"=pure (some (.builtin id))) (h:wpAny am.M A (getItem o i) Q E s):wpAny am.M A (subscriptTail value slice o i) Q E s:=by
 unfold subscriptTail;refine wpAny_bind ?_;rw[getitemInPython_of_ne hT.not_modules];refine wpAny_bind (wpAny_specialOf hT hl ?_);have hs:wpAny am.M A (subscripted slice false o i) Q E s:=by
  rcases znT slice o i with e|e
  ·rw[e];exact zdx h
  ·rw[e];exact zdx h
 have fin:wpAny am.M A (subscripted slice false o i) (fun r s₃=>wpAny am.M A (letTemporaryGo value o r >>= fun z_=>pure r) Q E s₃) E s :=
  wpAny_mono hs (fun r s₃ h₃=>wpAny_bind (wpAny_letTemporaryGo (wpAny_pure h₃))) fun z_ z_ x=>x
 first
  |exact wpAny_pure (wpAny_bind fin)
  |exact wpAny_bind (wpAny_pure (wpAny_bind fin))
  |exact wpAny_bind fin
theorem zd2 {n:Nat}{i:Int}{j:Nat}(h:place n i=some j):j < n∧(i=j∨(i < 0∧(i+n).toNat=j∧-(n:Int)≤i)):=by
 unfold place at h
 by_cases h0:0≤i
 ·rw[if_pos h0] at h
  by_cases h1:i < n
  ·rw[if_pos h1] at h
   cases h
   exact⟨(Int.toNat_lt h0).2 h1,.inl (Int.toNat_of_nonneg h0).symm⟩
  ·rw[if_neg h1] at h;cases h
 ·rw[if_neg h0] at h
  have h0:=Int.not_le.1 h0
  by_cases h1:0≤i+n
  ·rw[if_pos h1] at h
   cases h
   refine⟨(Int.toNat_lt h1).2 ?_,.inr ⟨h0,rfl,?_⟩⟩
   ·have:=Int.add_lt_add_right h0 (n:Int)
    rwa [Int.zero_add] at this
   ·have:=Int.sub_right_le_of_le_add (a:=0) (b:=i) (c:=n) h1
    rwa [Int.zero_sub] at this
  ·rw[if_neg h1] at h;cases h
theorem zc5 {n j:Nat}{i:Int}(h:place n i=some j) (hz:n≤1000000):-2 ^ 63≤i∧i < 2 ^ 63:=by
 obtain⟨h1,rfl|⟨h2,_,h3⟩⟩:=zd2 h
 ·exact⟨Int.le_trans (by decide) (Int.natCast_nonneg j),zin h1 hz⟩
 ·exact⟨zgK h3 hz,Int.lt_trans h2 (by decide)⟩
theorem zkO {l:Addr}{xs:List Value}{x:Value}{k:Int}{t:Tok}{j:Nat}{Q:Value→Shared→Prop}{E:Value→Shared→Prop}(hl:s.heap.IsList l (List.toArray xs)) (hz:xs.length≤1000000) (hj:place xs.length k=some j) (hx:xs[j]?=some x) (h:Q x s) :
  wpAny am.M A (getItem (.ref l) (.int k t)) Q E s:=by
 obtain⟨h1,h2⟩:=zd2 hj
 rcases h2 with rfl|⟨h2,rfl,h3⟩
 ·exact wpAny_getItem_list hl (Int.natCast_nonneg _) (zin h1 hz) (by simpa using hx) h
 ·exact wpAny_getItem_list_neg hl h2 (by simpa using h3) (zgK h3 hz) (by simpa using hx) h
theorem zjh {value slice:Expr}{n r:Nat}{es:List (V × V)}{d:Addr}{i:V}{y:Value}(as:AS n stack A) (hr:HR am stack π Hc s.heap) (hc:Hc[r]?=some (.dict es)) (hp:π[r]?=some d) (hi:VR am π s.heap i y) :
  JAt am stack A (subscriptTail value slice (.ref d) y) (R.opt (if keyOk i then dfind i es else Option.none) Hc) (VR am) π s:=by
 cases hk:keyOk i with
 |false=>exact .inl rfl
 |true =>
  rw[if_pos rfl];obtain⟨o,arr,ep,xs,D⟩:=(hr.cell r _ d hc hp).dict;have hu:A.in1.units < cLine:=as.uk (k:=1) (by decide)
  cases hf:dfind i es with
  |none=>exact .inl rfl
  |some v =>
   refine .inr (zdh D.typeIs slot_dict_getitem.lookup ?_);unfold getItem
   try with_reducible refine wpAny_holding ?_
   refine wpAny_bind (wpAny_sequenceKey D.typeIs (by decide) ?_)
   refine wpAny_bind (wpAny_callSpecial?_slot (name:=Str.ofString "__getitem__") D.typeIs slot_dict_getitem
    (wpAny_call_entry slot_dict_getitem D.typeIs entry_dict_getitem ?_ (args_dict_getitem _ _)))
   show wpAny _ _ (dictGet d y >>= _) _ _ s;refine wpAny_bind (D.get hk hi hu (fun m e=>by rw[hf] at e;cases e) fun m v' u e hv=>?_)
   rw[hf] at e;cases e
   exact wpAny_pure ⟨u,rfl,wpAny_pure (OkP.tok hr hv)⟩
theorem zpP {value slice:Expr}{n:Nat}{a i:V}{x y:Value}(as:AS n stack A) (hr:HR am stack π Hc s.heap) (ha:VR am π s.heap a x) (hi:VR am π s.heap i y) :
  JAt am stack A (subscriptTail value slice x y) (R.opt (pyIdx Hc a i) Hc) (VR am) π s:=by
 have lists:∀ (l:Addr) (xs:List Value) (vs:List V),x=.ref l→s.heap.IsList l (List.toArray xs)→vs.length≤1000000→VRs am π s.heap vs xs →
   JAt am stack A (subscriptTail value slice x y) (R.opt (match i with|.int k=>(place vs.length k).bind fun j=>vs[j]?|_=>Option.none) Hc) (VR am) π s:=by
  rintro l xs vs rfl hl hz hv
  cases i with
  |int k =>
   simp only;simp only[VR] at hi;obtain⟨t,rfl⟩:=hi
   cases hj:place vs.length k with
   |none=>exact .inl rfl
   |some j =>
    cases hw:vs[j]? with
    |none=>exact .inl (by simp only[Option.bind_some,hw];rfl)
    |some v =>
     obtain⟨x',hx',hvx⟩:=hv.get j v hw;simp only[Option.bind_some,hw,R.opt_some];exact .inr (zdh hl.typeIs list_getitem_lookup (zkO hl (by rw[hv.len];exact hz) (by rw[hv.len];exact hj) hx' (OkP.here hr hvx)))
  |_=>exact .inl rfl
 unfold pyIdx
 cases a with
 |ref r =>
  simp only;simp only[VR] at ha;obtain⟨ad,rfl,hp⟩:=ha
  cases hc:Hc[r]? with
  |none=>exact .inl rfl
  |some c =>
   cases c with
   |list vs =>
    obtain⟨xs,h1,h2,h3⟩:=(hr.cell r _ ad hc hp).list;exact lists ad xs vs rfl h1.is h2 h3
   |dict es=>exact zjh as hr hc hp hi
 |lst vs =>
  simp only[VR] at ha;obtain⟨ad,xs,rfl,_,h1,h2,h3⟩:=ha;exact lists ad xs vs rfl h1 h2 h3
 |tup vs =>
  simp only[VR] at ha;obtain⟨ad,xs,rfl,_,h1,hz,hv⟩:=ha
  cases i with
  |int k =>
   simp only;simp only[VR] at hi;obtain⟨t,rfl⟩:=hi
   cases hj:place vs.length k with
   |none=>exact .inl rfl
   |some j =>
    cases hw:vs[j]? with
    |none=>exact .inl (by simp only[Option.bind_some,hw];rfl)
    |some v =>
     obtain⟨x',hx',hvx⟩:=hv.get j v hw;simp only[Option.bind_some,hw,R.opt_some];obtain⟨h5,h6⟩:=zd2 hj;have e:=hv.len;refine .inr (zdh h1.typeIs slot_tuple_getitem.lookup (getItem_tuple (j:=j) h1 (zc5 hj hz).1 (zc5 hj hz).2 ?_ (by simpa using hx') (OkP.here hr hvx)))
     rcases h6 with rfl|⟨h6,rfl,h7⟩
     ·have hn:¬ ((j:Int) < 0):=Int.not_lt.2 (Int.natCast_nonneg j)
      unfold seqIndex?
      simp only[hn,if_false,List.size_toArray,e];rw[if_pos (by simp only[Bool.and_eq_true,decide_eq_true_eq];exact⟨Int.natCast_nonneg j,Int.ofNat_lt.2 h5⟩)]
      simp
     ·have:=seqIndex_neg (n:=vs.length) h6 h7
      simpa [e] using this
  |_=>exact .inl rfl
 |_=>exact .inl rfl
end
theorem zfL {am:Amb}{π:List Addr}{h h':Heap}(k:h.UpToSlots h'):Via am am π π h h':=⟨fun a o ho hn h1 h2=>⟨k a o ho hn,h1,h2⟩,fun z_ z_ e=>e⟩
theorem VR.upto {am:Amb}{π:List Addr}{h h':Heap}(k:h.UpToSlots h'){v:V}{y:Value}(e:VR am π h v y):VR am π h' v y:=e.via (zfL k)
theorem VRs.upto {am:Amb}{π:List Addr}{h h':Heap}(k:h.UpToSlots h'){vs:List V}{ys:List Value}(e:VRs am π h vs ys):VRs am π h' vs ys:=e.via (zfL k)
theorem CellAt.upto {am:Amb}{π:List Addr}{h h':Heap}(k:h.UpToSlots h'){c:Cell}{a:Addr}(e:CellAt am π h c a):CellAt am π h' c a:=by
 exact e.via (zfL k) fun o ho hn=>k a o ho hn
theorem HR.upto {am:Amb}{stack:List Env}{π:List Addr}{Hc:H}{h h':Heap}(x:HR am stack π Hc h) (k:h.UpToSlots h') (kb:am.B.StaysIn h'):HR am stack π Hc h' :=
 ⟨kb,zeO k x.frames,x.len,x.nodup,fun a ha=>let ⟨o,ho,hn⟩:=x.res a ha;let ⟨_,hs⟩:=k a o ho hn;⟨_,hs,hn⟩,x.off,fun i c a h1 h2=>(x.cell i c a h1 h2).upto k⟩
noncomputable def NoExc (ρ:List V):Prop:=∀ v∈ρ,∀ c,v≠.exc c
theorem NoExc.set {ρ:List V}(x:NoExc ρ){i:Nat}{v:V}(hv:∀ c,v≠.exc c):NoExc (ρ.set i v):=fun u hu c=>by
 rcases List.mem_or_eq_of_mem_set hu with h|h
 ·exact x u h c
 ·subst h;exact hv c
theorem VR.noexc {am:Amb}{π:List Addr}{h:Heap}{v:V}{x:Value}(e:VR am π h v x):∀ c,v≠.exc c:=fun c q=>by subst q;exact e
theorem SR.vr {am:Amb}{π:List Addr}{h:Heap}{v:V}{x:Value}(e:SR am π h v x) (n:∀ c,v≠.exc c):VR am π h v x:=by
 rcases e with e|⟨c,a,h1,_⟩
 ·exact e
 ·exact absurd h1 (n c)
theorem ER.upto {am:Amb}{cx:Cx}{ρ:List V}{π:List Addr}{h h':Heap}(e:ER am cx ρ π h) (k:h.UpToSlots h') (ne:NoExc ρ):ER am cx ρ π h':=by
 have cell:∀ {c v},h.IsCell c v→h'.IsCell c v:=fun {c v} ⟨o,ho,hd⟩=>by
  obtain⟨sl,hs⟩:=k c o ho (fun us q=>by rw[hd] at q;cases q)
  exact⟨_,hs,hd⟩
 obtain⟨m,hm⟩:=e.ns;refine⟨⟨m,k.ns hm⟩,e.locOff,fun y c hc=>?_,e.apart,fun y i v h1 h2 h3 h4=>?_⟩
 ·refine hold fun z_ k_=>?_
  obtain⟨h1,h2,v,h3⟩:=e.cellOff y c hc;refine k_ ?_;exact⟨h1,h2,v,cell h3⟩
 ·obtain⟨v',h5,h6⟩:=e.var y i v h1 h2 h3 h4
  refine⟨v',?_,.inl ((h6.vr (ne v (List.mem_of_getElem? h2))).upto k)⟩
  rcases h5 with⟨q,m',h7,h8⟩|⟨q,c,h7,h8⟩
  ·exact .inl ⟨q,m',k.ns h7,h8⟩
  ·exact .inr ⟨q,c,h7,cell h8⟩
noncomputable def Poke (I:Addr) (h h':Heap):Prop:=∀ b o,b≠I→h.get? b=some o→h'.get? b=some o
theorem Poke.slots {I:Addr}{h h':Heap}(p:Poke I h h'){o:Obj}{us:Array Value}(ho:h.get? I=some o) (hd:o.data=.fields us):h.UpToSlots h':=fun b o' hb hn =>
 ⟨o'.slots,p b o' (fun q=>by subst q;rw[ho] at hb;cases hb;exact hn us hd) hb⟩
theorem Step.poke {Fs π π':List Addr}{s s':Shared}{I:Addr}{h'':Heap}{tk:Nat}(x:Step Fs π s π' s') (hI:s.heap.get? I=none) (p:Poke I s'.heap h''):Step Fs π s π' { s' with heap:=h'',toks:=tk }:=by
 have ne:∀ {b o},s.heap.get? b=some o→b≠I:=fun {b o} e q=>by subst q;rw[hI] at e;cases e
 obtain⟨h',tk',rfl⟩:=x.same;refine⟨⟨h'',tk,rfl⟩,⟨fun a o e h1 h2=>p a o (ne e) (x.ext.keep a o e h1 h2),fun a o e h1=>?_,fun a o e=>?_⟩,x.grow⟩
 ·obtain⟨sl,h3⟩:=x.ext.slots a o e h1
  exact⟨sl,p a _ (ne e) h3⟩
 ·obtain⟨o',h3⟩:=x.ext.alive a o e
  exact⟨o',p a o' (ne e) h3⟩
theorem HR.poke {am:Amb}{stack:List Env}{π:List Addr}{Hc:H}{h h':Heap}{I:Addr}(x:HR am stack π Hc h) (p:Poke I h h'){o:Obj}{us:Array Value}(ho:h.get? I=some o) (hd:o.data=.fields us) (hB:am.B.get? I=none):HR am stack π Hc h' :=
 x.upto (p.slots ho hd) fun b o' e=>p b o' (fun q=>by subst q;rw[hB] at e;cases e) (x.base b o' e)
theorem zii {am:Amb}{π:List Addr}{h h':Heap}(k:∀ b o,b ∉ am.res→h.get? b=some o→h'.get? b=some o):Via am am π π h h':=⟨fun a o ho z_ h1 h2=>⟨⟨o.slots,k a o h2 ho⟩,h1,h2⟩,fun z_ z_ e=>e⟩
theorem VR.free {am:Amb}{π:List Addr}{h h':Heap}(k:∀ b o,b ∉ am.res→h.get? b=some o→h'.get? b=some o){v:V}{y:Value}(e:VR am π h v y):VR am π h' v y:=e.via (zii k)
theorem VRs.free {am:Amb}{π:List Addr}{h h':Heap}(k:∀ b o,b ∉ am.res→h.get? b=some o→h'.get? b=some o){vs:List V}{ys:List Value}(e:VRs am π h vs ys):VRs am π h' vs ys:=e.via (zii k)
structure Mv (R Fs π:List Addr) (s:Shared) (π':List Addr) (s':Shared):Prop where
 same:∃ h' tk,s'={ s with heap:=h',toks:=tk }
 keep:∀ a o,s.heap.get? a=some o→a ∉ π→a ∉ Fs→a ∉ R→s'.heap.get? a=some o
 slots:∀ a o,s.heap.get? a=some o→a ∉ π→a ∉ R→∃ sl,s'.heap.get? a=some { o with slots:=sl }
 alive:∀ a o,s.heap.get? a=some o→∃ o',s'.heap.get? a=some o'
 grow:∃ δ,π'=π++δ∧∀ a∈δ,s.heap.get? a=none
theorem Mv.of {R Fs π π':List Addr}{s s':Shared}(x:Step Fs π s π' s'):Mv R Fs π s π' s' :=
 ⟨x.same,fun a o h1 h2 h3 z_=>x.ext.keep a o h1 h2 h3,fun a o h1 h2 z_=>x.ext.slots a o h1 h2,x.ext.alive,x.grow⟩
theorem Mv.notin {R Fs π π':List Addr}{s s':Shared}(x:Mv R Fs π s π' s'){a:Addr}{o:Obj}(ho:s.heap.get? a=some o) (ha:a ∉ π):a ∉ π':=by
 obtain⟨δ,rfl,hδ⟩:=x.grow;intro hm
 rcases List.mem_append.mp hm with h1|h1
 ·exact ha h1
 ·have:=hδ a h1;rw[ho] at this;cases this
theorem Mv.trans {R Fs π₀ π₁ π₂:List Addr}{s₀ s₁ s₂:Shared}(x:Mv R Fs π₀ s₀ π₁ s₁) (y:Mv R Fs π₁ s₁ π₂ s₂):Mv R Fs π₀ s₀ π₂ s₂:=by
 refine⟨?_,fun a o e h1 h2 h3=>?_,fun a o e h1 h3=>?_,fun a o e=>?_,?_⟩
 ·obtain⟨h',tk,rfl⟩:=x.same
  obtain⟨h'',tk',rfl⟩:=y.same;exact⟨_,_,rfl⟩
 ·exact y.keep a o (x.keep a o e h1 h2 h3) (x.notin e h1) h2 h3
 ·obtain⟨sl,h4⟩:=x.slots a o e h1 h3
  obtain⟨sl',h5⟩:=y.slots a _ h4 (x.notin e h1) h3;exact⟨sl',h5⟩
 ·obtain⟨o',h4⟩:=x.alive a o e
  exact y.alive a o' h4
 ·obtain⟨δ,rfl,hδ⟩:=x.grow
  obtain⟨δ',rfl,hδ'⟩:=y.grow;refine⟨δ++δ',by simp,fun a ha=>?_⟩
  rcases List.mem_append.mp ha with h1|h1
  ·exact hδ a h1
  ·cases hq:s₀.heap.get? a with
   |none=>rfl
   |some o =>
    obtain⟨o',h3⟩:=x.alive a o hq;have:=hδ' a h1;rw[h3] at this;cases this
theorem Mv.poke {R Fs π π':List Addr}{s s':Shared}{C:Addr}{h'':Heap}{tk:Nat}(x:Mv R Fs π s π' s') (hC:(C∈R∧∃ o,h''.get? C=some o)∨s.heap.get? C=none) (p:Poke C s'.heap h''):Mv R Fs π s π' { s' with heap:=h'',toks:=tk }:=by
 have ne:∀ {b o},s.heap.get? b=some o→b ∉ R→b≠C:=fun {b o} e hb q=>by
  subst q
  rcases hC with h|h
  ·exact hb h.1
  ·rw[h] at e;cases e
 obtain⟨h',tk',rfl⟩:=x.same;refine⟨⟨h'',tk,rfl⟩,fun a o e h1 h2 h3=>p a o (ne e h3) (x.keep a o e h1 h2 h3),fun a o e h1 h3=>?_,fun a o e=>?_,x.grow⟩
 ·obtain⟨sl,h4⟩:=x.slots a o e h1 h3
  exact⟨sl,p a _ (ne e h3) h4⟩
 ·obtain⟨o',h4⟩:=x.alive a o e
  by_cases hq:a=C
  ·subst hq
   rcases hC with h|h
   ·exact h.2
   ·rw[h] at e;cases e
  ·exact⟨o',p a o' hq h4⟩
theorem zig {am:Amb}{Fs π π':List Addr}{s s':Shared}(x:Mv am.res Fs π s π' s'):Via am am π π' s.heap s'.heap :=
 ⟨fun a o ho z_ h1 h2=>⟨x.slots a o ho h1 h2,x.notin ho h1,h2⟩,fun i a ha=>by
  obtain⟨δ,rfl,_⟩:=x.grow;rw[List.getElem?_append_left (List.getElem?_eq_some_iff.mp ha).1];exact ha⟩
theorem VR.move {am:Amb}{Fs π π':List Addr}{s s':Shared}(x:Mv am.res Fs π s π' s'){v:V}{y:Value}(e:VR am π s.heap v y):VR am π' s'.heap v y:=e.via (zig x)
theorem VRs.move {am:Amb}{Fs π π':List Addr}{s s':Shared}(x:Mv am.res Fs π s π' s'){vs:List V}{ys:List Value}(e:VRs am π s.heap vs ys):VRs am π' s'.heap vs ys:=e.via (zig x)
structure Iter (am:Amb) (stack:List Env) (A:Around) (I:Addr) (wt:Watch) (vs:List V) (Sx:Nat→List Addr→Heap→Prop):Prop where
 stable:∀ k π (s:Shared) π' (s':Shared),Sx k π s.heap→Step (Fs stack) π s π' s'→Sx k π' s'.heap
 move:∀ k π (s:Shared) π' (s':Shared),Sx k π s.heap→Mv am.res (Fs stack) π s π' s'→Sx k π' s'.heap
 free:∀ k π (h h':Heap),Sx k π h→(∀ b o,b ∉ am.res→h.get? b=some o→h'.get? b=some o)→Sx k π h'
 own:∀ k π h,Sx k π h→I ∉ π∧I ∉ Fs stack∧∃ o us,h.get? I=some o∧o.data=.fields us
 item:∀ k π (Hc:H) (s:Shared) v (Q:Option Value→Shared→Prop) (E:Value→Shared→Prop),Sx k π s.heap→HR am stack π Hc s.heap→wt.ok Hc=true→vs[k]?=some v →
  (∀ x h' tk,Poke I s.heap h'→VR am π h' v x→Sx (k+1) π h'→Q (some x) { s with heap:=h',toks:=tk })→wpAny am.M A (pyNext (.ref I)) Q E s
 done:∀ π (Hc:H) (s:Shared) (Q:Option Value→Shared→Prop) (E:Value→Shared→Prop),Sx vs.length π s.heap→HR am stack π Hc s.heap→wt.ok Hc=true →
  (∀ h' tk,Poke I s.heap h'→Q none { s with heap:=h',toks:=tk })→wpAny am.M A (pyNext (.ref I)) Q E s
 self:∀ k π (s:Shared) (Q:Value→Shared→Prop) (E:Value→Shared→Prop),Sx k π s.heap→Q (.ref I) s→wpAny am.M A (pyIter (.ref I)) Q E s
section
variable {am:Amb}{stack:List Env}{A:Around}
theorem Iter.lst (hh:A.handled=none){I l:Addr}{vs:List V}:Iter am stack A I none vs (fun k π h=>I ∉ π∧I ∉ Fs stack∧h.IsListIter I l k∧(l ∉ π∧I ∉ am.res∧l ∉ am.res)∧∃ xs,h.IsList l (List.toArray xs)∧VRs am π h vs xs) where
 stable:=by
  rintro k π s π' s' ⟨h1,h2,h3,h4,xs,h5,h6⟩ x
  obtain⟨o,ho,hr⟩:=id h3;obtain⟨o',ho',_⟩:=id h5;exact⟨x.notin ho h1,h2,⟨o,x.ext.keep _ _ ho h1 h2,hr⟩,⟨x.notin ho' h4.1,h4.2⟩,xs,x.ext.list h5 h4.1,h6.step x⟩
 move:=by
  rintro k π s π' s' ⟨h1,h2,h3,h4,xs,h5,h6⟩ x
  obtain⟨o,ho,hr⟩:=id h3;refine hold fun z_ k_=>?_;obtain⟨o',ho',hc',n',hd'⟩:=id h5;refine k_ ?_;obtain⟨sl,hs⟩:=x.slots _ _ ho' h4.1 h4.2.2;exact⟨x.notin ho h1,h2,⟨o,x.keep _ _ ho h1 h2 h4.2.1,hr⟩,⟨x.notin ho' h4.1,h4.2⟩,xs,⟨_,hs,hc',n',hd'⟩,h6.move x⟩
 free:=by
  rintro k π h h' ⟨h1,h2,⟨o,ho,hr⟩,h4,xs,⟨o',ho',r⟩,h6⟩ kk
  exact⟨h1,h2,⟨o,kk _ _ h4.2.1 ho,hr⟩,h4,xs,⟨o',kk _ _ h4.2.2 ho',r⟩,h6.free kk⟩
 own:=by
  rintro k π h ⟨h1,h2,⟨o,ho,hc,hd⟩,_⟩
  exact⟨h1,h2,o,_,ho,hd⟩
 item:=by
  rintro k π Hc s v Q E ⟨h1,h2,h3,h4,xs,h5,h6⟩ hr _ hv hQ
  obtain⟨x,hx,hvx⟩:=h6.get k v hv;refine hold fun z_ k_=>?_;obtain⟨o,ho,hc,hd⟩:=id h3;refine k_ ?_;refine wpAny_pyNext_list_item h3 h5 (x:=x) (by simpa using hx) fun h' hit' hs'=>?_
  have p:Poke I s.heap h':=fun b o hb e=>hs'.extBut b o hb e;have u:=p.slots ho hd;refine hold fun z_ k_=>?_;obtain⟨ol,hol,hcl,n,hdl⟩:=id h5;refine k_ ?_;have hne:l≠I:=fun q=>by subst q;rw[ho] at hol;cases hol;rw[hd] at hdl;cases hdl
  exact hQ x h' s.toks p (hvx.upto u) ⟨h1,h2,hit',h4,xs,⟨ol,p _ _ hne hol,hcl,n,hdl⟩,h6.upto u⟩
 done:=by
  rintro π Hc s Q E ⟨h1,h2,h3,h4,xs,h5,h6⟩ hr _ hQ
  exact wpAny_pyNext_list_end hh h3 h5 (by simp[h6.len]) fun h' he'=>hQ h' s.toks fun b o hb e=>he' b o hb e
 self:=fun z_ z_ z_ z_ z_ st hQ=>wpAny_pyIter_listiter st.2.2.1 hQ
theorem Iter.cell (hh:A.handled=none){I:Addr}{i:Nat}{vs:List V}:Iter am stack A I (some (i,.list vs)) vs (fun k π h=>I ∉ π∧(I ∉ Fs stack∧I ∉ am.res)∧∃ l,π[i]?=some l∧h.IsListIter I l k) where
 stable:=by
  rintro k π s π' s' ⟨h1,h2,l,h4,h3⟩ x
  obtain⟨o,ho,hr⟩:=id h3;obtain⟨δ,e,_⟩:=x.grow;refine⟨x.notin ho h1,h2,l,?_,⟨o,x.ext.keep _ _ ho h1 h2.1,hr⟩⟩;rw[e,List.getElem?_append_left (List.getElem?_eq_some_iff.mp h4).1];exact h4
 move:=by
  rintro k π s π' s' ⟨h1,h2,l,h4,h3⟩ x
  obtain⟨o,ho,hr⟩:=id h3;obtain⟨δ,e,_⟩:=x.grow;refine⟨x.notin ho h1,h2,l,?_,⟨o,x.keep _ _ ho h1 h2.1 h2.2,hr⟩⟩;rw[e,List.getElem?_append_left (List.getElem?_eq_some_iff.mp h4).1];exact h4
 free:=by
  rintro k π h h' ⟨h1,h2,l,h4,⟨o,ho,hr⟩⟩ kk
  exact⟨h1,h2,l,h4,⟨o,kk _ _ h2.2 ho,hr⟩⟩
 own:=by
  rintro k π h ⟨h1,h2,l,_,⟨o,ho,hc,hd⟩⟩
  exact⟨h1,h2.1,o,_,ho,hd⟩
 item:=by
  rintro k π Hc s v Q E ⟨h1,h2,l,h4,h3⟩ hr hw hv hQ
  have hc:Hc[i]?=some (.list vs):=by simpa [Watch.ok] using hw
  refine hold fun z_ k_=>?_;obtain⟨xs,h5,_,h6⟩:=(hr.cell i _ l hc h4).list;refine k_ ?_;obtain⟨x,hx,hvx⟩:=h6.get k v hv;refine hold fun z_ k_=>?_;obtain⟨o,ho,_,hd⟩:=id h3;refine k_ ?_;refine wpAny_pyNext_list_item h3 h5.is (x:=x) (by simpa using hx) fun h' hit' hs'=>?_
  have p:Poke I s.heap h':=fun b o hb e=>hs'.extBut b o hb e;exact hQ x h' s.toks p (hvx.upto (p.slots ho hd)) ⟨h1,h2,l,h4,hit'⟩
 done:=by
  rintro π Hc s Q E ⟨h1,h2,l,h4,h3⟩ hr hw hQ
  have hc:Hc[i]?=some (.list vs):=by simpa [Watch.ok] using hw
  refine hold fun z_ k_=>?_;obtain⟨xs,h5,_,h6⟩:=(hr.cell i _ l hc h4).list;refine k_ ?_;exact wpAny_pyNext_list_end hh h3 h5.is (by simp[h6.len]) fun h' he'=>hQ h' s.toks fun b o hb e=>he' b o hb e
 self:=fun _ _ _ _ _ ⟨_,_,_,_,st⟩ hQ=>wpAny_pyIter_listiter st hQ
theorem Iter.tup (hh:A.handled=none){I l:Addr}{vs:List V}:Iter am stack A I none vs (fun k π h=>I ∉ π∧I ∉ Fs stack∧h.IsTupleIter I l k∧(l ∉ π∧I ∉ am.res∧l ∉ am.res)∧∃ xs,h.IsTuple l (List.toArray xs)∧VRs am π h vs xs) where
 stable:=by
  rintro k π s π' s' ⟨h1,h2,h3,h4,xs,h5,h6⟩ x
  obtain⟨o,ho,hr⟩:=id h3;obtain⟨o',ho',_⟩:=id h5;exact⟨x.notin ho h1,h2,⟨o,x.ext.keep _ _ ho h1 h2,hr⟩,⟨x.notin ho' h4.1,h4.2⟩,xs,x.ext.tuple h5 h4.1,h6.step x⟩
 move:=by
  rintro k π s π' s' ⟨h1,h2,h3,h4,xs,h5,h6⟩ x
  obtain⟨o,ho,hr⟩:=id h3;refine hold fun z_ k_=>?_;obtain⟨o',ho',hc',n',hd'⟩:=id h5;refine k_ ?_;obtain⟨sl,hs⟩:=x.slots _ _ ho' h4.1 h4.2.2;exact⟨x.notin ho h1,h2,⟨o,x.keep _ _ ho h1 h2 h4.2.1,hr⟩,⟨x.notin ho' h4.1,h4.2⟩,xs,⟨_,hs,hc',n',hd'⟩,h6.move x⟩
 free:=by
  rintro k π h h' ⟨h1,h2,⟨o,ho,hr⟩,h4,xs,⟨o',ho',r⟩,h6⟩ kk
  exact⟨h1,h2,⟨o,kk _ _ h4.2.1 ho,hr⟩,h4,xs,⟨o',kk _ _ h4.2.2 ho',r⟩,h6.free kk⟩
 own:=by
  rintro k π h ⟨h1,h2,⟨o,ho,hc,hd⟩,_⟩
  exact⟨h1,h2,o,_,ho,hd⟩
 item:=by
  rintro k π Hc s v Q E ⟨h1,h2,h3,h4,xs,h5,h6⟩ hr _ hv hQ
  obtain⟨x,hx,hvx⟩:=h6.get k v hv;refine hold fun z_ k_=>?_;obtain⟨o,ho,hc,hd⟩:=id h3;refine k_ ?_;refine wpAny_pyNext_tuple_item h3 h5 (x:=x) (by simpa using hx) fun h' hit' hs'=>?_
  have p:Poke I s.heap h':=fun b o hb e=>hs'.extBut b o hb e;have u:=p.slots ho hd;refine hold fun z_ k_=>?_;obtain⟨ol,hol,hcl,n,hdl⟩:=id h5;refine k_ ?_;have hne:l≠I:=fun q=>by subst q;rw[ho] at hol;cases hol;rw[hd] at hdl;cases hdl
  exact hQ x h' s.toks p (hvx.upto u) ⟨h1,h2,hit',h4,xs,⟨ol,p _ _ hne hol,hcl,n,hdl⟩,h6.upto u⟩
 done:=by
  rintro π Hc s Q E ⟨h1,h2,h3,h4,xs,h5,h6⟩ hr _ hQ
  exact wpAny_pyNext_tuple_end hh h3 h5 (by simp[h6.len]) fun h' he'=>hQ h' s.toks fun b o hb e=>he' b o hb e
 self:=fun z_ z_ z_ z_ z_ st hQ=>wpAny_pyIter_tupleiter st.2.2.1 hQ
theorem Iter.range (hh:A.handled=none){I:Addr}(a c:Int) (n:Nat):Iter am stack A I none ((List.range n).map fun(i:Nat)=>V.int (a+(i:Int) * c)) (fun k π h=>I ∉ π∧(I ∉ Fs stack∧I ∉ am.res)∧IsRangeIter h I (a+(k:Nat) * c) ((n:Int) - (k:Nat)) c) where
 stable:=by
  rintro k π s π' s' ⟨h1,h2,h3⟩ x
  exact⟨x.notin h3 h1,h2,x.ext.keep _ _ h3 h1 h2.1⟩
 move:=by
  rintro k π s π' s' ⟨h1,h2,h3⟩ x
  exact⟨x.notin h3 h1,h2,x.keep _ _ h3 h1 h2.1 h2.2⟩
 free:=by
  rintro k π h h' ⟨h1,h2,h3⟩ kk
  exact⟨h1,h2,kk _ _ h2.2 h3⟩
 own:=by
  rintro k π h ⟨h1,h2,h3⟩
  exact⟨h1,h2.1,_,_,h3,rfl⟩
 item:=by
  rintro k π Hc s v Q E ⟨h1,h2,h3⟩ hr _ hv hQ
  have hk:k < n:=by have:=(List.getElem?_eq_some_iff.mp hv).1;simpa using this
  have hv':v=V.int (a+(k:Int) * c):=by
   rw[List.getElem?_map,List.getElem?_range hk] at hv
   simpa using hv.symm
  subst hv';refine wpAny_pyNext_range_item h3 (by omega) fun h' hit' hs'=>?_
  have p:Poke I s.heap h':=fun b o hb e=>hs'.extBut b o hb e;refine hQ _ h' _ p ⟨_,rfl⟩ ⟨h1,h2,?_⟩;have e1:a+((k+1:Nat):Int) * c=a+(k:Int) * c+c:=by push_cast;rw[Int.add_mul,Int.one_mul,Int.add_assoc]
  have e2:(n:Int) - ((k+1:Nat):Int)=(n:Int) - (k:Int) - 1:=by rw[Int.natCast_add,← Int.sub_sub];rfl
  rw[e1,e2];exact hit'
 done:=by
  rintro π Hc s Q E ⟨h1,h2,h3⟩ hr _ hQ
  exact wpAny_pyNext_range_end hh h3 (by simp) fun h' he'=>hQ h' s.toks fun b o hb e=>he' b o hb e
 self:=fun z_ z_ z_ z_ z_ st hQ=>wpAny_pyIter_rangeiter st.2.2 hQ
end
structure DO (o:Obj) (d:Addr) (arr:Array DictEntry):Prop where
 ne:(d == sysModules)=false
 cls:o.cls=.type "dict"
 data:o.data=.dict arr arr.size
section
variable {am:Amb}{A:Around}{s:Shared}{E:Value→Shared→Prop}{d I:Addr}{o:Obj}{arr:Array DictEntry}
theorem DO.iter (D:DO o d arr) (ho:s.heap.get? d=some o){Q:Value→Shared→Prop}(h:Q (.ref s.heap.objs.size) { s with heap:=s.heap.push { cls:=.type "dict_keyiterator",data:=.fields #[.ref d,.int 0 0,.int arr.size 0,.int arr.size 0] } }):wpAny am.M A (pyIter (.ref d)) Q E s:=by
 refine wpAny_pyIter_slot (show s.TypeIs (.ref d) "dict" from⟨o,ho,D.cls⟩) PySem.F.slot_dict_iter (wpAny_call_entry PySem.F.slot_dict_iter (show s.TypeIs (.ref d) "dict" from⟨o,ho,D.cls⟩) PySem.F.entry_dict_iter ?_ (PySem.F.args_dict_iter_1 _));unfold Builtin.«dict.__iter__» Builtin.Dict.dictSlotNone;refine wpAny_bind (wpAny_bind (wpAny_notOrdered_dict (show s.TypeIs (.ref d) "dict" from⟨o,ho,D.cls⟩) ?_))
 show wpAny _ _ (pure (Value.ref d)) _ _ s;refine wpAny_pure ?_;show wpAny _ _ (Builtin.Dict.showsAll d >>= _) _ _ s;unfold Builtin.Dict.showsAll;rw[if_neg (by rw[D.ne];exact Bool.false_ne_true)]
 refine wpAny_bind (wpAny_pure ?_);refine wpAny_bind (wpAny_dictEntries ho D.data ?_);refine wpAny_bind (wpAny_dictEpoch ho D.data ?_);refine wpAny_bind (wpAny_newObj_type (wpAny_pure ⟨_,rfl,"dict_keyiterator",_,⟨_,Heap.get?_push_size _ rfl,rfl⟩,PySem.F.slot_dict_keyiterator_next.lookup,?_⟩));exact h
theorem DO.next (D:DO o d arr) (ho:s.heap.get? d=some o){i:Nat}{x:DictEntry}{Q:Option Value→Shared→Prop}(hit:s.heap.IsKeyIter I d i arr.size arr.size) (hxa:arr[i]?=some x)
  (hQ:∀ h',h'.IsKeyIter I d (i+1) arr.size arr.size→Heap.SameBut I s.heap h'→Q (some x.key) { s with heap:=h' }):wpAny am.M A (pyNext (.ref I)) Q E s:=by
 refine hold fun z_ k_=>?_;obtain⟨oI,hoI,hcI,hdI⟩:=id hit;refine k_ ?_;unfold pyNext;refine wpAny_bind (wpAny_attempt (wpAny_callSpecial?_slot (name:=Str.ofString "__next__") hit.typeIs PySem.F.slot_dict_keyiterator_next
  (wpAny_call_entry PySem.F.slot_dict_keyiterator_next hit.typeIs PySem.F.entry_dict_keyiterator_next ?_ (PySem.F.args_dict_keyiterator_next_1 _))))
 refine wpAny_bind (wpAny_pure ?_);refine wpAny_bind (wpAny_bind (wpAny_bind (wpAny_typeNameOfWhole_keyiter hit.typeIs (wpAny_pure ?_))));refine wpAny_bind (wpAny_fieldsOf hoI hdI ?_);rw[if_neg (by decide)]
 show wpAny _ _ (if(Value.ref d == Value.none)=true then _ else _) _ _ s;rw[if_neg (show ¬ ((Value.ref d == Value.none)=true) from Bool.false_ne_true)];refine wpAny_bind (wpAny_pure ?_);refine wpAny_bind (wpAny_dictEntries ho D.data ?_);rw[if_neg (by simp)]
 refine wpAny_bind (wpAny_pure ?_);refine wpAny_bind (wpAny_dictEpoch ho D.data ?_);rw[if_neg (by simp)]
 refine wpAny_pure ?_;dsimp only;rw[if_neg (Int.not_lt.mpr (Int.natCast_nonneg i)),Int.toNat_natCast,hxa];refine wpAny_bind (wpAny_bind (wpAny_typeNameOfWhole_keyiter hit.typeIs (wpAny_pure ?_)));refine wpAny_bind (wpAny_isOneOf_keyiter hit.typeIs ?_);show wpAny _ _ (setField (.ref I) 1 (rawInt ((i:Int)+1)) >>= _) _ _ s;refine wpAny_bind (wpAny_setField hoI hdI (by simp) ?_)
 have hit':(s.heap.update I (Obj.mapFields (·.setIfInBounds 1 (rawInt ((i:Int)+1))))).IsKeyIter I d (i+1) arr.size arr.size :=
  ⟨_,Heap.get?_update_self _ hoI (Obj.isFreed_of_fields (Obj.data_mapFields hdI _)),(Obj.cls_mapFields ..).trans hcI,by rw[Obj.data_mapFields hdI];rfl⟩
 refine wpAny_bind (wpAny_holding ?_);refine wpAny_bind (wpAny_isOneOf_keyiter (s:={ s with heap:=s.heap.update I (Obj.mapFields (·.setIfInBounds 1 (rawInt ((i:Int)+1)))) }) hit'.typeIs ?_)
 show wpAny _ _ (pure x.key) _ _ _;exact wpAny_pure (wpAny_pure ⟨_,rfl,wpAny_pure (hQ _ hit' (Heap.SameBut.update ..))⟩)
theorem DO.last (hh:A.handled=none) (D:DO o d arr) (ho:s.heap.get? d=some o){Q:Option Value→Shared→Prop}(hit:s.heap.IsKeyIter I d arr.size arr.size arr.size) (hQ:∀ h',Heap.ExtBut I s.heap h'→Q none { s with heap:=h' }):wpAny am.M A (pyNext (.ref I)) Q E s:=by
 refine hold fun z_ k_=>?_;obtain⟨oI,hoI,hcI,hdI⟩:=id hit;refine k_ ?_;unfold pyNext;refine wpAny_bind (wpAny_attempt (wpAny_callSpecial?_slot (name:=Str.ofString "__next__") hit.typeIs PySem.F.slot_dict_keyiterator_next
  (wpAny_call_entry PySem.F.slot_dict_keyiterator_next hit.typeIs PySem.F.entry_dict_keyiterator_next ?_ (PySem.F.args_dict_keyiterator_next_1 _))))
 refine wpAny_bind (wpAny_pure ?_);refine wpAny_bind (wpAny_bind (wpAny_bind (wpAny_typeNameOfWhole_keyiter hit.typeIs (wpAny_pure ?_))));refine wpAny_bind (wpAny_fieldsOf hoI hdI ?_);rw[if_neg (by decide)]
 show wpAny _ _ (if(Value.ref d == Value.none)=true then _ else _) _ _ s;rw[if_neg (show ¬ ((Value.ref d == Value.none)=true) from Bool.false_ne_true)];refine wpAny_bind (wpAny_pure ?_);refine wpAny_bind (wpAny_dictEntries ho D.data ?_);rw[if_neg (by simp)]
 refine wpAny_bind (wpAny_pure ?_);refine wpAny_bind (wpAny_dictEpoch ho D.data ?_);rw[if_neg (by simp)]
 refine wpAny_pure ?_;dsimp only;rw[if_neg (Int.not_lt.mpr (Int.natCast_nonneg arr.size)),Int.toNat_natCast,Array.getElem?_eq_none (Nat.le_refl _)];refine wpAny_bind (wpAny_bind (wpAny_typeNameOfWhole_keyiter hit.typeIs (wpAny_pure ?_)));show wpAny _ _ (setField (.ref I) 0 .none >>= _) _ _ s;refine wpAny_bind (wpAny_setField hoI hdI (by simp) ?_)
 show wpAny _ _ (newExc (.type "StopIteration") [] >>= _) _ _ _;refine wpAny_bind ?_;simp only[newExc,newTuple];refine wpAny_bind (wpAny_newObj_type ?_ (by size_fits))
 refine wpAny_bind (m:=firstArgMember _ _) (wpAny_of_eq (a:=Value.none) (by first|rfl|(simp only[firstArgMember];rfl)) ?_)
 refine wpAny_newObj_type ?_ (by size_fits)
 simp only[raiseNew];refine wpAny_bind (wpAny_handled ?_);rw[show A.in1.handled=none from hh];refine wpAny_bind (wpAny_pure (wpAny_throw ?_));refine wpAny_bind (wpAny_isInstance (T:="StopIteration") (b:=true) ⟨_,Heap.get?_push_size _ rfl,rfl⟩ isSubtype_stop ?_);exact wpAny_pure (hQ _ (((Heap.SameBut.update ..).extBut.push _).push _))
theorem DO.walks (hh:A.handled=none) (D:DO o d arr) (hne:d≠I):Walks am.prog am.w A I [I,d] [I] arr.size (fun i v=>∃ e,arr[i]?=some e∧e.key=v) (fun i h=>h.IsKeyIter I d i arr.size arr.size∧h.get? d=some o) where
 sub:=fun b hb=>by rw[List.mem_singleton.1 hb];exact List.mem_cons_self ..
 frame:=fun i h h' ⟨⟨oI,hI,r⟩,hd⟩ k=>⟨⟨oI,k I (List.mem_cons_self ..) oI hI,r⟩,k d (List.mem_cons_of_mem _ (List.mem_cons_self ..)) o hd⟩
 item:=fun i s Q E hi ⟨hit,hd⟩ hQ=>D.next hd hit (Array.getElem?_eq_getElem hi) fun h' hit' hs' =>
  hQ _ h' s.toks ⟨_,Array.getElem?_eq_getElem hi,rfl⟩ ⟨hit',hs'.extBut d o hne hd⟩ fun b o' hb q=>hs'.extBut b o' (fun z=>hb (z ▸ List.mem_singleton.2 rfl)) q
 done:=fun s Q E ⟨hit,hd⟩ hQ=>D.last hh hd hit fun h' he=>hQ h' s.toks fun b o' hb q=>he b o' (fun z=>hb (z ▸ List.mem_singleton.2 rfl)) q
 self:=fun i s Q E st hQ=>wpAny_pyIter_keyiter st.1 hQ
theorem DO.src (D:DO o d arr):KdlSrc am.prog am.w "dict" d d arr.size (fun i v=>∃ e,arr[i]?=some e∧e.key=v) (fun h=>h.get? d=some o) where
 type:=fun z_ hm=>⟨o,hm,D.cls⟩
 there:=fun z_ hm=>⟨Heap.lt_size hm,Heap.lt_size hm⟩
 keep:=fun z_ z_ hm hk=>hk d (.inl rfl) o hm
 notList:=by decide
 notTuple:=by decide
 hint:=fun z_ z_ z_ z_ hm hq=>kdl_hint_dict ⟨o,hm,D.cls⟩ hq
 iter:=fun z_ s hh hm=>⟨_,_,(fun z_ z_ hq=>D.iter hm hq),D.walks hh (Nat.ne_of_lt (Heap.lt_size hm)),⟨_,Heap.get?_push_size _ rfl,rfl,rfl⟩,Heap.get?_push_of_some _ hm⟩
theorem DO.collect (hh:A.handled=none) (D:DO o d arr) (ho:s.heap.get? d=some o) (hle:arr.size≤sizeLine){Q:List Value→Shared→Prop}
  (h:∀ h₁ tk,(∀ b o,s.heap.get? b=some o→h₁.get? b=some o)→Q (arr.toList.map (·.key)) { s with heap:=h₁,toks:=tk }):wpAny am.M A (PySem.collect (.ref d)) Q E s:=by
 have hlt:=Heap.lt_size ho;have hd1:=Heap.get?_push_of_some { cls:=.type "list",data:=.seq ([]:List Value).toArray } ho;have hS:(s.heap.push { cls:=.type "list",data:=.seq ([]:List Value).toArray }).get? s.heap.objs.size=some { cls:=.type "list",data:=.seq #[] 0 }:=Heap.get?_push_size _ rfl;have key:∀ R:Result→Shared→Prop,(∀ h' tk acc c',(∀ b o,b≠s.heap.objs.size→(s.heap.push { cls:=.type "list",data:=.seq ([]:List Value).toArray }).get? b=some o→h'.get? b=some o)→h'.get? s.heap.objs.size=some { cls:=.type "list",dict:=none,data:=.seq acc c',slots:=#[] } →
   ItemsOf (fun i v=>∃ e,arr[i]?=some e∧e.key=v) acc arr.size→R (.ok (.ret (.ref s.heap.objs.size))) { s with heap:=h',toks:=tk })→codeAny am.M A (.builtin "proto.collect" ⟨[.ref d],[]⟩) R s:=by
  intro R hR;refine codeAny_builtin PySem.F.entry_proto_collect ?_;rw[Around.under_plainId PySem.F.plain_proto_collect _];show wpAny _ A.in1 (newList [] >>= fun l=>again (.builtin "list.__iadd__" ⟨[l,.ref d],[]⟩)) _ _ s;refine wpAny_bind (wpAny_newObj_type ?_);refine wpAny_pure ⟨plainId_quiet PySem.F.plain_list_iadd _,codeAny_builtin PySem.F.entry_list_iadd ?_⟩;rw[Around.under_plainId PySem.F.plain_list_iadd _]
  exact kdl_extend (s:={ s with heap:=s.heap.push { cls:=.type "list",data:=.seq ([]:List Value).toArray } }) (D.src (am:=am)) hh hd1 _ (Nat.ne_of_gt hlt) (Nat.ne_of_gt hlt) (.ref s.heap.objs.size) 0 hS hR hle
 unfold PySem.collect;refine wpAny_bind (wpAny_runValue (key _ fun h' tk acc c' k hS' hacc=>?_));show wpAny _ A (load s.heap.objs.size >>= _) _ _ _;refine wpAny_bind (wpAny_load hS' ?_);have e:acc.toList=arr.toList.map (·.key):=List.ext_getElem? fun i=>by
  rw[List.getElem?_map,Array.getElem?_toList,Array.getElem?_toList]
  cases q:acc[i]? with
  |some v =>
   obtain⟨e,e1,e2⟩:=hacc.2 i v q;rw[e1,← e2];rfl
  |none =>
   have:arr.size≤i:=hacc.1 ▸ Array.getElem?_eq_none_iff.1 q;rw[Array.getElem?_eq_none this];rfl
 have h:=h h' tk fun b o q=>k b o (Nat.ne_of_lt (Heap.lt_size q)) (Heap.get?_push_of_some _ q);rw[←e] at h;exact wpAny_pure h
theorem DO.count (D:DO o d arr) (ho:s.heap.get? d=some o) (hfit:(arr.size:Int) < 2 ^ 63){Q:Value→Shared→Prop}(h:Q (.int arr.size (s.toks+1)) { s with toks:=s.toks+1+1 }):wpAny am.M A (call (.builtin "len") [.ref d]) Q E s:=by
 have hT:s.TypeIs (.ref d) "dict":=⟨o,ho,D.cls⟩;refine Calls.call_function_entry kind_len plain_len entry_len (args_len1 _) ?_;unfold Builtin.«len»
 refine wpAny_bind (m:=oneArg "len" _) (wpAny_pure ?_);refine wpAny_bind (m:=callSpecial? (.ref d) (Str.ofString "__len__")) (wpAny_callSpecial?_slot (name:=Str.ofString "__len__") hT PySem.F.slot_dict_len (wpAny_call_entry PySem.F.slot_dict_len hT PySem.F.entry_dict_len ?_ (PySem.F.args_dict_len_1 _)));show wpAny _ _ (dictSize d >>= _) _ _ s;unfold dictSize;refine wpAny_bind (wpAny_bind (wpAny_dictEntries ho D.data (wpAny_pure ?_)))
 show wpAny _ _ (Builtin.Dict.pendingCount d >>= _) _ _ s;refine wpAny_bind (wpAny_pendingCount_other D.ne ?_);refine wpAny_ret_mkInt ?_;rw[show((arr.size:Nat):Int)+((0:Nat):Int)=(arr.size:Int) from Int.add_zero _];refine wpAny_bind (wpAny_holding (wpAny_pure ?_));refine wpAny_bind (wpAny_letGo ?_);show wpAny _ _ (if((arr.size:Nat):Int) < 0 then _ else _) _ _ _;rw[if_neg (Int.not_lt.mpr (Int.natCast_nonneg _))]
 show wpAny _ _ (if((arr.size:Nat):Int) ≥ 2 ^ 63 then _ else _) _ _ _;rw[if_neg (Int.not_le.mpr hfit)];exact wpAny_bind (wpAny_mkInt (wpAny_pure ⟨_,rfl,h⟩))
end
section
variable {am:Amb}{stack:List Env}{A:Around}{π:List Addr}{s:Shared}{Hc:H}{E:Value→Shared→Prop}{es:List (V × V)}{d I:Addr}{o:Obj}{arr:Array DictEntry}{ep:Nat}{xs:List Value}
theorem DC.raw (D:DC am π s.heap es d o arr ep xs):DO o d arr:=⟨D.ne,D.cls,by rw[D.data,D.age,D.size]⟩
theorem Iter.dict (hh:A.handled=none){i:Nat}:Iter am stack A I (some (i,.dict es)) (es.map (·.1)) (fun k π h=>I ∉ π∧(I ∉ Fs stack∧I ∉ am.res)∧∃ l,π[i]?=some l∧h.IsKeyIter I l k es.length es.length) where
 stable:=by
  rintro k π s π' s' ⟨h1,h2,l,h4,h3⟩ x
  obtain⟨o,ho,hr⟩:=id h3;obtain⟨δ,e,_⟩:=x.grow;refine⟨x.notin ho h1,h2,l,?_,⟨o,x.ext.keep _ _ ho h1 h2.1,hr⟩⟩;rw[e,List.getElem?_append_left (List.getElem?_eq_some_iff.mp h4).1];exact h4
 move:=by
  rintro k π s π' s' ⟨h1,h2,l,h4,h3⟩ x
  obtain⟨o,ho,hr⟩:=id h3;obtain⟨δ,e,_⟩:=x.grow;refine⟨x.notin ho h1,h2,l,?_,⟨o,x.keep _ _ ho h1 h2.1 h2.2,hr⟩⟩;rw[e,List.getElem?_append_left (List.getElem?_eq_some_iff.mp h4).1];exact h4
 free:=by
  rintro k π h h' ⟨h1,h2,l,h4,⟨o,ho,hr⟩⟩ kk
  exact⟨h1,h2,l,h4,⟨o,kk _ _ h2.2 ho,hr⟩⟩
 own:=by
  rintro k π h ⟨h1,h2,l,_,⟨o,ho,hc,hd⟩⟩
  exact⟨h1,h2.1,o,_,ho,hd⟩
 item:=by
  rintro k π Hc s v Q E ⟨h1,h2,l,h4,h3⟩ hr hw hv hQ
  have hc:Hc[i]?=some (.dict es):=by simpa [Watch.ok] using hw
  obtain⟨o,arr,ep,xs,D⟩:=(hr.cell i _ l hc h4).dict;rw[List.getElem?_map] at hv;obtain⟨⟨k',v'⟩,hx,rfl⟩:=Option.map_eq_some_iff.1 hv;obtain⟨oI,ho,_,hd⟩:=id h3;obtain⟨x,y,hxa,hvx,_⟩:=D.at hx;rw[←D.size] at h3;refine D.raw.next D.ho h3 hxa fun h' hit' hs'=>?_;have p:Poke I s.heap h':=fun b o hb e=>hs'.extBut b o hb e;exact hQ x h' s.toks p (hvx.upto (p.slots ho hd)) ⟨h1,h2,l,h4,by rw[←D.size];exact hit'⟩
 done:=by
  rintro π Hc s Q E ⟨h1,h2,l,h4,h3⟩ hr hw hQ
  have hc:Hc[i]?=some (.dict es):=by simpa [Watch.ok] using hw
  obtain⟨o,arr,ep,xs,D⟩:=(hr.cell i _ l hc h4).dict;rw[List.length_map,← D.size] at h3;exact D.raw.last hh D.ho h3 fun h' he'=>hQ h' s.toks fun b o hb e=>he' b o hb e
 self:=fun _ _ _ _ _ ⟨_,_,_,_,st⟩ hQ=>wpAny_pyIter_keyiter st hQ
end
section
variable {am:Amb}{stack:List Env}{A:Around}{π:List Addr}{s:Shared}{Hc:H}
theorem zdp {v:V}{x:Value}{vs:List V}(hr:HR am stack π Hc s.heap) (e:VR am π s.heap v x) (hi:items Hc v=some vs) :
  ∃ l xs,x=.ref l∧(s.heap.IsList l (List.toArray xs)∨s.heap.IsTuple l (List.toArray xs))∧vs.length≤1000000∧VRs am π s.heap vs xs:=by
 cases v with
 |tup ws =>
  simp only[items,Option.some.injEq] at hi;subst hi;simp only[VR] at e;obtain⟨a,xs,h1,_,h3,h4,h5⟩:=e;exact⟨a,xs,h1,.inr h3,h4,h5⟩
 |lst ws =>
  obtain⟨l,xs,h1,h2,h3⟩:=zbc hr e (vs:=vs) hi;exact⟨l,xs,h1,.inl h2,h3⟩
 |ref i =>
  obtain⟨l,xs,h1,h2,h3⟩:=zbc hr e (vs:=vs) hi;exact⟨l,xs,h1,.inl h2,h3⟩
 |_=>simp[items] at hi
theorem zpL {a:V}{x:Value}(hr:HR am stack π Hc s.heap) (ha:VR am π s.heap a x) :
  JAt am stack A (call (.builtin "len") [x]) (R.opt (bf .len Hc a) Hc) (VR am) π s:=by
 have key:∀ vs,items Hc a=some vs→JAt am stack A (call (.builtin "len") [x]) (R.ok (V.int vs.length) Hc) (VR am) π s:=by
  intro vs h;obtain⟨l,xs,rfl,hl,hz,hv⟩:=zdp hr ha h;have e:=hv.len
  rcases hl with hl|hl
  ·exact .inr (PySem.Calls.call_len_list hl (by rw[List.size_toArray,e];exact zep hz) (by simp only[List.size_toArray,e];exact OkP.tok hr ⟨_,rfl⟩))
  ·exact .inr (len_tuple hl (by rw[List.size_toArray,e];exact zep hz) (by simp only[List.size_toArray,e];exact OkP.tok hr ⟨_,rfl⟩))
 unfold bf
 cases a with
 |ref i =>
  simp only
  cases hc:Hc[i]? with
  |none=>exact .inl rfl
  |some c =>
   cases c with
   |list vs=>exact key vs (by simp[items,hc])
   |dict es =>
    simp only[VR] at ha;obtain⟨d,rfl,hi⟩:=ha;obtain⟨o,arr,ep,xs,D⟩:=(hr.cell i _ d hc hi).dict;have hl:=D.len;rw[zcA] at hl;refine .inr (D.raw.count D.ho (by rw[D.size];omega) ?_)
    rw[D.size];exact OkP.tok hr ⟨_,rfl⟩
 |tup vs=>exact key vs rfl
 |lst vs=>exact key vs rfl
 |_=>exact .inl rfl
theorem zjG {a:V}{x:Value}{vs:List V}{Q:Value→Shared→Prop}{E:Value→Shared→Prop}(hr:HR am stack π Hc s.heap) (ha:VR am π s.heap a x) (hi:items Hc a=some vs) (h:∀ y s',NewL am π s vs y s'→Q y s') :
  wpAny am.M A (call (.type "list") [x]) Q E s:=by
 obtain⟨l,xs,rfl,hl,hz,hv⟩:=zdp hr ha hi;have e:=hv.len;have fin:∀ (T:String) (o:Obj) (n:Nat),(T="list"∨T="tuple")→s.heap.get? l=some o→o.cls=.type T→o.data=.seq (List.toArray xs) n→wpAny am.M A (call (.type "list") [.ref l]) Q E s:=by
  intro T o n hT ho hc hd;refine call_list_seq l hT ho hc hd (fun h' c' k hn=>h _ _ ⟨_,xs,h',s.toks,rfl,rfl,k,zan _,⟨_,c',hn,rfl,rfl,rfl⟩,(hv.held (zan _)).keeps k⟩) ?_;rw[List.size_toArray,e];exact zbi hz
 rcases hl with⟨o,ho,hc,n,hd⟩|⟨o,ho,hc,n,hd⟩
 ·exact fin _ o n (.inl rfl) ho hc hd
 ·exact fin _ o n (.inr rfl) ho hc hd
theorem zoo {a:V}{x:Value}(hr:HR am stack π Hc s.heap) (ha:VR am π s.heap a x) :
  JAt am stack A (call (.type "list") [x]) (R.opt (bf .list Hc a) Hc) (VR am) π s:=by
 unfold bf
 cases hi:items Hc a with
 |none=>exact .inl rfl
 |some vs =>
  obtain⟨_,_,_,_,hz,_⟩:=zdp hr ha hi;exact .inr (zjG hr ha hi fun y s' n=>n.lst hr hz)
theorem zmb {a:V}{x:Value}(hr:HR am stack π Hc s.heap) (ha:VR am π s.heap a x) :
  JAt am stack A (call (.type "tuple") [x]) (R.opt (bf .tuple Hc a) Hc) (VR am) π s:=by
 unfold bf
 cases hi:items Hc a with
 |none=>exact .inl rfl
 |some vs =>
  obtain⟨l,xs,rfl,hl,hz,hv⟩:=zdp hr ha hi;have e:=hv.len
  rcases hl with hl|hl
  ·refine .inr (call_tuple_list hl (fun h' k=>?_) (by rw[List.size_toArray,e];exact zbi hz))
   have k':∀ b o,s.heap.get? b=some o→(h'.push { cls:=.type "tuple",data:=.seq (List.toArray xs) }).get? b=some o:=fun b o q=>Heap.get?_push_of_some _ (k b o q);have hn:s.heap.get? h'.objs.size=none:=by
    cases q:s.heap.get? h'.objs.size with
    |none=>rfl
    |some o=>have:=k _ o q;rw[zan] at this;cases this
   refine OkP.keeps (tk:=s.toks) hr k' ?_;simp only[VR];exact⟨_,xs,rfl,⟨zat hr hn,zao hr hn⟩,⟨_,Heap.get?_push_size _ rfl,rfl,0,rfl⟩,hz,hv.keeps k'⟩
  ·refine .inr (call_tuple_same hl (OkP.here hr ?_))
   cases a with
   |tup ws=>simp only[items,Option.some.injEq] at hi;subst hi;exact ha
   |lst ws =>
    simp only[VR] at ha;obtain⟨_,_,q,_,⟨o,ho,hc,_⟩,_⟩:=ha
    cases q
    obtain⟨o',ho',hc',_⟩:=hl;rw[ho] at ho';cases ho';rw[hc] at hc';exact absurd hc' (by decide)
   |ref i =>
    obtain⟨l',xs',q,⟨o,ho,hc,_⟩,_⟩:=zbc hr ha (vs:=vs) hi
    cases q
    obtain⟨o',ho',hc',_⟩:=hl;rw[ho] at ho';cases ho';rw[hc] at hc';exact absurd hc' (by decide)
   |_=>simp[items] at hi
theorem zpO {a:V}{x:Value}(hr:HR am stack π Hc s.heap) (ha:VR am π s.heap a x) :
  JAt am stack A (call (.type "int") [x]) (R.opt (bf .int Hc a) Hc) (VR am) π s:=by
 unfold bf
 cases a with
 |bool b=>simp only[VR] at ha;subst ha;exact .inr (call_int_bool (OkP.tok hr ⟨_,rfl⟩))
 |_=>exact .inl rfl
theorem zeS:∀ {vs:List V}{bs:List Bool},zb2 vs=some bs→vs=bs.map V.bool
 |[],bs,h=>by simp only[zb2,Option.some.injEq] at h;subst h;rfl
 |v::vs,bs,h=>by
  cases v<;>simp only[zb2] at h<;>try cases h
  simp only[Option.map_eq_some_iff] at h;obtain⟨r,h1,rfl⟩:=h;rw[List.map_cons,← zeS h1]
theorem zho:∀ {bs:List Bool}{xs:List Value},VRs am π s.heap (bs.map V.bool) xs→xs=bs.map Value.bool
 |[],xs,h=>by simpa [VRs] using h
 |b::bs,xs,h=>by
  simp only[List.map_cons,VRs] at h;obtain⟨x,xs',rfl,h1,h2⟩:=h;simp only[VR] at h1;rw[h1,zho h2];rfl
theorem zke (bs:List Bool):(List.range bs.length).all (fun i=>bs.getD i false)=bs.all id:=by
 induction bs with
 |nil=>rfl
 |cons b bs ih=>simp only[List.length_cons,List.range_succ_eq_map,List.all_cons,List.all_map];rw[←ih];rfl
theorem zi1 {l:Addr}{bs:List Bool}{P:Value→Shared→Prop}{E:Value→Shared→Prop}(hh:A.handled=none) (hl:s.heap.IsList l (List.toArray (bs.map Value.bool)))
  (hP:∀ I fp wr n Pr St tr,n=bs.length→tr=(fun i=>bs.getD i false)→Walks am.prog am.w A I fp wr n Pr St→(∀ s₂,s₂={ s with heap:=s.heap.push { cls:=.type "list_iterator",data:=.fields #[.ref l,.int 0 0] } }→St 0 s₂.heap)→TruthOf am.prog am.w A Pr tr→wr=[s.heap.objs.size]→I=s.heap.objs.size →
   P (.ref I) { s with heap:=s.heap.push { cls:=.type "list_iterator",data:=.fields #[.ref l,.int 0 0] } }) :
  wpAny am.M A (pyIter (.ref l)) P E s:=by
 refine wpAny_pyIter_list hl ?_;obtain⟨o,ho,_⟩:=id hl;have hne:l≠s.heap.objs.size:=Nat.ne_of_lt (Heap.lt_size ho);have W:=Walks.list (prog:=am.prog) (w:=am.w) hh s.heap.objs.size l hne (List.toArray (bs.map Value.bool));refine hP _ _ _ _ _ _ _ (by simp) rfl W ?_ ?_ rfl rfl
 ·rintro s₂ rfl
  exact⟨⟨_,Heap.get?_push_size _ rfl,rfl,rfl⟩,hl.push _⟩
 ·intro i v s' Q' E' hv hq
  simp only[List.getElem?_toArray,List.getElem?_map,Option.map_eq_some_iff] at hv;obtain⟨b,hb,rfl⟩:=hv;refine wpAny_truthy_bool ?_;have:bs.getD i false=b:=by rw[List.getD_eq_getElem?_getD,hb];rfl
  rw[←this];exact hq
theorem zpS {a:V}{x:Value}(hh:A.handled=none) (hr:HR am stack π Hc s.heap) (ha:VR am π s.heap a x) :
  JAt am stack A (call (.builtin "all") [x]) (R.opt (bf .all Hc a) Hc) (VR am) π s:=by
 unfold bf
 cases hi:litems Hc a with
 |none=>exact .inl rfl
 |some vs =>
  cases hb:zb2 vs with
  |none=>exact .inl (by simp only[Option.bind_some,hb];rfl)
  |some bs =>
   simp only[Option.bind_some,hb,Option.map_some,R.opt_some];obtain⟨l,xs,rfl,hl,hz,hv⟩:=zbc hr ha hi;rw[zeS hb] at hv;rw[zho hv] at hl;refine .inr (call_all_walk (zi1 (A:=A.in1) hh hl fun I fp wr n Pr St tr e1 e2 W hst htr hwr hI=>⟨I,fp,wr,n,Pr,St,tr,rfl,W,hst _ rfl,htr,fun h' tk k=>?_⟩));subst e1 e2 hwr;rw[zke];exact OkP.keeps (h':=h') (tk:=tk) hr (fun b o e=>k b o (by simp only[List.mem_singleton];exact Nat.ne_of_lt (Heap.lt_size e)) (Heap.get?_push_of_some _ e)) rfl
end
set_option maxRecDepth 100000
section
variable {prog:Program}{w:World}{A:Around}{E:Value→Shared→Prop}{s:Shared}
end
section
variable {am:Amb}{stack:List Env}{A:Around}{π:List Addr}{s:Shared}{Hc:H}
end
set_option maxRecDepth 100000
theorem zg1 (K:Frag):kitOne K (.type "NoneType") (.type "int")=some false:=by kernel_rfl
theorem zga (K:Frag):kitOne K (.type "NoneType") (.type "bool")=some false:=by kernel_rfl
theorem zf9 (K:Frag):kitOne K (.type "NoneType") (.type "list")=some false:=by kernel_rfl
theorem zfb (K:Frag):kitOne K (.type "NoneType") (.type "tuple")=some false:=by kernel_rfl
theorem zg8 (K:Frag):kitOne K (.type "bool") (.type "int")=some true:=by kernel_rfl
theorem zgh (K:Frag):kitOne K (.type "bool") (.type "bool")=some true:=by kernel_rfl
theorem zgg (K:Frag):kitOne K (.type "bool") (.type "list")=some false:=by kernel_rfl
theorem zfe (K:Frag):kitOne K (.type "bool") (.type "tuple")=some false:=by kernel_rfl
theorem zhV (K:Frag):kitOne K (.type "int") (.type "int")=some true:=by kernel_rfl
theorem zg5 (K:Frag):kitOne K (.type "int") (.type "bool")=some false:=by kernel_rfl
theorem zg4 (K:Frag):kitOne K (.type "int") (.type "list")=some false:=by kernel_rfl
theorem zgd (K:Frag):kitOne K (.type "int") (.type "tuple")=some false:=by kernel_rfl
theorem zhU (K:Frag):kitOne K (.type "str") (.type "int")=some false:=by kernel_rfl
theorem zg0 (K:Frag):kitOne K (.type "str") (.type "bool")=some false:=by kernel_rfl
theorem zgZ (K:Frag):kitOne K (.type "str") (.type "list")=some false:=by kernel_rfl
theorem zf8 (K:Frag):kitOne K (.type "str") (.type "tuple")=some false:=by kernel_rfl
theorem zf7 (K:Frag):kitOne K (.type "tuple") (.type "int")=some false:=by kernel_rfl
theorem zfa (K:Frag):kitOne K (.type "tuple") (.type "bool")=some false:=by kernel_rfl
theorem ze9 (K:Frag):kitOne K (.type "tuple") (.type "list")=some false:=by kernel_rfl
theorem zeG (K:Frag):kitOne K (.type "tuple") (.type "tuple")=some true:=by kernel_rfl
theorem zg2 (K:Frag):kitOne K (.type "list") (.type "int")=some false:=by kernel_rfl
theorem zgc (K:Frag):kitOne K (.type "list") (.type "bool")=some false:=by kernel_rfl
theorem zgb (K:Frag):kitOne K (.type "list") (.type "list")=some true:=by kernel_rfl
theorem zfc (K:Frag):kitOne K (.type "list") (.type "tuple")=some false:=by kernel_rfl
theorem zg6 (K:Frag):kitOne K (.type "dict") (.type "int")=some false:=by kernel_rfl
theorem zgf (K:Frag):kitOne K (.type "dict") (.type "bool")=some false:=by kernel_rfl
theorem zge (K:Frag):kitOne K (.type "dict") (.type "list")=some false:=by kernel_rfl
theorem zfd (K:Frag):kitOne K (.type "dict") (.type "tuple")=some false:=by kernel_rfl
noncomputable def tyVal:Ty→Value
 |.int=>.type "int"|.bool=>.type "bool"|.list=>.type "list"|.tuple=>.type "tuple"|.valueError=>.type "ValueError"
 |.own _=>.none
noncomputable def Ty.plain (t:Ty):Bool:=t.casesOn true true true true false fun z_=>false
noncomputable def kindC:Option Cell→Option String
 |some (.list _)=>some "list"
 |some (.dict _)=>some "dict"
 |none=>Option.none
noncomputable def kindOf (Hc:H):V→Option String
 |.none=>some "NoneType"
 |.bool _=>some "bool"
 |.int _=>some "int"
 |.str _=>some "str"
 |.tup _=>some "tuple"
 |.lst _=>some "list"
 |.dct=>some "dict"
 |.ref i=>kindC Hc[i]?
 |_=>Option.none
theorem zgp {Hc:H}{i:Nat}{o:Option Cell}(hc:Hc[i]?=o) (t:Ty):isTy Hc (.ref i) t=refTy o t:=congrArg (fun o=>refTy o t) hc
theorem zcy {Hc:H}{i:Nat}{o:Option Cell}(hc:Hc[i]?=o):kindOf Hc (.ref i)=kindC o:=congrArg kindC hc
theorem zg3 (K:Frag){t:Ty}(ht:t.plain=true):∃ b,some (t == .list)=some b∧kitOne K (.type "list") (tyVal t)=some b:=by
 cases t<;>first|exact⟨_,rfl,zg2 K⟩|exact⟨_,rfl,zgc K⟩|exact⟨_,rfl,zgb K⟩|exact⟨_,rfl,zfc K⟩|cases ht
theorem zg7 (K:Frag){t:Ty}(ht:t.plain=true):∃ b,some false=some b∧kitOne K (.type "dict") (tyVal t)=some b:=by
 cases t<;>first|exact⟨_,rfl,zg6 K⟩|exact⟨_,rfl,zgf K⟩|exact⟨_,rfl,zge K⟩|exact⟨_,rfl,zfd K⟩|cases ht
theorem zkK (K:Frag){Hc:H}{a:V}{k:String}{t:Ty}(hk:kindOf Hc a=some k) (ht:t.plain=true):∃ b,isTy Hc a t=some b∧kitOne K (.type k) (tyVal t)=some b:=by
 cases a with
 |undef=>cases hk
 |exc c=>cases hk
 |none=>cases hk;cases t<;>first|exact⟨_,rfl,zg1 K⟩|exact⟨_,rfl,zga K⟩|exact⟨_,rfl,zf9 K⟩|exact⟨_,rfl,zfb K⟩|cases ht
 |bool b=>cases hk;cases t<;>first|exact⟨_,rfl,zg8 K⟩|exact⟨_,rfl,zgh K⟩|exact⟨_,rfl,zgg K⟩|exact⟨_,rfl,zfe K⟩|cases ht
 |int i=>cases hk;cases t<;>first|exact⟨_,rfl,zhV K⟩|exact⟨_,rfl,zg5 K⟩|exact⟨_,rfl,zg4 K⟩|exact⟨_,rfl,zgd K⟩|cases ht
 |str x=>cases hk;cases t<;>first|exact⟨_,rfl,zhU K⟩|exact⟨_,rfl,zg0 K⟩|exact⟨_,rfl,zgZ K⟩|exact⟨_,rfl,zf8 K⟩|cases ht
 |tup vs=>cases hk;cases t<;>first|exact⟨_,rfl,zf7 K⟩|exact⟨_,rfl,zfa K⟩|exact⟨_,rfl,ze9 K⟩|exact⟨_,rfl,zeG K⟩|cases ht
 |lst vs=>cases hk;exact zg3 K ht
 |dct=>cases hk;exact zg7 K ht
 |ref i =>
  cases hc:Hc[i]? with
  |none=>rw[zcy hc] at hk;cases hk
  |some c =>
   cases c with
   |list vs=>rw[zcy hc] at hk;cases hk;rw[zgp hc];exact zg3 K ht
   |dict es=>rw[zcy hc] at hk;cases hk;rw[zgp hc];exact zg7 K ht
section
variable {am:Amb}{stack:List Env}{A:Around}{π:List Addr}{s:Shared}{Hc:H}
set_option tactic.hygienic true in
theorem zkJ {a:V}{x:Value}(hr:HR am stack π Hc s.heap) (ha:VR am π s.heap a x) (hne:kindOf Hc a≠Option.none):∃ k P,kindOf Hc a=some k∧KitX am.K x (.type k) P∧P s.heap∧x≠.builtin "__main__.__loader__#opaque":=by
 cases a<;>simp only[VR] at ha<;>try (exact ha.elim)
 ·subst ha;exact⟨_,_,rfl,kitx_none,trivial,by simp⟩
 ·subst ha;exact⟨_,_,rfl,kitx_bool,trivial,by simp⟩
 ·obtain⟨t,rfl⟩:=ha;exact⟨_,_,rfl,kitx_int,trivial,by simp⟩
 ·obtain⟨t,rfl⟩:=ha;exact⟨_,_,rfl,kitx_str,trivial,by simp⟩
 ·obtain⟨l,xs,rfl,_,⟨o,ho,hc,_⟩,_⟩:=ha;exact⟨_,_,rfl,kitx_tuple,⟨o,ho,hc⟩,by simp⟩
 ·obtain⟨l,xs,rfl,_,⟨o,ho,hc,_⟩,_⟩:=ha;exact⟨_,_,rfl,kitx_list,⟨o,ho,hc⟩,by simp⟩
 ·rename_i i
  obtain⟨l,rfl,hl⟩:=ha
  cases hc:Hc[i]? with
  |none=>exact absurd (zcy hc) hne
  |some c =>
   cases c with
   |list vs =>
    refine hold fun z_ k_=>?_;obtain⟨xs,⟨o,n,ho,hcl,_⟩,_⟩:=(hr.cell i _ l hc hl).list;refine k_ ?_;exact⟨"list",_,zcy hc,kitx_list,⟨o,ho,hcl⟩,by simp⟩
   |dict es =>
    obtain⟨o,xs,ho,⟨_,arr,ep,hcl,_⟩,_⟩:=hr.cell i _ l hc hl;exact⟨"dict",_,zcy hc,kitx_dict,⟨o,ho,hcl⟩,by simp⟩
 ·obtain⟨l,o,es,ep,rfl,_,ho,hc,_⟩:=ha;exact⟨_,_,rfl,kitx_dict,⟨o,ho,hc⟩,by simp⟩
theorem zhb {a:V}{t:Ty}{b:Bool}(h:isTy Hc a t=some b):kindOf Hc a≠Option.none:=by
 cases a with
 |undef=>cases h
 |exc c=>cases h
 |ref i =>
  cases hc:Hc[i]? with
  |none=>rw[zgp hc] at h;cases h
  |some c=>rw[zcy hc];cases c<;>exact fun q=>nomatch q
 |_=>exact fun q=>nomatch q
theorem zpM {a:V}{x:Value}{t:Ty}(hK:Frag.In am.K am.B) (hr:HR am stack π Hc s.heap) (ha:VR am π s.heap a x) (ht:t.plain=true) :
  JAt am stack A (call (.builtin "isinstance") [x,tyVal t]) (R.opt ((isTys Hc a [t]).map V.bool) Hc) (VR am) π s:=by
 cases hb:isTy Hc a t with
 |none=>exact .inl (by simp only[isTys,hb];rfl)
 |some b =>
  refine hold fun z_ k_=>?_;obtain⟨k,P,hk,Z,p,hx⟩:=zkJ hr ha (zhb hb);refine k_ ?_;obtain⟨b',h1,h2⟩:=zkK am.K hk ht;rw[hb] at h1;cases h1
  have e:isTys Hc a [t]=some b:=by simp only[isTys,hb];cases b<;>rfl
  rw[e];exact .inr (kia_one Z (hK.keeps hr.base) p h2 hx fun tk=>OkP.tok hr rfl)
theorem zoq {a:V}{x:Value}{ts:List Ty}{tp:Addr}{n:Nat}{dd:Option Addr}{sl:Array (Option Value)}(hK:Frag.In am.K am.B) (hr:HR am stack π Hc s.heap) (ha:VR am π s.heap a x) (ht:ts.all Ty.plain=true) (hts:ts≠[]) (htp:s.heap.get? tp=some ⟨.type "tuple",dd,.seq (List.toArray (ts.map tyVal)) n,sl⟩) :
  JAt am stack A (call (.builtin "isinstance") [x,.ref tp]) (R.opt ((isTys Hc a ts).map V.bool) Hc) (VR am) π s:=by
 cases hb:isTys Hc a ts with
 |none=>exact .inl rfl
 |some b =>
  by_cases hne:kindOf Hc a=Option.none
  ·cases ts with
   |nil=>exact absurd rfl hts
   |cons t ts =>
    simp only[isTys] at hb
    cases hq:isTy Hc a t with
    |none=>simp[hq] at hb
    |some b'=>exact absurd hne (zhb hq)
  ·refine hold fun z_ k_=>?_
   obtain⟨k,P,hk,Z,p,hx⟩:=zkJ hr ha hne;refine k_ ?_;have key:∀ ts:List Ty,ts.all Ty.plain=true→∀ b,isTys Hc a ts=some b→kitAny am.K (.type k) (ts.map tyVal)=some b:=by
    intro ts
    induction ts with
    |nil=>intro _ b h;simpa [isTys,kitAny] using h
    |cons t ts ih =>
     intro ht b h;simp only[List.all_cons,Bool.and_eq_true] at ht;obtain⟨b',h1,h2⟩:=zkK am.K hk ht.1;simp only[isTys,h1] at h;simp only[List.map_cons,kitAny,h2]
     cases b' with
     |true=>exact h
     |false=>exact ih ht.2 b h
   exact .inr (kia_tup Z (hK.keeps hr.base) p htp (key ts ht b hb) hx fun tk=>OkP.tok hr rfl)
theorem ziT (n:Nat) (i:Int):clipAt n i=cut n i:=by
 unfold clipAt cut
 by_cases hi:i < 0
 ·have le:i+n≤n:=by
   have:=Int.add_le_add_right (Int.le_of_lt hi) (n:Int)
   rwa [Int.zero_add] at this
  rw[if_pos hi,if_pos hi,Int.min_eq_left le]
  rcases Int.le_total 0 (i+n) with h|h
  ·rw[Int.max_eq_right h]
  ·rw[Int.max_eq_left h];exact(Int.toNat_of_nonpos h).symm
 ·rw[if_neg hi,if_neg hi]
  obtain⟨k,rfl⟩:=Int.eq_ofNat_of_zero_le (Int.not_lt.1 hi)
  rcases Nat.le_total k n with h|h
  ·rw[Int.min_eq_left (Int.ofNat_le.2 h),Int.max_eq_right (Int.natCast_nonneg k),Int.toNat_natCast,Nat.min_eq_left h]
  ·rw[Int.min_eq_right (Int.ofNat_le.2 h),Int.max_eq_right (Int.natCast_nonneg n),Int.toNat_natCast,Int.toNat_natCast,Nat.min_eq_right h]
theorem zi5 (xs:List Value) (lo hi:Option Int):slicePick (List.toArray xs) lo hi none=List.toArray (slc xs lo hi):=by
 rw[slicePick_plain];unfold slc;simp only[List.size_toArray];have e1:(lo.elim 0 (clipAt xs.length))=(match lo with|some i=>cut xs.length i|none=>0):=by cases lo<;>simp[ziT]
 have e2:(hi.elim xs.length (clipAt xs.length))=(match hi with|some i=>cut xs.length i|none=>xs.length):=by cases hi<;>simp[ziT]
 rw[e1,e2]
 congr 1
 first|(rw[List.drop_take];done)|(rw[List.drop_take];rfl)
theorem VRs.slc {vs:List V}{xs:List Value}{h:Heap}(lo hi:Option Int) (e:VRs am π h vs xs):VRs am π h (Mine.slc vs lo hi) (Mine.slc xs lo hi):=by
 unfold Mine.slc;rw[e.len];exact(e.take _).drop _
theorem znZ {α:Type}(xs:List α) (lo hi:Option Int):(slc xs lo hi).length≤xs.length:=by
 unfold slc;rw[List.length_drop,List.length_take];exact Nat.le_trans (Nat.sub_le ..) (Nat.min_le_right ..)
noncomputable def PartR:Option V→Option Int→Value→Prop
 |none,lo,x=>lo=none∧x=.none
 |some v,lo,x=>∃ i t,v=.int i∧lo=some i∧x=.int i t
theorem PartR.is {v:Option V}{lo:Option Int}{x:Value}(h:PartR v lo x):IsPart x lo:=by
 cases v with
 |none=>obtain⟨rfl,rfl⟩:=h;exact .none
 |some v=>obtain⟨i,t,_,rfl,rfl⟩:=h;exact .int i t
theorem zlB {value slice:Expr}{a:V}{x:Value}{vs:List V}{lo hi:Option Int}{vl vu:Value}{Q:Value→Shared→Prop}{E:Value→Shared→Prop}(hr:HR am stack π Hc s.heap) (ha:VR am π s.heap a x) (hi':litems Hc a=some vs) (pl:IsPart vl lo) (pu:IsPart vu hi)
  (h:∀ y s1 s',Step (Fs stack) π s π s1→HR am stack π Hc s1.heap→(slc vs lo hi).length≤1000000→NewL am π s1 (slc vs lo hi) y s'→Q y s') :
  wpAny am.M A (newFields "slice" [vl,vu,.none]) (fun i s₁=>wpAny am.M A (subscriptTail value slice x i) Q E s₁) E s:=by
 refine hold fun z_ k_=>?_;obtain⟨l,xs,rfl,hl,hz,hv⟩:=zbc hr ha hi';refine k_ ?_;have e:=hv.len;unfold newFields;refine wpAny_newObj_type ?_;have k:∀ b o,s.heap.get? b=some o→(s.heap.push { cls:=.type "slice",data:=.fields #[vl,vu,.none] }).get? b=some o:=fun b o q=>Heap.get?_push_of_some _ q;refine zdh (s:={ s with heap:=s.heap.push { cls:=.type "slice",data:=.fields #[vl,vu,.none] } }) (hl.push _).typeIs list_getitem_lookup
  (wpAny_getItem_list_slice (hl.push _) (Heap.IsSliceOf.new ..) pl pu .none (by simp) ?_ (by rw[List.size_toArray,e];exact zbi hz))
 rw[zi5];have n:=NewL.push (am:=am) (π:=π) (s:={ s with heap:=s.heap.push { cls:=.type "slice",data:=.fields #[vl,vu,.none] } }) (o:={ cls:=.type "list",data:=.seq (List.toArray (slc xs lo hi)) }) (n:=0) (tk:=s.toks) ((hv.slc lo hi).keeps k) rfl rfl rfl
 exact h _ _ _ (Step.keeps (tk:=s.toks) k) (hr.keeps k) (Nat.le_trans (znZ _ _ _) hz) n
end
end Mine
namespace Mine
open PySem PySem.W
noncomputable def Amb.at (am:Amb) (res:List Addr):Amb:={ am with res:=res }
noncomputable def btOk:Value→Bool
 |.builtin _=>true
 |.type _=>true
 |_=>false
theorem zqz:bTab.all (fun p=>btOk p.2)=true:=by kernel_rfl
theorem zmV {v:Value}(h:btOk v=true):(∃ id,v=.builtin id)∨∃ T,v=.type T:=by
 cases v<;>first|exact .inl ⟨_,rfl⟩|exact .inr ⟨_,rfl⟩|exact noB h
theorem zo7 {x:Str}{v:Value}(h:(x,v)∈bTab):(∃ id,v=.builtin id)∨∃ T,v=.type T:=zmV (List.all_eq_true.mp zqz _ h)
theorem zdW {x:Str}{v:Value}(h:bTab.contains (x,v)=true):(x,v)∈bTab:=List.contains_iff_mem.mp h
structure ExcCls (am:Amb) (c:String) (C:Addr):Prop where
 name:am.mg (Str.ofString c)=some (.ref C)
 get:findIn am.K (.ref C) "__getattribute__"=some (some (.builtin "BaseException.__getattribute__"))∧findIn am.K (.ref C) "__getattr__"=some none
 cls:(clsIn am.K C).isSome=true
 find:findIn am.K (.ref C) "__class__"=some (some (.builtin "object.__class__"))
 spec:specialIn am.K (.builtin "object.__class__") "__get__"=some (some (.builtin "getset_descriptor.__get__"))
 takes:takesIn am.K (.builtin "object.__class__")=some true
 mro:mroIn am.K C (.type "object")=some true
 val:kitOne am.K (.ref C) (.type "ValueError")=some true
noncomputable def zdK (B:Heap) (C:Addr):Prop:=∃ nm q N bs bm hdct sn sub ab col dd k0 k1 k2 k3 k5 mN,
 B.get? C=some (excClassObj nm q C N bs bm hdct sn sub ab col dd k0 k1 k2 k3 k5 "ValueError.__new__")∧B.Ns N mN∧(∀ n∈quietNames,mN n=none) ∧
  OwnTailQ B [.type "ValueError",.type "Exception",.type "BaseException",.type "object"] bm
structure AmbX (am:Amb):Prop extends AmbOK am where
 K:Frag.In am.K am.B
 bt:∀ p∈bTab,am.mg p.1=none∧am.mb p.1=some p.2
 exc:∀ c∈zag,∃ C,ExcCls am c C
 sub:∀ c∈zag,∀ d∈zag,∀ C D,am.mg (Str.ofString c)=some (.ref C)→am.mg (Str.ofString d)=some (.ref D)→kitOne am.K (.ref C) (.ref D)=some (c == d||d == "RingError")
 exm:∀ c∈zag,∀ C D,am.mg (Str.ofString c)=some (.ref C)→am.mg (Str.ofString "RingError")=some (.ref D)→exmOne am.K (.ref C) (.ref D)=some true
 rs:∀ c∈zag,∀ C,am.mg (Str.ofString c)=some (.ref C)→zdK am.B C
theorem AmbX.at {am:Amb}(x:AmbX am) (res:List Addr):AmbX (am.at res):=⟨⟨x.g,x.b,x.nolimit,x.noseer,x.tree⟩,x.K,x.bt,fun c hc=>let ⟨C,e⟩:=x.exc c hc;⟨C,e.name,e.get,e.cls,e.find,e.spec,e.takes,e.mro,e.val⟩,x.sub,x.exm,x.rs⟩
noncomputable def FunAt (am:Amb) (f:String) (a:Addr):Prop:=am.mg (Str.ofString f)=some (.ref a)∧∃ o fd,am.B.get? a=some o∧o.data=.func fd
structure CkR (am:Amb) (c:Ck) (cx:Cx):Prop where
 ctx:cx.ctx=c.ctx
 names:cx.env.scope.names=c.names
 fns:∀ f∈c.fns,∃ a,FunAt am f a
 nums:∀ p∈c.nums,∃ t,am.mg (Str.ofString p.1)=some (.int p.2 t)
noncomputable def ArgR (am:Amb) (q:Bool) (π:List Addr) (h:Heap) (vs:List V) (xs:List Value):Prop :=
 VRs am π h vs xs∨(q=false∧∃ c a,vs=[.exc c]∧xs=[.ref a]∧a ∉ π∧ExcAt am h c a)
structure FnOK (am:Amb) (n:Nat) (F:Fn):Prop where
 call:∀ res q f a vs xs stack A π Hc s,FunAt am f a→AS n stack A→HR (am.at res) stack π Hc s.heap→Hd q A π (Fs stack) s.heap→ArgR (am.at res) q π s.heap vs xs →
  JAt (am.at res) stack A (PySem.call (.ref a) xs []) (F q f vs Hc) (VR (am.at res)) π s
structure Base (am:Amb) (n:Nat) (q:Bool) (F:Fn) (c:Ck) (cx:Cx) (ρ:List V) (A:Around):Prop where
 ok:AmbX am
 fn:FnOK am n F
 ck:CkR am c cx
 cxk:CxOK cx
 as:AS n cx.stack A
 ne:q=true→NoExc ρ
section
variable {am:Amb}{n:Nat}{q:Bool}{F:Fn}{c:Ck}{cx:Cx}{ρ:List V}{A:Around}{res π:List Addr}{Hc:H}{s:Shared}
theorem zdl {B h:Heap}(k:B.StaysIn h){a:Addr}{m:Str→Option Value}(hn:B.Ns a m):h.Ns a m:=let ⟨o,es,ep,ho,r⟩:=hn;⟨o,es,ep,k a o ho,r⟩
theorem HR.gns {am:Amb}{stack:List Env}(ok:AmbX am) (hr:HR (am.at res) stack π Hc s.heap):s.heap.Ns mainGlobals am.mg:=zdl hr.base ok.g
theorem HR.bns {am:Amb}{stack:List Env}(ok:AmbX am) (hr:HR (am.at res) stack π Hc s.heap):s.heap.Ns builtinsNs am.mb:=zdl hr.base ok.b
theorem zeH (b:CkR am c cx) (x:Str):cx.env.kindOf x=c.names.lookup x:=by unfold Env.kindOf;rw[b.names]
theorem zdu (b:Base am n q F c cx ρ A) (hr:HR (am.at res) cx.stack π Hc s.heap){x:Str}{p:Pos}{v:Value}{Q:Value→Shared→Prop}{E:Value→Shared→Prop}(hx:c.glob x=true) (hv:am.mg x=some v) (h:Q v s) :
  wpAny am.M A (eval (.Name x p) cx.env) Q E s:=by
 unfold Ck.glob at hx;simp only[Bool.and_eq_true,beq_iff_eq,Bool.not_eq_true'] at hx;refine Calls.Name_function_global b.cxk.kind (by rw[zeH b.ck];exact hx.1) (Calls.loadGlobal_global (mg:=am.mg) ?_ hv h) hx.2
 rw[b.cxk.globals];exact HR.gns b.ok hr
theorem znI (b:Base am n q F c cx ρ A) (hr:HR (am.at res) cx.stack π Hc s.heap){x:Str}{p:Pos}{v:Value}{Q:Value→Shared→Prop}{E:Value→Shared→Prop}(hx:c.glob x=true) (hv:(x,v)∈bTab) (h:Q v s) :
  wpAny am.M A (eval (.Name x p) cx.env) Q E s:=by
 unfold Ck.glob at hx;simp only[Bool.and_eq_true,beq_iff_eq,Bool.not_eq_true'] at hx;obtain⟨h1,h2⟩:=b.ok.bt _ hv;refine Calls.Name_function_global b.cxk.kind (by rw[zeH b.ck];exact hx.1) (Calls.loadGlobal_builtin (mg:=am.mg) (mb:=am.mb) ?_ h1 ?_ h2 h) hx.2
 ·rw[b.cxk.globals];exact HR.gns b.ok hr
 ·rw[b.cxk.builtins];exact HR.bns b.ok hr
theorem zjD (b:Base am n q F c cx ρ A) (st:St (am.at res) q cx ρ π Hc A s){x:Str}{i:Nat}{p:Pos}{v:V}{Q:Value→Shared→Prop}{E:Value→Shared→Prop}(hx:c.var x i=true) (hv:ρ[i]?=some v) (hu:v≠.undef)
  (h:∀ v',SR (am.at res) π s.heap v v'→Q v' s):wpAny am.M A (eval (.Name x p) cx.env) Q E s:=by
 unfold Ck.var at hx;simp only[Bool.and_eq_true,beq_iff_eq,Bool.not_eq_true'] at hx;refine hold fun z_ k_=>?_;obtain⟨⟨⟨h1,h2⟩,h3⟩,h4⟩:=hx;refine k_ ?_;have hvis:Vis cx.env x:=by
  unfold Vis;rw[zeH b.ck];unfold zhu at h2;simp only[Bool.or_eq_true,beq_iff_eq] at h2
  rcases h2 with(h2|h2)|h2<;>simp[h2]
 obtain⟨v',h5,h6⟩:=st.er.var x i v (by rw[b.ck.ctx];exact h1) hv hu hvis
 refine wpAny_Name ?_ h3
 rcases h5 with⟨k,m,h7,h8⟩|⟨k,cc,h7,h8⟩
 ·exact wpAny_loadName_local b.cxk.kind k h7 h8 (h v' h6)
 ·rcases k with k|k
  ·exact wpAny_loadName_cell b.cxk.kind k h7 h8 (h v' h6)
  ·exact wpAny_loadName_free b.cxk.kind k h7 h8 (h v' h6) h4
theorem zqj (b:Base am n q F c cx ρ A) (st:St (am.at res) q cx ρ π Hc A s){x:Str}{i:Nat}{p:Pos}(hx:c.var x i=true) :
  JAt (am.at res) cx.stack A (eval (.Name x p) cx.env) (evE q F ρ (.var i) Hc) (VR (am.at res)) π s:=by
 simp only[zcd,zcc,zb7,zb6,zb5,zb4,zbF,zcb,zb3,za1,zaK,za0,zal,zaS,zaw,zaJ,zaZ,zar,zaz,zaI,zaH,zaY,zaX,zaR,zaW,zaG,zaq,zaF,zaV,zaE,zaU,zaQ,zaP,qE_34,zaD,zaC,zaO,zaB]
 cases hv:ρ[i]? with
 |none=>exact .inl rfl
 |some v =>
  have go:(∀ c,v≠.exc c)→v≠.undef→JAt (am.at res) cx.stack A (eval (.Name x p) cx.env) (.ok v Hc) (VR (am.at res)) π s :=
   fun h1 h2=>.inr (zjD b st hx hv h2 fun v' h=>OkP.here st.hr (h.vr h1))
  cases v with
  |undef=>exact .inl rfl
  |exc c=>exact .inl rfl
  |_=>exact go (by simp) (by simp)
noncomputable def tr (r:R V):R Bool:=r.bind fun x h=>match truthy x with
 |some b=>.ok b h
 |none=>.bad
noncomputable def BR (_:List Addr) (_:Heap) (b:Bool) (a:Bool):Prop:=b=a
theorem zed {am:Amb}{stack:List Env}{x:Value}{v:V}(hr:HR am stack π Hc s.heap) (hv:VR am π s.heap v x) :
  JAt am stack A (PySem.truthy x) ((match truthy v with|some b=>R.ok b Hc|none=>R.bad)) BR π s:=by
 cases v with
 |bool b=>simp only[VR] at hv;subst hv;exact .inr (wpAny_truthy_bool (OkP.here hr rfl))
 |_=>exact .inl rfl
theorem zeR {α:Type}(r:R α) (f:α→H→R V):tr (r.bind f)=r.bind fun a h=>tr (f a h):=by cases r<;>rfl
theorem zjX {α:Type}(r:R V) (f:Bool→H→R α):(tr r).bind f=r.bind fun x h=>match truthy x with
 |some b=>f b h
 |none=>.bad:=by
 cases r with
 |ok v h=>simp only[tr,R.bind];cases truthy v<;>rfl
 |_=>rfl
end
end Mine
namespace Mine
open PySem PySem.W PyProof.Rows
section
variable {am:Amb}{stack:List Env}{A:Around}{α β γ δ:Type}{Rel:List Addr→Heap→β→α→Prop}{Rel':List Addr→Heap→δ→γ→Prop}{π:List Addr}{s:Shared}
theorem JAt.seqP {m:Sem α}{t:Sem γ}{f:α→Sem γ}{r:R β}{g:β→H→R δ}{P:α→Shared→Prop}
  (K:∀ (Q:γ→Shared→Prop) (E:Value→Shared→Prop),wpAny am.M A m (fun a s₁=>P a s₁∧wpAny am.M A (f a) Q E s₁) E s→wpAny am.M A t Q E s) (h1:JAt am stack A m r Rel π s)
  (h2:∀ a b H' π' s',r=.ok b H'→Step (Fs stack) π s π' s'→HR am stack π' H' s'.heap→Rel π' s'.heap b a→P a s'∧JAt am stack A (f a) (g b H') Rel' π' s') :
  JAt am stack A t (r.bind g) Rel' π s:=by
 rcases h1 with rfl|h1
 ·exact .inl rfl
 ·cases r with
  |bad=>exact .inl rfl
  |err c H' =>
   refine .inr (K _ _ (wpAny_mono h1 (fun a s' h=>?_) fun e s' h=>?_))
   ·obtain⟨_,_,_,h,_⟩:=h;cases h
   ·refine hold fun z_ k_=>?_
    obtain⟨c',H'',π',e',C,fl,h,r2,r3,r4,r5,r6⟩:=h;refine k_ ?_
    cases h
    exact⟨c,H',π',e',C,fl,rfl,r2,r3,r4,r5,r6⟩
  |ok b H' =>
   by_cases hb:g b H'=.bad
   ·exact .inl hb
   ·refine .inr (K _ _ (wpAny_mono h1 (fun a s' h=>?_) fun e s' h=>?_))
    ·refine hold fun z_ k_=>?_
     obtain⟨b',H'',π',h,h3,h4,h5⟩:=h;refine k_ ?_
     cases h
     obtain⟨hp,h2⟩:=h2 a b H' π' s' rfl h3 h4 h5
     rcases h2 with h6|h6
     ·exact absurd h6 hb
     ·exact⟨hp,wpAny_mono h6 (fun z_ z_ y=>OkP.step h3 y) fun z_ z_ y=>ErP.step h3 y⟩
    ·obtain⟨_,_,_,_,_,_,h,_⟩:=h;cases h
theorem JAt.seq {m:Sem α}{t:Sem γ}{f:α→Sem γ}{r:R β}{g:β→H→R δ}
  (K:∀ (Q:γ→Shared→Prop) (E:Value→Shared→Prop),wpAny am.M A m (fun a s₁=>wpAny am.M A (f a) Q E s₁) E s→wpAny am.M A t Q E s) (h1:JAt am stack A m r Rel π s)
  (h2:∀ a b H' π' s',r=.ok b H'→Step (Fs stack) π s π' s'→HR am stack π' H' s'.heap→Rel π' s'.heap b a→JAt am stack A (f a) (g b H') Rel' π' s') :
  JAt am stack A t (r.bind g) Rel' π s :=
 JAt.seqP (P:=fun z_ z_=>True) (fun Q E h=>K Q E (wpAny_mono h (fun z_ z_ x=>x.2) fun z_ z_ x=>x)) h1 fun a b H' π' s' e1 e2 e3 e4=>⟨trivial,h2 a b H' π' s' e1 e2 e3 e4⟩
end
section
variable (am:Amb) (n:Nat) (q:Bool) (F:Fn) (c:Ck)
noncomputable def EJ (e:PE) (ex:Expr):Prop:=∀ {cx:Cx}{ρ:List V}{A:Around}{res π:List Addr}{Hc:H}{s:Shared},Base am n q F c cx ρ A→St (am.at res) q cx ρ π Hc A s →
 JAt (am.at res) cx.stack A (eval ex cx.env) (evE q F ρ e Hc) (VR (am.at res)) π s
noncomputable def TJ (e:PE) (ex:Expr):Prop:=∀ {cx:Cx}{ρ:List V}{A:Around}{res π:List Addr}{Hc:H}{s:Shared},Base am n q F c cx ρ A→St (am.at res) q cx ρ π Hc A s →
 JAt (am.at res) cx.stack A (isTrue ex cx.env (eval ex cx.env)) (tr (evE q F ρ e Hc)) BR π s
noncomputable def AllJ:List PE→List Expr→Prop
 |[],[]=>True
 |e::es,x::xs=>(isStar x=false∧EJ am n q F c e x∧TJ am n q F c e x)∧AllJ es xs
 |_,_=>False
end
noncomputable def zdj (e:Expr):Bool:=@Expr.casesOn (fun z_=>Bool) e (fun z_ z_ z_=>false) (fun z_ z_ z_=>true) (fun z_ z_ z_ z_=>true) (fun o z_ z_=>decide (o≠.Not)) (fun z_ z_ z_ z_=>true) (fun z_ z_ z_ z_=>false) (fun z_ z_ z_=>true) (fun z_ z_ z_=>true) (fun z_ z_ z_ z_=>true) (fun z_ z_ z_ z_=>true) (fun z_ z_ z_ z_ z_=>true) (fun z_ z_ z_ z_=>true) (fun z_ z_=>true) (fun z_ z_=>true) (fun z_ z_=>true) (fun z_ z_ z_ z_=>false) (fun z_ z_ z_ z_=>true) (fun z_ z_ z_ z_=>true) (fun z_ z_=>true) (fun z_ z_ z_=>true) (fun z_ z_ z_=>true) (fun z_ z_ z_=>true) (fun z_ z_=>true) (fun z_ z_=>true) (fun z_ z_=>true) (fun z_ z_ z_=>true) (fun z_ z_ z_ z_=>true)
set_option tactic.hygienic true in
theorem zhc {ex:Expr}(h:zdj ex=true) (env:Env) (whole:Sem Value):isTrue ex env whole=(do let v ← whole;standAt ex.pos;holding [v] (PySem.truthy v)):=by
 cases ex<;>first|rfl|exact noB h|skip
 rename_i op x pos
 cases op<;>first|rfl|exact noB h
section
variable {am:Amb}{n:Nat}{q:Bool}{F:Fn}{c:Ck}
theorem EJ.test {e:PE}{ex:Expr}(h:EJ am n q F c e ex) (hp:zdj ex=true):TJ am n q F c e ex:=by
 intro cx ρ A res π Hc s b st;refine JAt.congr (zhc hp _ _) rfl ?_;unfold tr;refine JAt.bind (h b st) fun x v H1 π1 s1 z_ hs1 hr1 hv1=>JAt.standAt (JAt.holding (zed hr1 hv1))
theorem zqB {op:Bop}{o:Operator}(h:bopIs op o=true):o=bopM op:=(of_decide_eq_true h).symm
theorem zfC {op:Cop}{o:CmpOp}(h:copIs op o=true):o=copM op:=(of_decide_eq_true h).symm
theorem zoT {k:Nat}{p:Pos}:EJ am n q F c .none (.Constant .none k p):=fun z_ st=>by
 simp only[zcd,zcc,zb7,zb6,zb5,zb4,zbF,zcb,zb3,za1,zaK,za0,zal,zaS,zaw,zaJ,zaZ,zar,zaz,zaI,zaH,zaY,zaX,zaR,zaW,zaG,zaq,zaF,zaV,zaE,zaU,zaQ,zaP,qE_34,zaD,zaC,zaO,zaB];exact .inr (wpAny_Constant_none (OkP.here st.hr rfl))
theorem zoX {b:Bool}{k:Nat}{p:Pos}:EJ am n q F c (.bool b) (.Constant (.bool b) k p):=fun z_ st=>by
 simp only[zcd,zcc,zb7,zb6,zb5,zb4,zbF,zcb,zb3,za1,zaK,za0,zal,zaS,zaw,zaJ,zaZ,zar,zaz,zaI,zaH,zaY,zaX,zaR,zaW,zaG,zaq,zaF,zaV,zaE,zaU,zaQ,zaP,qE_34,zaD,zaC,zaO,zaB];exact .inr (wpAny_Constant_bool (OkP.here st.hr rfl))
theorem znv {i:Int}{k:Nat}{p:Pos}:EJ am n q F c (.int i) (.Constant (.int i) k p):=fun z_ st=>by
 simp only[zcd,zcc,zb7,zb6,zb5,zb4,zbF,zcb,zb3,za1,zaK,za0,zal,zaS,zaw,zaJ,zaZ,zar,zaz,zaI,zaH,zaY,zaX,zaR,zaW,zaG,zaq,zaF,zaV,zaE,zaU,zaQ,zaP,qE_34,zaD,zaC,zaO,zaB];exact .inr (wpAny_Constant_int (OkP.tok st.hr ⟨_,rfl⟩))
theorem zqm {t:String}{k:Nat}{p:Pos}:EJ am n q F c (.str t) (.Constant (.str (Str.ofString t)) k p):=fun z_ st=>by
 simp only[zcd,zcc,zb7,zb6,zb5,zb4,zbF,zcb,zb3,za1,zaK,za0,zal,zaS,zaw,zaJ,zaZ,zar,zaz,zaI,zaH,zaY,zaX,zaR,zaW,zaG,zaq,zaF,zaV,zaE,zaU,zaQ,zaP,qE_34,zaD,zaC,zaO,zaB];exact .inr (wpAny_Constant_str (OkP.tok st.hr ⟨_,rfl⟩))
theorem zqk {i:Nat}{x:Str}{p:Pos}(h:c.var x i=true):EJ am n q F c (.var i) (.Name x p):=fun b st=>zqj b st h
theorem zoU {g:String}{i:Int}{p:Pos}(h:c.glob (Str.ofString g)=true) (hm:(g,i)∈c.nums):EJ am n q F c (.glob g i) (.Name (Str.ofString g) p):=fun b st=>by
 simp only[zcd,zcc,zb7,zb6,zb5,zb4,zbF,zcb,zb3,za1,zaK,za0,zal,zaS,zaw,zaJ,zaZ,zar,zaz,zaI,zaH,zaY,zaX,zaR,zaW,zaG,zaq,zaF,zaV,zaE,zaU,zaQ,zaP,qE_34,zaD,zaC,zaO,zaB];obtain⟨t,ht⟩:=b.ck.nums _ hm;exact .inr (zdu b st.hr h ht (OkP.here st.hr ⟨t,rfl⟩))
theorem zqq {i:Int}{k:Nat}{p p':Pos}:EJ am n q F c (.neg i) (.UnaryOp .USub (.Constant (.int i) k p) p'):=fun {cx ρ A res π Hc s} b st=>by
 simp only[zcd,zcc,zb7,zb6,zb5,zb4,zbF,zcb,zb3,za1,zaK,za0,zal,zaS,zaw,zaJ,zaZ,zar,zaz,zaI,zaH,zaY,zaX,zaR,zaW,zaG,zaq,zaF,zaV,zaE,zaU,zaQ,zaP,qE_34,zaD,zaC,zaO,zaB];refine .inr (wpAny_UnaryOp (wpAny_Constant_int ?_));exact neg_int (OkP.step (Step.tok _) (OkP.tok (st.hr.keeps fun z_ z_ e=>e) ⟨_,rfl⟩))
theorem zqu {op:Bop}{o:Operator}{a b:PE}{l r:Expr}{p:Pos}(ho:bopIs op o=true) (ha:EJ am n q F c a l) (hb:EJ am n q F c b r):EJ am n q F c (.bin op a b) (.BinOp l o r p):=fun {cx ρ A res π Hc s} B st=>by
 rw[zqB ho];simp only[zcd,zcc,zb7,zb6,zb5,zb4,zbF,zcb,zb3,za1,zaK,za0,zal,zaS,zaw,zaJ,zaZ,zar,zaz,zaI,zaH,zaY,zaX,zaR,zaW,zaG,zaq,zaF,zaV,zaE,zaU,zaQ,zaP,qE_34,zaD,zaC,zaO,zaB];refine JAt.congr (arm_eval_BinOp ..) rfl (JAt.bind (ha B st) fun x v H1 π1 s1 z_ hs1 hr1 hv1=>?_);refine JAt.bind (JAt.holding (hb B (st.step hs1 hr1))) fun y w H2 π2 s2 z_ hs2 hr2 hv2=>?_;exact JAt.standAt (JAt.operate (zpR (B.ok.at res).toAmbOK B.cxk.stackOK B.as hr2 (hv1.step hs2) hv2))
theorem zqp {a:PE}{x:Expr}{p:Pos}(ha:EJ am n q F c a x):EJ am n q F c (.not a) (.UnaryOp .Not x p):=fun {cx ρ A res π Hc s} B st=>by
 simp only[zcd,zcc,zb7,zb6,zb5,zb4,zbF,zcb,zb3,za1,zaK,za0,zal,zaS,zaw,zaJ,zaZ,zar,zaz,zaI,zaH,zaY,zaX,zaR,zaW,zaG,zaq,zaF,zaV,zaE,zaU,zaQ,zaP,qE_34,zaD,zaC,zaO,zaB];refine JAt.congr (arm_eval_UnaryOp ..) rfl (JAt.bind (ha B st) fun x v H1 π1 s1 z_ hs1 hr1 hv1=>?_);exact JAt.standAt (JAt.holding (zpJ hr1 hv1))
theorem zpo {a:PE}{x:Expr}{p:Pos}(ha:TJ am n q F c a x):TJ am n q F c (.not a) (.UnaryOp .Not x p):=fun {cx ρ A res π Hc s} B st=>by
 have e:tr (evE q F ρ (.not a) Hc)=(tr (evE q F ρ a Hc)).bind fun b h=>.ok (!b) h:=by
  simp only[zcd,zcc,zb7,zb6,zb5,zb4,zbF,zcb,zb3,za1,zaK,za0,zal,zaS,zaw,zaJ,zaZ,zar,zaz,zaI,zaH,zaY,zaX,zaR,zaW,zaG,zaq,zaF,zaV,zaE,zaU,zaQ,zaP,qE_34,zaD,zaC,zaO,zaB,tr]
  cases evE q F ρ a Hc with
  |ok v h=>simp only[R.bind_ok];cases truthy v<;>rfl
  |_=>rfl
 rw[e];refine JAt.congr (arm_isTrue_UnaryOp ..) rfl (JAt.bind (ha B st) fun x v H1 π1 s1 z_ hs1 hr1 hv1=>?_);exact JAt.pure hr1 (congrArg _ hv1)
theorem zd5 {op:CmpOp}{r:Expr}(h:isSet r=false) (t:Sem Value):markedBehindIn op r t=t:=by
 have:behindInMarks op r=false:=by cases r<;>first|rfl|exact noB h.symm
 unfold markedBehindIn;rw[this]
theorem zqt {op:Cop}{o:CmpOp}{a b:PE}{l r:Expr}{p:Pos}(ho:copIs op o=true) (hs:isSet r=false) (ha:EJ am n q F c a l) (hb:EJ am n q F c b r):EJ am n q F c (.cmp op a b) (.Compare l [o] [r] p):=fun {cx ρ A res π Hc s} B st=>by
 rw[zfC ho];simp only[zcd,zcc,zb7,zb6,zb5,zb4,zbF,zcb,zb3,za1,zaK,za0,zal,zaS,zaw,zaJ,zaZ,zar,zaz,zaI,zaH,zaY,zaX,zaR,zaW,zaG,zaq,zaF,zaV,zaE,zaU,zaQ,zaP,qE_34,zaD,zaC,zaO,zaB];refine JAt.congr (eval_Compare1 ..) rfl (JAt.bind (ha B st) fun x v H1 π1 s1 z_ hs1 hr1 hv1=>?_);rw[zd5 hs];refine JAt.bind (JAt.holding (hb B (st.step hs1 hr1))) fun y w H2 π2 s2 z_ hs2 hr2 hv2=>?_;exact JAt.standAt (JAt.operate (zft B.as hr2 (hv1.step hs2) hv2))
theorem zpp {op:Cop}{o:CmpOp}{a b:PE}{l r:Expr}{p:Pos}(ho:copIs op o=true) (hs:isSet r=false) (ha:EJ am n q F c a l) (hb:EJ am n q F c b r):TJ am n q F c (.cmp op a b) (.Compare l [o] [r] p):=fun {cx ρ A res π Hc s} B st=>by
 rw[zfC ho];simp only[zcd,zcc,zb7,zb6,zb5,zb4,zbF,zcb,zb3,za1,zaK,za0,zal,zaS,zaw,zaJ,zaZ,zar,zaz,zaI,zaH,zaY,zaX,zaR,zaW,zaG,zaq,zaF,zaV,zaE,zaU,zaQ,zaP,qE_34,zaD,zaC,zaO,zaB,zeR];refine JAt.congr (isTrue_Compare1 ..) rfl (JAt.bind (ha B st) fun x v H1 π1 s1 z_ hs1 hr1 hv1=>?_);rw[zd5 hs];refine JAt.bind (JAt.holding (hb B (st.step hs1 hr1))) fun y w H2 π2 s2 z_ hs2 hr2 hv2=>?_;refine JAt.standAt ?_
 unfold tr;exact JAt.bind (JAt.operate (zft B.as hr2 (hv1.step hs2) hv2)) fun x v H3 π3 s3 z_ hs3 hr3 hv3=>JAt.holding (zed hr3 hv3)
theorem JAt.release {am:Amb}{stack:List Env}{A:Around}{α β:Type}{Rel:List Addr→Heap→β→α→Prop}{π:List Addr}{s:Shared}{vs keep:List Value}{f:Unit→Sem α}{r:R β}(h:JAt am stack A (f ()) r Rel π s):JAt am stack A (PySem.release vs keep >>= f) r Rel π s :=
 h.rule fun z_ z_ x=>wpAny_bind (zfr x)
theorem zoV {op1 op2:Cop}{o1 o2:CmpOp}{a b d:PE}{l r1 r2:Expr}{p:Pos}(ho1:copIs op1 o1=true) (ho2:copIs op2 o2=true) (hs:isSet r2=false) (ha:EJ am n q F c a l) (hb:EJ am n q F c b r1) (hd:EJ am n q F c d r2) :
  EJ am n q F c (.cmp2 op1 op2 a b d) (.Compare l [o1,o2] [r1,r2] p):=fun {cx ρ A res π Hc s} B st=>by
 rw[zfC ho1,zfC ho2];simp only[zcd,zcc,zb7,zb6,zb5,zb4,zbF,zcb,zb3,za1,zaK,za0,zal,zaS,zaw,zaJ,zaZ,zar,zaz,zaI,zaH,zaY,zaX,zaR,zaW,zaG,zaq,zaF,zaV,zaE,zaU,zaQ,zaP,qE_34,zaD,zaC,zaO,zaB];refine JAt.congr (arm_eval_Compare ..) rfl (JAt.bind (ha B st) fun x v H1 π1 s1 z_ hs1 hr1 hv1=>?_);have st1:=st.step hs1 hr1;show JAt _ _ _ (compareChain p x [copM op1,copM op2] [eval r1 cx.env,markedBehindIn (copM op2) r2 (eval r2 cx.env)]) _ _ _ _
 rw[zd5 hs];refine JAt.bind (JAt.holding (hb B st1)) fun y w H2 π2 s2 z_ hs2 hr2 hv2=>JAt.standAt ?_;have st2:=st1.step hs2 hr2;have hv1':=hv1.step hs2;have e:∀ (k:H→R V),(match pyCmp op1 H2 v w with|some true=>k H2|some false=>.ok (.bool false) H2|none=>.bad)=(R.opt ((pyCmp op1 H2 v w).map V.bool) H2).bind fun x h=>match truthy x with|some true=>k h|some false=>.ok (.bool false) h|none=>.bad:=by
  intro k
  cases pyCmp op1 H2 v w with
  |none=>rfl
  |some b=>cases b<;>rfl
 refine JAt.congr rfl (e fun h=>(evE q F ρ d h).bind fun z h=>R.opt ((pyCmp op2 h w z).map V.bool) h) ?_;refine JAt.bind (JAt.holding (zft B.as hr2 hv1' hv2)) fun z u H3 π3 s3 z_ hs3 hr3 hv3=>JAt.release ?_;have st3:=st2.step hs3 hr3
 cases u with
 |bool t =>
  simp only[VR] at hv3;subst hv3;refine JAt.rule (fun Q E h=>wpAny_bind (wpAny_holding (wpAny_truthy_bool h))) ?_
  cases t with
  |false=>exact JAt.pure hr3 rfl
  |true =>
   refine JAt.bind (JAt.holding (hd B st3)) fun y' w' H4 π4 s4 z_ hs4 hr4 hv4=>?_;exact JAt.standAt (JAt.operate (zft B.as hr4 ((hv2.step hs3).step hs4) hv4))
 |_=>exact .inl rfl
theorem znR {op1 op2:Cop}{o1 o2:CmpOp}{a b d:PE}{l r1 r2:Expr}{p:Pos}(ho1:copIs op1 o1=true) (ho2:copIs op2 o2=true) (hs:isSet r2=false) (ha:EJ am n q F c a l) (hb:EJ am n q F c b r1) (hd:EJ am n q F c d r2) :
  TJ am n q F c (.cmp2 op1 op2 a b d) (.Compare l [o1,o2] [r1,r2] p):=fun {cx ρ A res π Hc s} B st=>by
 rw[zfC ho1,zfC ho2];simp only[zcd,zcc,zb7,zb6,zb5,zb4,zbF,zcb,zb3,za1,zaK,za0,zal,zaS,zaw,zaJ,zaZ,zar,zaz,zaI,zaH,zaY,zaX,zaR,zaW,zaG,zaq,zaF,zaV,zaE,zaU,zaQ,zaP,qE_34,zaD,zaC,zaO,zaB,zeR];refine JAt.congr (arm_isTrue_Compare ..) rfl (JAt.bind (ha B st) fun x v H1 π1 s1 z_ hs1 hr1 hv1=>?_);have st1:=st.step hs1 hr1;show JAt _ _ _ (testChain p x [copM op1,copM op2] [eval r1 cx.env,markedBehindIn (copM op2) r2 (eval r2 cx.env)]) _ _ _ _
 rw[zd5 hs];refine JAt.bind (JAt.holding (hb B st1)) fun y w H2 π2 s2 z_ hs2 hr2 hv2=>JAt.standAt ?_;have st2:=st1.step hs2 hr2;have hv1':=hv1.step hs2;have e:∀ (k:H→R V),tr (match pyCmp op1 H2 v w with|some true=>k H2|some false=>.ok (.bool false) H2|none=>.bad)=(R.opt ((pyCmp op1 H2 v w).map V.bool) H2).bind fun x h=>match truthy x with|some true=>tr (k h)|some false=>.ok false h|none=>.bad:=by
  intro k
  cases pyCmp op1 H2 v w with
  |none=>rfl
  |some b=>cases b<;>rfl
 refine JAt.congr rfl (e fun h=>(evE q F ρ d h).bind fun z h=>R.opt ((pyCmp op2 h w z).map V.bool) h) ?_;refine JAt.bind (JAt.holding (zft B.as hr2 hv1' hv2)) fun z u H3 π3 s3 z_ hs3 hr3 hv3=>JAt.release ?_;have st3:=st2.step hs3 hr3
 cases u with
 |bool t =>
  simp only[VR] at hv3;subst hv3;refine JAt.rule (fun Q E h=>wpAny_bind (wpAny_holding (wpAny_truthy_bool h))) ?_
  cases t with
  |false=>exact JAt.pure hr3 rfl
  |true =>
   simp only[Mine.truthy,zeR];refine JAt.bind (JAt.holding (hd B st3)) fun y' w' H4 π4 s4 z_ hs4 hr4 hv4=>?_;refine JAt.standAt ?_;unfold tr;exact JAt.bind (JAt.operate (zft B.as hr4 ((hv2.step hs3).step hs4) hv4)) fun x v H5 π5 s5 z_ hs5 hr5 hv5=>JAt.holding (zed hr5 hv5)
 |_=>exact .inl rfl
end
abbrev PT (γ:Type):=(γ→Shared→Prop)→(Value→Shared→Prop)→Shared→Prop
noncomputable def PT.Mono {γ:Type}(T:PT γ):Prop:=∀ Q Q' E E' s,(∀ a s,Q a s→Q' a s)→(∀ e s,E e s→E' e s)→T Q E s→T Q' E' s
noncomputable def JT (am:Amb) (stack:List Env){α β:Type}(T:PT α) (r:R β) (Rel:List Addr→Heap→β→α→Prop) (π:List Addr) (s:Shared):Prop :=
 r=.bad∨T (OkP am stack Rel π s r) (ErP am stack π s r) s
section
variable {am:Amb}{stack:List Env}{A:Around}{α β γ δ:Type}{Rel:List Addr→Heap→β→α→Prop}{Rel':List Addr→Heap→δ→γ→Prop}{π:List Addr}{s:Shared}
theorem PT.wp (M:Model) (m:Sem α):PT.Mono (fun Q E s=>wpAny M A m Q E s):=fun z_ z_ z_ z_ z_ h1 h2 h=>wpAny_mono h h1 h2
theorem PT.seq (M:Model) (m:Sem α){T:α→PT γ}(hT:∀ a,PT.Mono (T a)):PT.Mono (fun Q E s=>wpAny M A m (fun a s₁=>T a Q E s₁) E s) :=
 fun Q Q' E E' z_ h1 h2 h=>wpAny_mono h (fun a s₁ x=>hT a Q Q' E E' s₁ h1 h2 x) h2
theorem JT.bind {m:Sem α}{T:α→PT γ}(hT:∀ a,PT.Mono (T a)){r:R β}{g:β→H→R δ}(h1:JAt am stack A m r Rel π s)
  (h2:∀ a b H' π' s',r=.ok b H'→Step (Fs stack) π s π' s'→HR am stack π' H' s'.heap→Rel π' s'.heap b a→JT am stack (T a) (g b H') Rel' π' s') :
  JT am stack (fun Q E s=>wpAny am.M A m (fun a s₁=>T a Q E s₁) E s) (r.bind g) Rel' π s:=by
 rcases h1 with rfl|h1
 ·exact .inl rfl
 ·cases r with
  |bad=>exact .inl rfl
  |err c H' =>
   refine .inr (wpAny_mono h1 (fun a s' h=>?_) fun e s' h=>?_)
   ·obtain⟨_,_,_,h,_⟩:=h;cases h
   ·refine hold fun z_ k_=>?_
    obtain⟨c',H'',π',e',C,fl,h,r2,r3,r4,r5,r6⟩:=h;refine k_ ?_
    cases h
    exact⟨c,H',π',e',C,fl,rfl,r2,r3,r4,r5,r6⟩
  |ok b H' =>
   by_cases hb:g b H'=.bad
   ·exact .inl hb
   ·refine .inr (wpAny_mono h1 (fun a s' h=>?_) fun e s' h=>?_)
    ·refine hold fun z_ k_=>?_
     obtain⟨b',H'',π',h,h3,h4,h5⟩:=h;refine k_ ?_
     cases h
     rcases h2 a b H' π' s' rfl h3 h4 h5 with h6|h6
     ·exact absurd h6 hb
     ·exact hT a _ _ _ _ _ (fun z_ z_ y=>OkP.step h3 y) (fun z_ z_ y=>ErP.step h3 y) h6
    ·obtain⟨_,_,_,_,_,_,h,_⟩:=h;cases h
theorem JT.rule {T T':PT α}{r:R β}(h:JT am stack T r Rel π s) (k:∀ Q E,T Q E s→T' Q E s):JT am stack T' r Rel π s:=by
 rcases h with h|h
 ·exact .inl h
 ·exact .inr (k _ _ h)
theorem JT.at {T:PT α}{m:Sem α}{r:R β}(h:JT am stack T r Rel π s) (k:∀ Q E,T Q E s→wpAny am.M A m Q E s):JAt am stack A m r Rel π s:=by
 rcases h with h|h
 ·exact .inl h
 ·exact .inr (k _ _ h)
theorem JAt.pt {m:Sem α}{r:R β}(h:JAt am stack A m r Rel π s):JT am stack (fun Q E s=>wpAny am.M A m Q E s) r Rel π s:=h
end
theorem zo2 (c:Ck) (e:PE) (x:Expr) (p:Pos):ckE c e (.Starred x p)=false:=by
 cases e with
 |own a =>
  cases a with
  |bf f b=>cases f<;>rfl
  |bin op a b=>cases op<;>rfl
  |_=>rfl
 |none=>rfl
 |bool b=>rfl
 |int b=>rfl
 |str b=>rfl
 |_=>rfl
theorem zbR {c:Ck}{e:PE}{x:Expr}(h:ckE c e x=true):isStar x=false:=by
 cases x<;>first|rfl|(rw[zo2] at h;cases h)
noncomputable def zav (xs:List Expr) (env:Env):List (Bool × Sem Value):=xs.map fun e=>(false,eval e env)
theorem zac (env:Env):∀ {xs:List Expr},(∀ x∈xs,isStar x=false)→∀ pos:Pos,backTo pos (starEach xs env)=zav xs env
 |[],_,_=>rfl
 |x::xs,h,pos=>by
  have ih:=zac env (fun y hy=>h y (List.mem_cons_of_mem _ hy)) pos;have hx:=h x List.mem_cons_self;have e:starEach (x::xs) env=(false,eval x env)::starEach xs env:=by
   cases x<;>first|rfl|exact noB hx.symm
  rw[e];show(false,eval x env)::backTo pos (starEach xs env)=_;rw[ih];rfl
section
variable {am:Amb}{n:Nat}{q:Bool}{F:Fn}{c:Ck}
theorem AllJ.stars:∀ {es:List PE}{xs:List Expr},AllJ am n q F c es xs→∀ x∈xs,isStar x=false
 |[],[],_=>by simp
 |e::es,x::xs,h=>by
  intro y hy
  rcases List.mem_cons.mp hy with rfl|hy
  ·exact h.1.1
  ·exact AllJ.stars h.2 y hy
 |[],_::_,h=>h.elim
 |_::_,[],h=>h.elim
theorem AllJ.args {cx:Cx}{ρ:List V}{A:Around}{res:List Addr}:∀ {es:List PE}{xs:List Expr}{π:List Addr}{Hc:H}{s:Shared},AllJ am n q F c es xs→Base am n q F c cx ρ A→St (am.at res) q cx ρ π Hc A s →
  JAt (am.at res) cx.stack A (spliced (zav xs cx.env)) (evEs q F ρ es Hc) (VRs (am.at res)) π s
 |[],[],π,Hc,s,_,_,st=>by
  simp only[zkh,zcK];exact .inr (wpAny_pure (OkP.here st.hr (by simp[VRs])))
 |e::es,x::xs,π,Hc,s,h,B,st=>by
  simp only[zkh,zcK];refine JAt.congr (m':=eval x cx.env >>= fun v=>(pure [v]:Sem (List Value)) >>= fun here=>holding here (spliced (zav xs cx.env)) >>= fun tl=>pure (here++tl)) (by
   show spliced ((false,eval x cx.env)::zav xs cx.env)=_;rw[spliced];rfl) rfl ?_
  refine JAt.bind (h.1.2.1 B st) fun x v H1 π1 s1 z_ hs1 hr1 hv1=>?_;refine JAt.rule (fun Q E h=>wpAny_bind (wpAny_pure h)) ?_;refine JAt.bind (JAt.holding (AllJ.args h.2 B (st.step hs1 hr1))) fun ys ws H2 π2 s2 z_ hs2 hr2 hv2=>?_;exact JAt.pure hr2 (by simp only[VRs];exact⟨_,_,rfl,hv1.step hs2,hv2⟩)
 |[],_::_,_,_,_,h,_,_=>h.elim
 |_::_,[],_,_,_,h,_,_=>h.elim
theorem znw:∀ {es:List PE}{xs:List Expr}{p:Pos},AllJ am n q F c es xs→EJ am n q F c (.and es) (.BoolOp .And xs p)
 |[],[],_,_,cx,ρ,A,res,π,Hc,s,_,_=>.inl rfl
 |[e],[x],_,h,cx,ρ,A,res,π,Hc,s,B,st=>by
  simp only[zcd,zcc,zb7,zb6,zb5,zb4,zbF,zcb,zb3,za1,zaK,za0,zal,zaS,zaw,zaJ,zaZ,zar,zaz,zaI,zaH,zaY,zaX,zaR,zaW,zaG,zaq,zaF,zaV,zaE,zaU,zaQ,zaP,qE_34,zaD,zaC,zaO,zaB,zqP,zqO,zqN];exact h.1.2.1 B st
 |e::e2::es,x::x2::xs,p,h,cx,ρ,A,res,π,Hc,s,B,st=>by
  simp only[zcd,zcc,zb7,zb6,zb5,zb4,zbF,zcb,zb3,za1,zaK,za0,zal,zaS,zaw,zaJ,zaZ,zar,zaz,zaI,zaH,zaY,zaX,zaR,zaW,zaG,zaq,zaF,zaV,zaE,zaU,zaQ,zaP,qE_34,zaD,zaC,zaO,zaB,zqP,zqO,zqN];refine JAt.congr (m':=eval x cx.env >>= fun v=>standAt p >>= fun z_=>holding [v] (PySem.truthy v) >>= fun t=>(match BoolOp.And,t with|.And,false|.Or,true=>pure v|_,_=>boolOp p .And (evalEach (x2::xs) cx.env))) rfl rfl ?_
  refine JAt.bind (h.1.2.1 B st) fun y v H1 π1 s1 z_ hs1 hr1 hv1=>JAt.standAt ?_
  cases v with
  |bool b =>
   simp only[VR] at hv1;subst hv1;refine JAt.rule (fun Q E h=>wpAny_bind (wpAny_holding (wpAny_truthy_bool h))) ?_
   cases b with
   |false=>exact JAt.pure hr1 rfl
   |true =>
    have:=znw (p:=p) h.2 B (st.step hs1 hr1);simp only[zcd,zcc,zb7,zb6,zb5,zb4,zbF,zcb,zb3,za1,zaK,za0,zal,zaS,zaw,zaJ,zaZ,zar,zaz,zaI,zaH,zaY,zaX,zaR,zaW,zaG,zaq,zaF,zaV,zaE,zaU,zaQ,zaP,qE_34,zaD,zaC,zaO,zaB] at this;exact this
  |_=>exact .inl rfl
 |[],_::_,_,h,_,_,_,_,_,_,_,_,_=>h.elim
 |_::_,[],_,h,_,_,_,_,_,_,_,_,_=>h.elim
 |[_],_::_::_,_,h,_,_,_,_,_,_,_,_,_=>h.2.elim
 |_::_::_,[_],_,h,_,_,_,_,_,_,_,_,_=>h.2.elim
theorem zqo:∀ {es:List PE}{xs:List Expr}{p:Pos},AllJ am n q F c es xs→EJ am n q F c (.or es) (.BoolOp .Or xs p)
 |[],[],_,_,cx,ρ,A,res,π,Hc,s,_,_=>.inl rfl
 |[e],[x],_,h,cx,ρ,A,res,π,Hc,s,B,st=>by
  simp only[zcd,zcc,zb7,zb6,zb5,zb4,zbF,zcb,zb3,za1,zaK,za0,zal,zaS,zaw,zaJ,zaZ,zar,zaz,zaI,zaH,zaY,zaX,zaR,zaW,zaG,zaq,zaF,zaV,zaE,zaU,zaQ,zaP,qE_34,zaD,zaC,zaO,zaB,zqL,zqK,zoe];exact h.1.2.1 B st
 |e::e2::es,x::x2::xs,p,h,cx,ρ,A,res,π,Hc,s,B,st=>by
  simp only[zcd,zcc,zb7,zb6,zb5,zb4,zbF,zcb,zb3,za1,zaK,za0,zal,zaS,zaw,zaJ,zaZ,zar,zaz,zaI,zaH,zaY,zaX,zaR,zaW,zaG,zaq,zaF,zaV,zaE,zaU,zaQ,zaP,qE_34,zaD,zaC,zaO,zaB,zqL,zqK,zoe];refine JAt.congr (m':=eval x cx.env >>= fun v=>standAt p >>= fun z_=>holding [v] (PySem.truthy v) >>= fun t=>(match BoolOp.Or,t with|.And,false|.Or,true=>pure v|_,_=>boolOp p .Or (evalEach (x2::xs) cx.env))) rfl rfl ?_
  refine JAt.bind (h.1.2.1 B st) fun y v H1 π1 s1 z_ hs1 hr1 hv1=>JAt.standAt ?_
  cases v with
  |bool b =>
   simp only[VR] at hv1;subst hv1;refine JAt.rule (fun Q E h=>wpAny_bind (wpAny_holding (wpAny_truthy_bool h))) ?_
   cases b with
   |true=>exact JAt.pure hr1 rfl
   |false =>
    have:=zqo (p:=p) h.2 B (st.step hs1 hr1);simp only[zcd,zcc,zb7,zb6,zb5,zb4,zbF,zcb,zb3,za1,zaK,za0,zal,zaS,zaw,zaJ,zaZ,zar,zaz,zaI,zaH,zaY,zaX,zaR,zaW,zaG,zaq,zaF,zaV,zaE,zaU,zaQ,zaP,qE_34,zaD,zaC,zaO,zaB] at this;exact this
  |_=>exact .inl rfl
 |[],_::_,_,h,_,_,_,_,_,_,_,_,_=>h.elim
 |_::_,[],_,h,_,_,_,_,_,_,_,_,_=>h.elim
 |[_],_::_::_,_,h,_,_,_,_,_,_,_,_,_=>h.2.elim
 |_::_::_,[_],_,h,_,_,_,_,_,_,_,_,_=>h.2.elim
theorem znQ (ρ:List V) (e e2:PE) (es:List PE) (Hc:H):tr (evAnd q F ρ (e::e2::es) Hc)=(tr (evE q F ρ e Hc)).bind fun b h=>if b then tr (evAnd q F ρ (e2::es) h) else .ok false h:=by
 simp only[zqP,zqO,zqN,zeR];rw[zjX];congr 1;funext x h
 cases hx:truthy x with
 |none=>rfl
 |some b =>
  cases b with
  |true=>rfl
  |false=>simp[tr,hx]
theorem zpl (ρ:List V) (e e2:PE) (es:List PE) (Hc:H):tr (evOr q F ρ (e::e2::es) Hc)=(tr (evE q F ρ e Hc)).bind fun b h=>if b then .ok true h else tr (evOr q F ρ (e2::es) h):=by
 simp only[zqL,zqK,zoe,zeR];rw[zjX];congr 1;funext x h
 cases hx:truthy x with
 |none=>rfl
 |some b =>
  cases b with
  |false=>rfl
  |true=>simp[tr,hx]
theorem znb:∀ {es:List PE}{xs:List Expr}{p:Pos},AllJ am n q F c es xs→TJ am n q F c (.and es) (.BoolOp .And xs p)
 |[],[],_,_,cx,ρ,A,res,π,Hc,s,_,_=>.inl rfl
 |[e],[x],p,h,cx,ρ,A,res,π,Hc,s,B,st=>by
  simp only[zcd,zcc,zb7,zb6,zb5,zb4,zbF,zcb,zb3,za1,zaK,za0,zal,zaS,zaw,zaJ,zaZ,zar,zaz,zaI,zaH,zaY,zaX,zaR,zaW,zaG,zaq,zaF,zaV,zaE,zaU,zaQ,zaP,qE_34,zaD,zaC,zaO,zaB,zqP,zqO,zqN];have:=h.1.2.2 B st;refine JAt.rule (m':=isTrue x cx.env (eval x cx.env)) (fun Q E h=>wpAny_isTrue_BoolOp (wpAny_allTrue_And_cons (wpAny_mono h (fun b s1 h1=>?_) fun z_ z_ x=>x))) this
  cases b with
  |true=>exact wpAny_allTrue_And_nil h1
  |false=>exact h1
 |e::e2::es,x::x2::xs,p,h,cx,ρ,A,res,π,Hc,s,B,st=>by
  simp only[zcd,zcc,zb7,zb6,zb5,zb4,zbF,zcb,zb3,za1,zaK,za0,zal,zaS,zaw,zaJ,zaZ,zar,zaz,zaI,zaH,zaY,zaX,zaR,zaW,zaG,zaq,zaF,zaV,zaE,zaU,zaQ,zaP,qE_34,zaD,zaC,zaO,zaB];rw[znQ];refine JAt.congr (m':=isTrue x cx.env (eval x cx.env) >>= fun b=>(match BoolOp.And,b with|.And,false=>pure false|.Or,true=>pure true|_,_=>allTrue .And (x2::xs) cx.env)) rfl rfl ?_
  refine JAt.bind (h.1.2.2 B st) fun y v H1 π1 s1 z_ hs1 hr1 hv1=>?_;unfold BR at hv1;subst hv1
  cases v with
  |false=>exact JAt.pure hr1 rfl
  |true =>
   have:=znb (p:=p) h.2 B (st.step hs1 hr1);simp only[zcd,zcc,zb7,zb6,zb5,zb4,zbF,zcb,zb3,za1,zaK,za0,zal,zaS,zaw,zaJ,zaZ,zar,zaz,zaI,zaH,zaY,zaX,zaR,zaW,zaG,zaq,zaF,zaV,zaE,zaU,zaQ,zaP,qE_34,zaD,zaC,zaO,zaB] at this;exact this
 |[],_::_,_,h,_,_,_,_,_,_,_,_,_=>h.elim
 |_::_,[],_,h,_,_,_,_,_,_,_,_,_=>h.elim
 |[_],_::_::_,_,h,_,_,_,_,_,_,_,_,_=>h.2.elim
 |_::_::_,[_],_,h,_,_,_,_,_,_,_,_,_=>h.2.elim
theorem zpn:∀ {es:List PE}{xs:List Expr}{p:Pos},AllJ am n q F c es xs→TJ am n q F c (.or es) (.BoolOp .Or xs p)
 |[],[],_,_,cx,ρ,A,res,π,Hc,s,_,_=>.inl rfl
 |[e],[x],p,h,cx,ρ,A,res,π,Hc,s,B,st=>by
  simp only[zcd,zcc,zb7,zb6,zb5,zb4,zbF,zcb,zb3,za1,zaK,za0,zal,zaS,zaw,zaJ,zaZ,zar,zaz,zaI,zaH,zaY,zaX,zaR,zaW,zaG,zaq,zaF,zaV,zaE,zaU,zaQ,zaP,qE_34,zaD,zaC,zaO,zaB,zqL,zqK,zoe];have:=h.1.2.2 B st;refine JAt.rule (m':=isTrue x cx.env (eval x cx.env)) (fun Q E h=>wpAny_isTrue_BoolOp (wpAny_allTrue_Or_cons (wpAny_mono h (fun b s1 h1=>?_) fun z_ z_ x=>x))) this
  cases b with
  |true=>exact h1
  |false=>exact wpAny_allTrue_Or_nil h1
 |e::e2::es,x::x2::xs,p,h,cx,ρ,A,res,π,Hc,s,B,st=>by
  simp only[zcd,zcc,zb7,zb6,zb5,zb4,zbF,zcb,zb3,za1,zaK,za0,zal,zaS,zaw,zaJ,zaZ,zar,zaz,zaI,zaH,zaY,zaX,zaR,zaW,zaG,zaq,zaF,zaV,zaE,zaU,zaQ,zaP,qE_34,zaD,zaC,zaO,zaB];rw[zpl];refine JAt.congr (m':=isTrue x cx.env (eval x cx.env) >>= fun b=>(match BoolOp.Or,b with|.And,false=>pure false|.Or,true=>pure true|_,_=>allTrue .Or (x2::xs) cx.env)) rfl rfl ?_
  refine JAt.bind (h.1.2.2 B st) fun y v H1 π1 s1 z_ hs1 hr1 hv1=>?_;unfold BR at hv1;subst hv1
  cases v with
  |true=>exact JAt.pure hr1 rfl
  |false =>
   have:=zpn (p:=p) h.2 B (st.step hs1 hr1);simp only[zcd,zcc,zb7,zb6,zb5,zb4,zbF,zcb,zb3,za1,zaK,za0,zal,zaS,zaw,zaJ,zaZ,zar,zaz,zaI,zaH,zaY,zaX,zaR,zaW,zaG,zaq,zaF,zaV,zaE,zaU,zaQ,zaP,qE_34,zaD,zaC,zaO,zaB] at this;exact this
 |[],_::_,_,h,_,_,_,_,_,_,_,_,_=>h.elim
 |_::_,[],_,h,_,_,_,_,_,_,_,_,_=>h.elim
 |[_],_::_::_,_,h,_,_,_,_,_,_,_,_,_=>h.2.elim
 |_::_::_,[_],_,h,_,_,_,_,_,_,_,_,_=>h.2.elim
theorem zqr {a i:PE}{v t:Expr}{p:Pos}(ha:EJ am n q F c a v) (hi:EJ am n q F c i t):EJ am n q F c (.idx a i) (.Subscript v t p):=fun {cx ρ A res π Hc s} B st=>by
 simp only[zcd,zcc,zb7,zb6,zb5,zb4,zbF,zcb,zb3,za1,zaK,za0,zal,zaS,zaw,zaJ,zaZ,zar,zaz,zaI,zaH,zaY,zaX,zaR,zaW,zaG,zaq,zaF,zaV,zaE,zaU,zaQ,zaP,qE_34,zaD,zaC,zaO,zaB];refine JAt.congr (m':=eval v cx.env >>= fun o=>holding [o] (eval t cx.env) >>= fun i=>standAt p >>= fun z_=>subscriptTail v t o i) rfl rfl ?_;refine JAt.bind (ha B st) fun x v' H1 π1 s1 z_ hs1 hr1 hv1=>?_;refine JAt.bind (JAt.holding (hi B (st.step hs1 hr1))) fun y w H2 π2 s2 z_ hs2 hr2 hv2=>?_
 exact JAt.standAt (zpP B.as hr2 (hv1.step hs2) hv2)
noncomputable def OptJ (am:Amb) (n:Nat) (q:Bool) (F:Fn) (c:Ck):Option PE→Option Expr→Prop
 |none,none=>True
 |some e,some x=>EJ am n q F c e x
 |_,_=>False
noncomputable def OVR (am:Amb) (π:List Addr) (h:Heap):Option V→Value→Prop
 |none,x=>x=.none
 |some v,x=>VR am π h v x
theorem OVR.step {am:Amb}{Fs π π':List Addr}{s s':Shared}(x:Step Fs π s π' s'){v:Option V}{y:Value}(e:OVR am π s.heap v y):OVR am π' s'.heap v y:=by
 cases v with
 |none=>exact e
 |some v=>exact VR.step x e
theorem OptJ.ev {e:Option PE}{x:Option Expr}(h:OptJ am n q F c e x){cx:Cx}{ρ:List V}{A:Around}{res π:List Addr}{Hc:H}{s:Shared}(B:Base am n q F c cx ρ A) (st:St (am.at res) q cx ρ π Hc A s) :
  JAt (am.at res) cx.stack A (valueOrNone (evalOpt x cx.env)) (evO q F ρ e Hc) (OVR (am.at res)) π s:=by
 cases e with
 |none=>cases x with
  |none=>simp only[zpD,zpC];exact .inr (wpAny_pure (OkP.here st.hr rfl))
  |some x=>exact h.elim
 |some e=>cases x with
  |none=>exact h.elim
  |some x =>
   simp only[zpD,zpC];have h1:JAt (am.at res) cx.stack A (eval x cx.env) (evE q F ρ e Hc) (VR (am.at res)) π s:=h B st
   rcases h1 with h1|h1
   ·exact .inl (by rw[h1];rfl)
   ·refine .inr (wpAny_mono h1 (fun a s' h2=>?_) fun a s' h2=>?_)
    ·refine hold fun z_ k_=>?_
     obtain⟨b,H',π',h3,h4,h5,h6⟩:=h2;refine k_ ?_;exact⟨some b,H',π',by rw[h3];rfl,h4,h5,h6⟩
    ·refine hold fun z_ k_=>?_
     obtain⟨c',H'',π',e',C,fl,h,r2,r3,r4,r5,r6⟩:=h2;refine k_ ?_;exact⟨c',H'',π',e',C,fl,by rw[h];rfl,r2,r3,r4,r5,r6⟩
end
section
variable {am:Amb}{n:Nat}{q:Bool}{F:Fn}{c:Ck}
theorem HR.unhold {am:Amb}{stack:List Env}{π:List Addr}{Hc:H}{h:Heap}{l:Addr}(x:HR (am.hold l) stack π Hc h):HR am stack π Hc h :=
 ⟨x.base,x.frames,x.len,x.nodup,fun a ha=>x.res a (List.mem_cons_of_mem _ ha),x.off,fun i c a h1 h2=>by
  obtain⟨o,xs,e0,e1,e2,e3⟩:=x.cell i c a h1 h2;exact⟨o,xs,e0,e1,e2,e3.reserve.2⟩⟩
noncomputable def FrP (am:Amb) (stack:List Env) (π:List Addr) (s:Shared) (r:R V) (x:Value) (s':Shared):Prop :=
 ∃ vs H1 π1 l xs,r=.ok (.lst vs) H1∧x=.ref l∧vs.length≤1000000∧s.heap.get? l=none∧(l ∉ π1∧l ∉ Fs stack∧l ∉ am.res∧am.B.get? l=none)∧Step (Fs stack) π s π1 s'∧HR (am.hold l) stack π1 H1 s'.heap∧PL s'.heap l xs∧VRs (am.hold l) π1 s'.heap vs xs
theorem HR.held {am:Amb}{stack:List Env}{π:List Addr}{Hc:H}{h h':Heap}{l:Addr}(hr:HR am stack π Hc h) (hl:h.get? l=none) (k:∀ b o,h.get? b=some o→h'.get? b=some o) (ho:∃ o,h'.get? l=some o∧∀ us,o.data≠.fields us) :
  HR (am.hold l) stack π Hc h':=by
 have hr':=hr.keeps k;refine⟨hr'.base,hr'.frames,hr'.len,hr'.nodup,fun a ha=>?_,hr'.off,fun i c a h1 h2=>?_⟩
 ·rcases List.mem_cons.mp ha with rfl|ha
  ·exact ho
  ·exact hr'.res a ha
 ·obtain⟨o,xs,e0,e1,e2,e3⟩:=hr.cell i c a h1 h2
  exact⟨o,xs,k _ _ e0,e1,e2,(e3.held hl).keeps k⟩
theorem FrP.new {am:Amb}{stack:List Env}{π:List Addr}{s:Shared}{r:R V}{x:Value}{s1 s':Shared}{vs:List V}{H1:H}{π1:List Addr}(h1:r=.ok (.lst vs) H1) (h2:Step (Fs stack) π s π1 s1) (h3:HR am stack π1 H1 s1.heap) (h4:vs.length≤1000000) (h5:NewL am π1 s1 vs x s') :
  FrP am stack π s r x s':=by
 refine hold fun z_ k_=>?_;obtain⟨l,xs,h',tk,rfl,rfl,k,e1,e2,e3⟩:=h5;refine k_ ?_;refine⟨vs,H1,π1,l,xs,h1,rfl,h4,?_,⟨zat h3 e1,za4 h3 e1,zao h3 e1,zas h3.base e1⟩,h2.trans (Step.keeps k),?_,e2,e3⟩
 ·cases hq:s.heap.get? l with
  |none=>rfl
  |some o=>obtain⟨o',h6⟩:=h2.ext.alive l o hq;rw[e1] at h6;cases h6
 ·refine h3.held e1 k ?_
  refine hold fun z_ k_=>?_;obtain⟨o,n,ho,_,_,hd⟩:=e2;refine k_ ?_;exact⟨o,ho,fun us q=>by rw[hd] at q;cases q⟩
theorem FrP.lst {am:Amb}{stack:List Env}{π:List Addr}{s:Shared}{r:R V}{x:Value}{s':Shared}(h:FrP am stack π s r x s'):OkP am stack (VR am) π s r x s':=by
 refine hold fun z_ k_=>?_;obtain⟨vs,H1,π1,l,xs,rfl,rfl,h3,h4,h5,h6,h7,h8,h9⟩:=h;refine k_ ?_;refine⟨_,H1,π1,rfl,h6,h7.unhold,?_⟩;simp only[VR];exact⟨l,xs,rfl,⟨h5.1,h5.2.2.1⟩,h8.is,h3,h9.reserve.2⟩
theorem FrP.cell {am:Amb}{stack:List Env}{π:List Addr}{s:Shared}{r:R V}{x:Value}{s':Shared}(h:FrP am stack π s r x s') :
  OkP am stack (VR am) π s (r.bind fun x h=>match x with|.lst vs=>.ok (.ref h.length) (h++[.list vs])|_=>.bad) x s':=by
 refine hold fun z_ k_=>?_;obtain⟨vs,H1,π1,l,xs,rfl,rfl,h3,h4,h5,h6,h7,h8,h9⟩:=h;refine k_ ?_;refine⟨_,_,π1++[l],rfl,⟨h6.same,h6.ext,?_⟩,⟨h7.base,h7.frames,by simp[h7.len],?_,h7.unhold.res,?_,?_⟩,?_⟩
 ·obtain⟨δ,rfl,hδ⟩:=h6.grow
  refine⟨δ++[l],by simp,fun a ha=>?_⟩
  rcases List.mem_append.mp ha with ha|ha
  ·exact hδ a ha
  ·rw[List.mem_singleton.mp ha];exact h4
 ·rw[List.nodup_append]
  exact⟨h7.nodup,by simp,fun a ha b hb=>by rw[List.mem_singleton.mp hb];exact fun q=>h5.1 (q ▸ ha)⟩
 ·intro a ha
  rcases List.mem_append.mp ha with ha|ha
  ·exact h7.off a ha
  ·rw[List.mem_singleton.mp ha];exact⟨h5.2.2.2,h5.2.1⟩
 ·intro i c a hi ha
  by_cases hlt:i < H1.length
  ·rw[List.getElem?_append_left hlt] at hi
   rw[List.getElem?_append_left (by rw[h7.len];exact hlt)] at ha
   obtain⟨o,ys,q0,q1,q2,q3⟩:=h7.cell i c a hi ha;exact⟨o,ys,q0,q1,q2,q3.reserve.1⟩
  ·have hi':i=H1.length:=zk8 (by have:=(List.getElem?_eq_some_iff.mp hi).1;rw[List.length_append] at this;exact this) hlt
   subst hi';simp only[List.getElem?_concat_length,Option.some.injEq] at hi;rw[←h7.len] at ha;simp only[List.getElem?_concat_length,Option.some.injEq] at ha;subst hi ha;exact .ofList h8 h3 h9.reserve.1
 ·simp only[VR]
  exact⟨l,rfl,by rw[←h7.len];simp⟩
noncomputable def JF (am:Amb) (stack:List Env) (T:PT Value) (r:R V) (π:List Addr) (s:Shared):Prop:=r=.bad∨T (FrP am stack π s r) (ErP am stack π s r) s
theorem FrP.step {am:Amb}{stack:List Env}{π π₁:List Addr}{s s₁:Shared}{r:R V}{a:Value}{s':Shared}
  (x:Step (Fs stack) π s π₁ s₁) (y:FrP am stack π₁ s₁ r a s'):FrP am stack π s r a s':=by
 refine hold fun z_ k_=>?_;obtain⟨vs,H1,π1,l,xs,h1,h2,h3,h4,h5,h6,h7⟩:=y;refine k_ ?_;refine⟨vs,H1,π1,l,xs,h1,h2,h3,?_,h5,x.trans h6,h7⟩
 cases hq:s.heap.get? l with
 |none=>rfl
 |some o=>obtain⟨o',h6⟩:=x.ext.alive l o hq;rw[h4] at h6;cases h6
section
variable {am:Amb}{stack:List Env}{A:Around}{α β γ δ:Type}{Rel:List Addr→Heap→β→α→Prop}{π:List Addr}{s:Shared}
theorem JF.bind {m:Sem α}{T:α→PT Value}(hT:∀ a,PT.Mono (T a)){r:R β}{g:β→H→R V}(h1:JAt am stack A m r Rel π s)
  (h2:∀ a b H' π' s',r=.ok b H'→Step (Fs stack) π s π' s'→HR am stack π' H' s'.heap→Rel π' s'.heap b a→JF am stack (T a) (g b H') π' s') :
  JF am stack (fun Q E s=>wpAny am.M A m (fun a s₁=>T a Q E s₁) E s) (r.bind g) π s:=by
 rcases h1 with rfl|h1
 ·exact .inl rfl
 ·cases r with
  |bad=>exact .inl rfl
  |err c H' =>
   refine .inr (wpAny_mono h1 (fun a s' h=>?_) fun e s' h=>?_)
   ·obtain⟨_,_,_,h,_⟩:=h;cases h
   ·refine hold fun z_ k_=>?_
    obtain⟨c',H'',π',e',C,fl,h,r2,r3,r4,r5,r6⟩:=h;refine k_ ?_
    cases h
    exact⟨c,H',π',e',C,fl,rfl,r2,r3,r4,r5,r6⟩
  |ok b H' =>
   by_cases hb:g b H'=.bad
   ·exact .inl hb
   ·refine .inr (wpAny_mono h1 (fun a s' h=>?_) fun e s' h=>?_)
    ·refine hold fun z_ k_=>?_
     obtain⟨b',H'',π',h,h3,h4,h5⟩:=h;refine k_ ?_
     cases h
     rcases h2 a b H' π' s' rfl h3 h4 h5 with h6|h6
     ·exact absurd h6 hb
     ·exact hT a _ _ _ _ _ (fun z_ z_ y=>FrP.step h3 y) (fun z_ z_ y=>ErP.step h3 y) h6
    ·obtain⟨_,_,_,_,_,_,h,_⟩:=h;cases h
theorem JF.rule {T T':PT Value}{r:R V}(h:JF am stack T r π s) (k:∀ Q E,T Q E s→T' Q E s):JF am stack T' r π s:=by
 rcases h with h|h
 ·exact .inl h
 ·exact .inr (k _ _ h)
theorem JF.lst {T:PT Value}{m:Sem Value}{r:R V}(h:JF am stack T r π s) (k:∀ Q E,T Q E s→wpAny am.M A m Q E s):JAt am stack A m r (VR am) π s:=by
 rcases h with h|h
 ·exact .inl h
 ·refine .inr (wpAny_mono (k _ _ h) (fun a s' h=>?_) fun z_ z_ h=>h)
  exact h.lst
theorem JF.cell {T:PT Value}{m:Sem Value}{r:R V}(h:JF am stack T r π s) (k:∀ Q E,T Q E s→wpAny am.M A m Q E s) :
  JAt am stack A m (r.bind fun x h=>match x with|.lst vs=>.ok (.ref h.length) (h++[.list vs])|_=>.bad) (VR am) π s:=by
 rcases h with rfl|h
 ·exact .inl rfl
 ·refine .inr (wpAny_mono (k _ _ h) (fun a s' h=>?_) fun z_ z_ h=>?_)
  ·exact h.cell
  ·refine hold fun z_ k_=>?_
   obtain⟨c',H'',π',e',C,fl,rfl,r2,r3,r4,r5,r6⟩:=h;refine k_ ?_;exact⟨c',H'',π',e',C,fl,rfl,r2,r3,r4,r5,r6⟩
end
noncomputable def FJ (am:Amb) (n:Nat) (q:Bool) (F:Fn) (c:Ck) (e:PE) (ex:Expr):Prop:=∀ {cx:Cx}{ρ:List V}{A:Around}{res π:List Addr}{Hc:H}{s:Shared},Base am n q F c cx ρ A→St (am.at res) q cx ρ π Hc A s →
 JF (am.at res) cx.stack (fun Q E s=>wpAny am.M A (eval ex cx.env) Q E s) (evE q F ρ e Hc) π s
theorem FJ.ej {e:PE}{ex:Expr}(h:FJ am n q F c e ex):EJ am n q F c e ex:=fun {cx ρ A res π Hc s} B st=>(h B st).lst fun z_ z_ x=>x
theorem FJ.own {e:PE}{ex:Expr}(h:FJ am n q F c e ex):EJ am n q F c (.own e) ex:=fun {cx ρ A res π Hc s} B st=>by
 simp only[zcd,zcc,zb7,zb6,zb5,zb4,zbF,zcb,zb3,za1,zaK,za0,zal,zaS,zaw,zaJ,zaZ,zar,zaz,zaI,zaH,zaY,zaX,zaR,zaW,zaG,zaq,zaF,zaV,zaE,zaU,zaQ,zaP,qE_34,zaD,zaC,zaO,zaB];exact(h B st).cell fun z_ z_ x=>x
set_option tactic.hygienic true in
theorem zk4 {es:List PE}{xs:List Expr}{p:Pos}(h:AllJ am n q F c es xs):FJ am n q F c (.list es) (.List xs p):=fun {cx ρ A res π Hc s} B st=>by
 simp only[zcd,zcc,zb7,zb6,zb5,zb4,zbF,zcb,zb3,za1,zaK,za0,zal,zaS,zaw,zaJ,zaZ,zar,zaz,zaI,zaH,zaY,zaX,zaR,zaW,zaG,zaq,zaF,zaV,zaE,zaU,zaQ,zaP,qE_34,zaD,zaC,zaO,zaB];refine JF.rule (T:=fun Q E s=>wpAny am.M A (spliced (zav xs cx.env)) (fun ys s₁=>wpAny am.M A (newList ys) Q E s₁) E s)
  (JF.bind (fun z_=>PT.wp _ _) (h.args B st) fun ys vs H1 π1 s1 z_ hs1 hr1 hv1=>?_) fun Q E h'=>?_
 ·unfold mkL
  split
  ·rename_i hle
   exact .inr (wpAny_newList (FrP.new rfl (.refl ..) hr1 hle (NewL.push (n:=0) (tk:=s1.toks) hv1 rfl rfl rfl)) (by rw[hv1.len];exact zbi hle))
  ·exact .inl rfl
 ·rw[arm_eval_List,zac _ h.stars]
  exact wpAny_bind (wpAny_standAt (wpAny_bind h'))
theorem OVR.part {am:Amb}{π:List Addr}{h:Heap}{w:Option V}{lo:Option Int}{y:Value}(h1:OVR am π h w y) (h2:w.mapM asInt?=some lo):IsPart y lo:=by
 cases w with
 |none=>cases h1;cases h2;exact .none
 |some v =>
  cases v with
  |int i=>obtain⟨t,rfl⟩:=h1;cases h2;exact .int i t
  |_=>cases h2
theorem ziH {a:PE}{lo hi:Option PE}{v:Expr}{l u:Option Expr}{p p':Pos}(ha:EJ am n q F c a v) (hl:OptJ am n q F c lo l) (hu:OptJ am n q F c hi u):FJ am n q F c (.slice a lo hi) (.Subscript v (.Slice l u none p') p):=fun {cx ρ A res π Hc s} B st=>by
 simp only[zcd,zcc,zb7,zb6,zb5,zb4,zbF,zcb,zb3,za1,zaK,za0,zal,zaS,zaw,zaJ,zaZ,zar,zaz,zaI,zaH,zaY,zaX,zaR,zaW,zaG,zaq,zaF,zaV,zaE,zaU,zaQ,zaP,qE_34,zaD,zaC,zaO,zaB];refine JF.rule (T:=fun Q E s=>wpAny am.M A (eval v cx.env) (fun x s₀=>wpAny am.M A (valueOrNone (evalOpt l cx.env)) (fun a s₁=>wpAny am.M A (valueOrNone (evalOpt u cx.env)) (fun b s₂=>wpAny am.M A (newFields "slice" [a,b,.none]) (fun i s₃=>wpAny am.M A (subscriptTail v (.Slice l u none p') x i) Q E s₃) E s₂) E s₁) E s₀) E s)
  (JF.bind (fun x=>PT.seq _ _ fun a=>PT.seq _ _ fun b=>PT.seq _ _ fun i=>PT.wp _ _) (ha B st) fun x v' H1 π1 s1 z_ hs1 hr1 hv1=>?_) fun Q E h=>?_
 ·have st1:=st.step hs1 hr1
  refine JF.bind (fun a=>PT.seq _ _ fun b=>PT.seq _ _ fun i=>PT.wp _ _) (hl.ev B st1) fun y w H2 π2 s2 z_ hs2 hr2 hv2=>?_;have st2:=st1.step hs2 hr2;refine JF.bind (fun a=>PT.seq _ _ fun i=>PT.wp _ _) (hu.ev B st2) fun z w2 H3 π3 s3 z_ hs3 hr3 hv3=>?_;unfold zbp
  cases hlo:w.mapM asInt? with
  |none=>exact .inl rfl
  |some lo=>cases hhi:w2.mapM asInt? with
   |none=>exact .inl rfl
   |some hi =>
    dsimp only
    cases hi':litems H3 v' with
    |none=>exact .inl rfl
    |some vs=>exact .inr (zlB (am:=am.at res) hr3 ((hv1.step hs2).step hs3) hi' ((hv2.step hs3).part hlo) (hv3.part hhi) fun y s1 s' h1 h2 h3 h4=>FrP.new rfl h1 h2 h3 h4)
 ·have e:eval (.Subscript v (.Slice l u none p') p) cx.env=(eval v cx.env >>= fun o=>holding [o] (valueOrNone (evalOpt l cx.env) >>= fun a=>holding [a] (valueOrNone (evalOpt u cx.env)) >>= fun b=>holding [a,b] (pure .none) >>= fun d=>newFields "slice" [a,b,d]) >>= fun i=>standAt p >>= fun z_=>subscriptTail v (.Slice l u none p') o i):=rfl
  rw[e];exact wpAny_bind (wpAny_mono h (fun o s0 h0=>wpAny_bind (wpAny_holding (wpAny_bind (wpAny_mono h0 (fun a s1 h1=>wpAny_bind (wpAny_holding (wpAny_mono h1 (fun b s2 h2=>wpAny_bind (wpAny_holding (wpAny_pure (wpAny_mono h2 (fun i s3 h3=>wpAny_bind (wpAny_standAt h3)) fun z_ z_ x=>x)))) fun z_ z_ x=>x))) fun z_ z_ x=>x)))) fun z_ z_ x=>x)
set_option tactic.hygienic true in
theorem zql {es:List PE}{xs:List Expr}{k:Nat}{p:Pos}(h:AllJ am n q F c es xs):EJ am n q F c (.tup es) (.Tuple xs k p):=fun {cx ρ A res π Hc s} B st=>by
 simp only[zcd,zcc,zb7,zb6,zb5,zb4,zbF,zcb,zb3,za1,zaK,za0,zal,zaS,zaw,zaJ,zaZ,zar,zaz,zaI,zaH,zaY,zaX,zaR,zaW,zaG,zaq,zaF,zaV,zaE,zaU,zaQ,zaP,qE_34,zaD,zaC,zaO,zaB];refine JAt.congr (arm_eval_Tuple ..) rfl (JAt.standAt ?_);rw[zac _ h.stars];refine JAt.bind (h.args B st) fun ys vs H1 π1 s1 z_ hs1 hr1 hv1=>?_;unfold mkT
 split
 ·rename_i hle
  exact .inr (wpAny_newTuple (OkP.tup (n:=0) hr1 hv1 hle rfl rfl) (by rw[hv1.len];exact zbi hle))
 ·exact .inl rfl
theorem zmM {p:Pos}:EJ am n q F c .dict0 (.Dict [] [] p):=fun {cx ρ A res π Hc s} B st=>by
 simp only[zcd,zcc,zb7,zb6,zb5,zb4,zbF,zcb,zb3,za1,zaK,za0,zal,zaS,zaw,zaJ,zaZ,zar,zaz,zaI,zaH,zaY,zaX,zaR,zaW,zaG,zaq,zaF,zaV,zaE,zaU,zaQ,zaP,qE_34,zaD,zaC,zaO,zaB];refine .inr (wpAny_Dict_empty ?_);have k:∀ b o',s.heap.get? b=some o'→(s.heap.push { cls:=.type "dict",data:=.dict #[] }).get? b=some o':=fun z_ z_ e=>Heap.get?_push_of_some _ e;refine OkP.keeps (tk:=s.toks) st.hr k ?_;simp only[VR];exact⟨_,_,_,_,rfl,⟨zat st.hr (zan _),zao st.hr (zan _)⟩,Heap.get?_push_size _ rfl,rfl,rfl⟩
theorem zbv {cx:Cx}{ρ:List V}{A:Around}{res π:List Addr}{Hc:H}{s:Shared}(B:Base am n q F c cx ρ A) (hr:HR (am.at res) cx.stack π Hc s.heap){x:Str}{v:Value}{y:Expr}{ys:List Expr}{p p':Pos}{Q:Value→Shared→Prop}{E:Value→Shared→Prop}(hx:c.glob x=true)
  (hv:(x,v)∈bTab) (hs:∀ z∈y::ys,isStar z=false)
  (h:wpAny am.M A (spliced (zav (y::ys) cx.env)) (fun vs s₁=>wpAny am.M A (PySem.call v vs []) Q E s₁) E s):wpAny am.M A (eval (.Call (.Name x p) (y::ys) [] p') cx.env) Q E s:=by
 have hp:(zav (y::ys) cx.env).any (·.1)=false:=by
  simp[zav,List.any_eq_false]
 refine wpAny_Call_Name_kw (znI B hr hx hv ?_);rw[zac _ hs];have h':wpAny am.M A (evalArgs v true (zav (y::ys) cx.env) []) (fun a s₁=>wpAny am.M A (PySem.call v ([]++a.pos) a.kw) Q E s₁) E s:=Calls.evalArgs_plain h
 rcases zo7 hv with⟨id,rfl⟩|⟨T,rfl⟩
 ·exact Calls.callWith_builtin hp h'
 ·exact PySem.callWith_type hp h'
end
section
variable {N:Nat}{r:Nat→Nat}
def KJ (N:Nat) (r:Nat→Nat){α:Type}:KasT α→(α→Prop)→Prop
 |.ret a,P=>P a
 |.ask i j k,P=>i < N∧j < N∧KJ N r (k (decide (r i < r j))) P
theorem KJ.bind {α β:Type}{f:α→KasT β}{P:β→Prop}:∀ {t:KasT α},KJ N r t (fun a=>KJ N r (f a) P)→KJ N r (t.bind f) P
 |.ret _,h=>h
 |.ask _ _ k,h=>⟨h.1,h.2.1,KJ.bind (t:=k _) h.2.2⟩
theorem KJ.mono {α:Type}{P P':α→Prop}(hp:∀ a,P a→P' a):∀ {t:KasT α},KJ N r t P→KJ N r t P'
 |.ret _,h=>hp _ h
 |.ask _ _ k,h=>⟨h.1,h.2.1,KJ.mono hp (t:=k _) h.2.2⟩
theorem KJ.wp {α:Type}{P:α→Prop}{cmp:Nat→Nat→(Bool→Shared→Prop)→Shared→Prop}{Q:α→Shared→Prop}{s:Shared}(hc:∀ i j C,i < N→j < N→C (decide (r i < r j)) s→cmp i j C s) (hq:∀ a,P a→Q a s):∀ {t:KasT α},KJ N r t P→t.kasWp cmp Q s
 |.ret _,h=>hq _ h
 |.ask i j k,h=>hc i j _ h.1 h.2.1 (KJ.wp hc hq (t:=k _) h.2.2)
structure Pm (N:Nat) (p:Array Nat):Prop where
 size:p.size=N
 lt:∀ k,p.getD k 0 < N
 perm:p.Perm (List.toArray (List.range N))
theorem Pm.of {p q:Array Nat}(h:Pm N p) (hp:q.Perm p):Pm N q:=by
 have hN:0 < N:=Nat.lt_of_le_of_lt (Nat.zero_le _) (h.lt 0);have pm:=hp.trans h.perm;refine⟨hp.size_eq.trans h.size,fun k=>?_,pm⟩
 by_cases hk:k < q.size
 ·have hm:q[k]∈q:=Array.getElem_mem hk
  have:q[k]∈List.toArray (List.range N):=pm.mem_iff.1 hm;simp at this
  simpa [Array.getD,hk] using this
 ·simp[Array.getD,hk];exact hN
theorem Pm.one (h:0 < N):Pm N (List.toArray (List.range N)):=by
 refine⟨by simp,fun k=>?_,Array.Perm.refl _⟩
 by_cases hk:k < N
 ·simp[Array.getD,hk]
 ·simp[Array.getD,hk];exact h
def Ky (r:Nat→Nat) (p:Array Nat) (k:Nat):Nat:=r (p.getD k 0)
theorem zhp {p q:Array Nat}{i j:Nat}(h:q[i]?=p[j]?):Ky r q i=Ky r p j:=by
 unfold Ky;rw[Array.getD_eq_getD_getElem?,Array.getD_eq_getD_getElem?,h]
theorem zlz {p:Array Nat}{i j:Nat}(hj:j≤p.size) (k:Nat):Ky r (kas_rev p i j) k=if i≤k∧k < j then Ky r p (i+j - 1 - k) else Ky r p k:=by
 have:=getElem?_mirror_all (i:=i) hj k
 by_cases h:i≤k∧k < j
 ·rw[if_pos h] at this ⊢;exact zhp this
 ·rw[if_neg h] at this ⊢;exact zhp this
theorem zir {p:Array Nat}(h:Pm N p) (i j:Nat):Pm N (kas_rev p i j):=h.of (mirror_perm _ _ _ _)
def Up (r:Nat→Nat) (p:Array Nat) (k:Nat):Prop:=∀ i j,i≤j→j < k→Ky r p i≤Ky r p j
def Dn (r:Nat→Nat) (p:Array Nat) (k:Nat):Prop:=∀ i j,i≤j→j < k→Ky r p j≤Ky r p i
theorem snoc {R:Nat→Nat→Prop}(rf:∀ a,R a a) (tr:∀ {a b c},R a b→R b c→R a c){k:Nat→Nat}{n:Nat}(h:∀ i j,i≤j→j < n→R (k i) (k j)) (hc:R (k (n - 1)) (k n)):∀ i j,i≤j→j < n+1→R (k i) (k j):=fun i j hij hj=>by
 rcases Nat.lt_or_eq_of_le (Nat.le_of_lt_succ hj) with hjn|rfl
 ·exact h i j hij hjn
 ·rcases Nat.lt_or_eq_of_le hij with hi|rfl
  ·exact tr (h i (j - 1) (Nat.le_sub_one_of_lt hi) (Nat.sub_lt (Nat.zero_lt_of_lt hi) Nat.one_pos)) hc
  ·exact rf _
theorem Up.snoc {p:Array Nat}{n:Nat}(h:Up r p n) (hc:Ky r p (n - 1)≤Ky r p n):Up r p (n+1):=Mine.snoc (R:=(·≤·)) Nat.le_refl Nat.le_trans h hc
theorem Dn.snoc {p:Array Nat}{n:Nat}(h:Dn r p n) (hc:Ky r p n≤Ky r p (n - 1)):Dn r p (n+1):=Mine.snoc (R:=fun a b=>b≤a) Nat.le_refl (fun a b=>Nat.le_trans b a) h hc
theorem zls {p:Array Nat}(hp:Pm N p):∀ (f n:Nat),1≤n→Up r p n→KJ N r (kas_asc p f n) (fun m=>n≤m∧m≤n+f∧Up r p m∧(m < n+f→Ky r p m < Ky r p (m - 1)))
 |0,n,h1,hu=>⟨Nat.le_refl _,Nat.le_refl _,hu,fun h=>absurd h (Nat.lt_irrefl _)⟩
 |f+1,n,h1,hu=>by
  refine⟨hp.lt _,hp.lt _,?_⟩;show KJ N r (if decide (Ky r p n < Ky r p (n - 1))=true then _ else _) _
  by_cases hc:Ky r p n < Ky r p (n - 1)
  ·rw[if_pos (decide_eq_true hc)]
   exact⟨Nat.le_refl _,Nat.le_add_right _ _,hu,fun z_=>hc⟩
  ·rw[if_neg fun e=>hc (of_decide_eq_true e)]
   have ih:=zls hp f (n+1) (Nat.le_add_left 1 n) (hu.snoc (Nat.le_of_not_lt hc));rw[Nat.add_right_comm n 1 f] at ih;exact KJ.mono (fun m hm=>⟨Nat.le_of_succ_le hm.1,hm.2⟩) ih
def Al (r:Nat→Nat) (p:Array Nat) (n q:Nat):Prop:=∀ k,n - (q+1)≤k→k < n→Ky r p k=Ky r p (n - 1)
theorem Al.zero (p:Array Nat) (n:Nat):Al r p (n+1) 0:=fun k h1 h2=>congrArg (Ky r p) (Nat.le_antisymm (Nat.le_of_lt_succ h2) h1)
theorem Al.succ {p:Array Nat}{n q:Nat}(h:Al r p n q) (e:Ky r p n=Ky r p (n - 1)):Al r p (n+1) (q+1):=fun k h1 h2=>by
 rw[Nat.add_sub_add_right] at h1
 rcases Nat.lt_or_eq_of_le (Nat.le_of_lt_succ h2) with hk|rfl
 ·exact(h k h1 hk).trans e.symm
 ·rfl
theorem Al.rev {p:Array Nat}{n q:Nat}(h:Al r p n q) (hn:n≤p.size) (k:Nat):Ky r (kas_rev p (n - (q+1)) n) k=Ky r p k:=by
 rw[zlz hn]
 by_cases hk:n - (q+1)≤k∧k < n
 ·rw[if_pos hk]
  exact(h _ (by clear h;omega) (by clear h;omega)).trans (h k hk.1 hk.2).symm
 ·rw[if_neg hk]
structure Fa (N:Nat) (r:Nat→Nat) (n m:Nat) (p:Array Nat) (k q:Nat):Prop where
 pm:Pm N p
 lo:n≤k
 hi:k≤m
 qk:q+1≤k
 dn:Dn r p k
 al:Al r p k q
theorem Fa.low {n m:Nat}{p:Array Nat}{k q:Nat}(x:Fa N r (n+1) m p k q):Fa N r n m p k q:=⟨x.pm,Nat.le_of_succ_le x.lo,x.hi,x.qk,x.dn,x.al⟩
theorem zlg:∀ (f:Nat) (p:Array Nat) (n q:Nat),Pm N p→q+1≤n→n+f≤N→Dn r p n→Al r p n q→KJ N r (kas_desc f p n q) (fun x=>Fa N r n (n+f) x.1 x.2.1 x.2.2)
 |0,p,n,q,hp,hq,_,hd,he=>⟨hp,Nat.le_refl _,Nat.le_refl _,hq,hd,he⟩
 |f+1,p,n,q,hp,hq,hN,hd,he=>by
  refine⟨hp.lt _,hp.lt _,?_⟩;show KJ N r (if decide (Ky r p n < Ky r p (n - 1))=true then _ else _) _;have step:∀ p' q',Pm N p'→q'+1≤n+1→Dn r p' (n+1)→Al r p' (n+1) q'→KJ N r (kas_desc f p' (n+1) q') (fun x=>Fa N r n (n+(f+1)) x.1 x.2.1 x.2.2):=fun p' q' a b c d=>by
   have ih:=zlg f p' (n+1) q' a b (by rw[Nat.add_right_comm];exact hN) c d
   rw[Nat.add_right_comm] at ih;exact KJ.mono (fun x hx=>hx.low) ih
  by_cases hc:Ky r p n < Ky r p (n - 1)
  ·rw[if_pos (decide_eq_true hc)]
   have hd':=hd.snoc (Nat.le_of_lt hc)
   by_cases hq0:q > 0
   ·rw[if_pos hq0]
    have key:=he.rev (by rw[hp.size];exact Nat.le_trans (Nat.le_add_right _ _) hN)
    exact step _ 0 (zir hp _ _) (Nat.le_add_left 1 n) (fun i j hij hj=>by rw[key,key];exact hd' i j hij hj) (Al.zero _ n)
   ·rw[if_neg hq0]
    exact step p 0 hp (Nat.le_add_left 1 n) hd' (Al.zero _ n)
  ·rw[if_neg fun e=>hc (of_decide_eq_true e)]
   refine⟨hp.lt _,hp.lt _,?_⟩;show KJ N r (if decide (Ky r p (n - 1) < Ky r p n)=true then _ else _) _
   by_cases hc2:Ky r p (n - 1) < Ky r p n
   ·rw[if_pos (decide_eq_true hc2)]
    exact⟨hp,Nat.le_refl _,Nat.le_add_right _ _,hq,hd,he⟩
   ·rw[if_neg fun e=>hc2 (of_decide_eq_true e)]
    have heq:=Nat.le_antisymm (Nat.le_of_not_lt hc2) (Nat.le_of_not_lt hc);exact step p (q+1) hp (Nat.succ_le_succ hq) (hd.snoc (Nat.le_of_eq heq)) (he.succ heq)
structure Cn (N:Nat) (r:Nat→Nat) (p:Array Nat) (k:Nat):Prop where
 pm:Pm N p
 lo:1≤k
 hi:k≤N
 up:Up r p k
theorem zim {p:Array Nat}{n:Nat}(hp:Pm N p) (h1:1≤n) (hn:n≤N) (hd:Dn r p n):KJ N r (kas_tail3 n N p) (fun x=>Cn N r x.2 x.1):=by
 unfold kas_tail3;have hp':=zir hp 0 n;have hu:Up r (kas_rev p 0 n) n:=fun i j hij hj=>by
  rw[zlz (by rw[hp.size];exact hn),zlz (by rw[hp.size];exact hn),if_pos ⟨Nat.zero_le _,Nat.lt_of_le_of_lt hij hj⟩,if_pos ⟨Nat.zero_le _,hj⟩]
  exact hd _ _ (Nat.sub_le_sub_left hij _) (Nat.lt_of_le_of_lt (Nat.sub_le _ _) (by rw[Nat.zero_add];exact Nat.sub_lt h1 Nat.one_pos))
 have ih:=zls hp' (N - n) n h1 hu;rw[Nat.add_sub_cancel' hn] at ih;exact KJ.bind (KJ.mono (fun m hm=>⟨hp',Nat.le_trans h1 hm.1,hm.2.1,hm.2.2.1⟩) ih)
theorem zeP {p:Array Nat}{n:Nat}(hp:Pm N p) (hn:n+1≤N) (hd:Dn r p n) (hc:Ky r p n < Ky r p (n - 1)):KJ N r (kas_descPart n N p) (fun x=>Cn N r x.2 x.1):=by
 unfold kas_descPart;have ih:=zlg (N - (n+1)) p (n+1) 0 hp (Nat.le_add_left 1 n) (Nat.le_of_eq (Nat.add_sub_cancel' hn)) (hd.snoc (Nat.le_of_lt hc)) (Al.zero p n);rw[Nat.add_sub_cancel' hn] at ih;refine KJ.bind (KJ.mono (fun x hx=>?_) ih);have lo:=Nat.le_trans (Nat.le_add_left 1 n) hx.lo
 by_cases hq:x.2.2 > 0
 ·rw[if_pos hq]
  have key:=hx.al.rev (by rw[hx.pm.size];exact hx.hi)
  exact zim (zir hx.pm _ _) lo hx.hi fun i j hij hj=>by rw[key,key];exact hx.dn i j hij hj
 ·rw[if_neg hq]
  exact zim hx.pm lo hx.hi hx.dn
theorem zmR {p:Array Nat}(hp:Pm N p) (h1:1≤N):KJ N r (kas_count N p) (fun x=>Cn N r x.2 x.1):=by
 unfold kas_count;have ih:=zls (r:=r) hp (N - 1) 1 (Nat.le_refl _) (fun i j h1 h2=>by
  cases Nat.lt_one_iff.1 h2
  cases Nat.le_zero.1 h1
  exact Nat.le_refl _)
 rw[Nat.add_sub_cancel' h1] at ih;refine KJ.bind (KJ.mono (fun n hn=>?_) ih);obtain⟨a1,a2,a3,a4⟩:=hn
 by_cases hN:n=N
 ·rw[if_pos (by simpa using hN)]
  exact⟨hp,a1,a2,a3⟩
 ·rw[if_neg (by simpa using hN)]
  have lt:=Nat.lt_of_le_of_ne a2 hN;have hc:=a4 lt
  by_cases hn1:n > 1
  ·rw[if_pos hn1]
   refine⟨hp.lt _,hp.lt _,?_⟩;show KJ N r (if decide (Ky r p 0 < Ky r p (n - 1))=true then _ else _) _
   by_cases hr:Ky r p 0 < Ky r p (n - 1)
   ·rw[if_pos (decide_eq_true hr)]
    exact⟨hp,a1,a2,a3⟩
   ·rw[if_neg fun e=>hr (of_decide_eq_true e)]
    have all:Al r p n (n - 1):=fun k z_ hk=>Nat.le_antisymm (a3 k (n - 1) (Nat.le_sub_one_of_lt hk) (Nat.sub_lt a1 Nat.one_pos)) (Nat.le_trans (Nat.le_of_not_lt hr) (a3 0 k (Nat.zero_le _) hk));have rv:=all.rev (by rw[hp.size];exact a2)
    rw[Nat.sub_add_cancel a1,Nat.sub_self] at rv;refine zeP (zir hp _ _) lt (fun i j hij hj=>?_) (by rw[rv,rv];exact hc)
    rw[rv,rv,all i (by rw[Nat.sub_add_cancel a1,Nat.sub_self];exact Nat.zero_le _) (Nat.lt_of_le_of_lt hij hj),all j (by rw[Nat.sub_add_cancel a1,Nat.sub_self];exact Nat.zero_le _) hj];exact Nat.le_refl _
  ·rw[if_neg hn1]
   refine zeP hp lt (fun i j hij hj=>?_) hc
   cases Nat.lt_one_iff.1 (Nat.lt_of_lt_of_le hj (Nat.le_of_not_lt hn1))
   cases Nat.le_zero.1 hij
   exact Nat.le_refl _
theorem zf1 {p:Array Nat}(hp:Pm N p){k:Nat}(hu:Up r p k):∀ (f l e:Nat),l≤e→e≤k→e - l≤f→(∀ i,i < l→Ky r p i≤Ky r p k)→(∀ i,e≤i→i < k→Ky r p k < Ky r p i) →
  KJ N r (kas_place p k f l e) (fun m=>m≤k∧(∀ i,i < m→Ky r p i≤Ky r p k)∧∀ i,m≤i→i < k→Ky r p k < Ky r p i)
 |0,l,e,h1,h2,h3,ha,hb=>⟨Nat.le_trans h1 h2,ha,fun i hi=>hb i (Nat.le_trans (Nat.le_of_sub_eq_zero (Nat.le_zero.1 h3)) hi)⟩
 |f+1,l,e,h1,h2,h3,ha,hb=>by
  unfold kas_place
  by_cases hle:l ≥ e
  ·rw[if_pos hle]
   exact⟨Nat.le_trans h1 h2,ha,fun i hi=>hb i (Nat.le_trans hle hi)⟩
  ·rw[if_neg hle]
   refine⟨hp.lt _,hp.lt _,?_⟩;show KJ N r (if decide (Ky r p k < Ky r p ((l+e) / 2))=true then _ else _) _;have hlt:=Nat.not_le.1 hle;obtain⟨m1,m2⟩:l≤(l+e) / 2∧(l+e) / 2 < e:=⟨(Nat.le_div_iff_mul_le (by decide)).2 (by rw[Nat.mul_two];exact Nat.add_le_add_left (Nat.le_of_lt hlt) l),Nat.div_lt_of_lt_mul (by rw[Nat.two_mul];exact Nat.add_lt_add_right hlt e)⟩
   by_cases hc:Ky r p k < Ky r p ((l+e) / 2)
   ·rw[if_pos (decide_eq_true hc)]
    exact zf1 hp hu f l _ m1 (Nat.le_trans (Nat.le_of_lt m2) h2) (Nat.le_of_lt_succ (Nat.lt_of_lt_of_le (Nat.sub_lt_sub_right m1 m2) h3)) ha fun i h4 h5=>Nat.lt_of_lt_of_le hc (hu _ _ h4 h5)
   ·rw[if_neg fun e=>hc (of_decide_eq_true e)]
    exact zf1 hp hu f _ e m2 h2 (Nat.le_of_lt_succ (Nat.lt_of_lt_of_le (Nat.sub_lt_sub_left (Nat.lt_of_not_le hle) (Nat.lt_succ_of_le m1)) h3)) (fun i h4=>Nat.le_trans (hu i ((l+e) / 2) (Nat.le_of_lt_succ h4) (Nat.lt_of_lt_of_le m2 h2)) (Nat.le_of_not_lt hc)) hb
set_option tactic.hygienic true in
theorem znC:∀ (f:Nat) (p:Array Nat) (k:Nat),Pm N p→k+f=N→Up r p k→KJ N r (kas_bin f p k) (fun p'=>Pm N p'∧Up r p' N)
 |0,p,k,hp,hk,hu=>by
  have:k=N:=hk;subst this;exact⟨hp,hu⟩
 |f+1,p,k,hp,hk,hu=>by
  unfold kas_bin;refine KJ.bind (KJ.mono (fun l hl=>?_) (zf1 hp hu k 0 k (Nat.zero_le _) (Nat.le_refl _) (Nat.sub_le k 0) (fun i h=>absurd h (Nat.not_lt_zero _)) (fun i h1 h2=>absurd h2 (Nat.not_lt_of_le h1))));obtain⟨h1,h2,h3⟩:=hl;have kb:∀ i,Ky r (bubble p k (k - l)) i=if i=l then Ky r p k else if l < i∧i≤k then Ky r p (i - 1) else Ky r p i:=fun i=>by
   have:=getElem?_bubble (xs:=p) (src:=k) (by rw[hp.size,← hk];exact Nat.lt_add_of_pos_right (Nat.succ_pos f)) (k - l) (Nat.sub_le _ _) i
   rw[Nat.sub_sub_self h1] at this
   split at this
   ·rename_i h;rw[if_pos h];exact zhp this
   ·rename_i h
    rw[if_neg h]
    split at this
    ·rename_i h';rw[if_pos h'];exact zhp this
    ·rename_i h';rw[if_neg h'];exact zhp this
  refine znC f _ (k+1) (hp.of (bubble_perm _ _ _)) (by rw[Nat.add_right_comm];exact hk) ?_
  have vlt:∀ i,i < l→Ky r (bubble p k (k - l)) i=Ky r p i:=fun i h=>by rw[kb,if_neg (Nat.ne_of_lt h),if_neg fun x=>Nat.lt_asymm h x.1]
  have veq:Ky r (bubble p k (k - l)) l=Ky r p k:=by rw[kb,if_pos rfl]
  have vgt:∀ i,l < i→i≤k→Ky r (bubble p k (k - l)) i=Ky r p (i - 1):=fun i h h'=>by rw[kb,if_neg (Nat.ne_of_gt h),if_pos ⟨h,h'⟩]
  clear kb
  intro i j hij hj;have hjk:=Nat.le_of_lt_succ hj
  rcases Nat.lt_trichotomy j l with hjl|rfl|hjl
  ·rw[vlt j hjl,vlt i (Nat.lt_of_le_of_lt hij hjl)]
   exact hu i j hij (Nat.lt_of_lt_of_le hjl h1)
  ·rw[veq]
   rcases Nat.lt_or_eq_of_le hij with hi|rfl
   ·rw[vlt i hi];exact h2 i hi
   ·rw[veq];exact Nat.le_refl _
  ·have lt:j - 1 < k:=Nat.lt_of_lt_of_le (Nat.sub_lt (Nat.zero_lt_of_lt hjl) Nat.one_pos) hjk
   have le:l≤j - 1:=Nat.le_sub_one_of_lt hjl;rw[vgt j hjl hjk]
   rcases Nat.lt_trichotomy i l with hil|rfl|hil
   ·rw[vlt i hil];exact hu i _ (Nat.le_trans (Nat.le_of_lt hil) le) lt
   ·rw[veq];exact Nat.le_of_lt (h3 _ le lt)
   ·rw[vgt i hil (Nat.le_trans hij hjk)];exact hu _ _ (Nat.sub_le_sub_right hij 1) lt
theorem znX (h2:1≤N):KJ N r (kas_sort N) (fun p=>Pm N p∧Up r p N):=by
 unfold kas_sort;refine KJ.bind (KJ.mono (fun x hx=>?_) (zmR (Pm.one h2) h2))
 by_cases h:x.1 < N
 ·rw[if_pos h,Nat.max_eq_left hx.lo]
  exact znC _ _ _ hx.pm (Nat.add_sub_cancel' hx.hi) hx.up
 ·rw[if_neg h]
  exact⟨hx.pm,Nat.le_antisymm hx.hi (Nat.le_of_not_lt h) ▸ hx.up⟩
end
section
variable {prog:Program}{w:World}{A:Around}{E:Value→Shared→Prop}{s:Shared}
theorem zjl {l b:Addr}{xs ys:List Value}{is js:List Int}{Q:Bool→Shared→Prop}(hu:A.units < cLine) (h1:s.heap.IsList l xs.toArray) (h2:s.heap.IsList b ys.toArray) (I1:IntsAre xs is) (I2:IntsAre ys js) (h:Q (lexLt is js) s) :
  wpAny (model prog w) A (keyLt' oneType' (.ref l) (.ref b)) Q E s:=by
 obtain⟨⟨k1,d1,u1,s1⟩,ho1,c1,n1,e1⟩:=h1;obtain⟨⟨k2,d2,u2,s2⟩,ho2,c2,n2,e2⟩:=h2;simp only at c1 c2 e1 e2;subst c1 c2 e1 e2;rw[keyLt'_oneType,oneLt'_eq];simp only[if_true];refine wpAny_bind (wpAny_cRoomFor hu ?_);exact wpAny_bind (wpAny_callSpecialIfBound?_slot ⟨_,ho1,rfl⟩ F.slot_list_lt (call_meets F.slot_list_lt ⟨_,ho1,rfl⟩ F.entry_list_lt (F.args_list_lt_2 _ _) (ziz l b d1 d2 s1 s2 xs ys is js n1 n2 I1 I2) ⟨ho1,ho2,wpAny_truthy_bool h⟩))
theorem zf6 {a:Addr}{vs:List Value}{n:Nat}{κ:SortKind}{r:Nat→Nat}{P:PySem.Fin→Shared→Prop}(ho:s.heap.get? a=some (seqObj "list" vs.toArray n)) (h2:2≤vs.length) (h64:vs.length < 64)
  (hk:∀ {Q:SortKind→Shared→Prop},Q κ { s with heap:=((s.heap.update a (Obj.mapSeq fun z_=>#[])).push (seqObj "tuple" vs.toArray 0)).push (seqObj "list" #[] 0) }→wpAny (model prog w) A (keyKind' vs.toArray) Q E { s with heap:=((s.heap.update a (Obj.mapSeq fun z_=>#[])).push (seqObj "tuple" vs.toArray 0)).push (seqObj "list" #[] 0) })
  (hc:∀ i j C,i < vs.length→j < vs.length→C (decide (r i < r j)) { s with heap:=((s.heap.update a (Obj.mapSeq fun z_=>#[])).push (seqObj "tuple" vs.toArray 0)).push (seqObj "list" #[] 0) }→kas_ask prog w A κ vs i j C { s with heap:=((s.heap.update a (Obj.mapSeq fun z_=>#[])).push (seqObj "tuple" vs.toArray 0)).push (seqObj "list" #[] 0) })
  (h:∀ p,Pm vs.length p→Up r p vs.length→P (.done (.ret .none)) { s with heap:=sortedHeap s.heap a vs (p.toList.map fun i=>vs.getD i Value.none).toArray }) :
  wpAny (model prog w) A (Builtin.«list.sort» ⟨[.ref a],[]⟩) P E s:=by
 rw[list_sort_plain];have ha:a < s.heap.objs.size:=Heap.lt_size ho;have hle:vs.length≤sizeLine:=Nat.le_trans (Nat.le_of_lt h64) (by decide)
 refine wpAny_bind (listItems_at ho rfl (wpAny_bind (listUpdate_at ho rfl ?_ (by rw[List.size_toArray];exact hle) (Nat.zero_le _))))
 obtain⟨e1,ho1⟩:∃ e1,(s.heap.update a (Obj.mapSeq fun z_=>#[])).get? a=some (seqObj "list" #[] e1):=⟨_,get?_update_seq ho (fun z_=>#[])⟩;refine wpAny_bind (seqEpoch_at ho1 rfl (wpAny_bind (wpAny_newTuple (wpAny_bind (wpAny_newList (wpAny_holding ?_) (Nat.zero_le _))) hle)));have ho6:(((s.heap.update a (Obj.mapSeq fun z_=>#[])).push (seqObj "tuple" vs.toArray 0)).push (seqObj "list" #[] 0)).get? a=some (seqObj "list" #[] e1) :=
  Heap.get?_push_of_some _ (Heap.get?_push_of_some _ ho1)
 show wpAny (model prog w) A _ P E { s with heap:=((s.heap.update a (Obj.mapSeq fun z_=>#[])).push (seqObj "tuple" vs.toArray 0)).push (seqObj "list" #[] 0) }
 dsimp only;have hn2:¬ vs.toArray.size < 2:=by rw[List.size_toArray];exact Nat.not_lt.2 h2
 rw[if_neg hn2,if_neg hn2];refine wpAny_bind (hk ?_);have est:SortSt.mk' κ (vs.toArray.zip vs.toArray) #[] 7 none=kas_st κ (pairsOf vs) (List.toArray (List.range vs.length)):=by
  have e:=kas_range (pairsOf vs);rw[pairsOf_size] at e;show SortSt.mk' κ (pairsOf vs) #[] 7 none=SortSt.mk' κ ((List.toArray (List.range vs.length)).map (kas_item (pairsOf vs))) #[] 7 none;rw[e]
 have run:=kas_runs (E:=E) (prog:=prog) (w:=w) (A:=A) (κ:=κ) (it:=pairsOf vs) (s:={ s with heap:=((s.heap.update a (Obj.mapSeq fun z_=>#[])).push (seqObj "tuple" vs.toArray 0)).push (seqObj "list" #[] 0) })
  (Q:=fun z_ st' s'=>∃ p:Array Nat,arrOf st'=p.map (kas_item (pairsOf vs))∧failedOf st'=none∧s'={ s with heap:=((s.heap.update a (Obj.mapSeq fun z_=>#[])).push (seqObj "tuple" vs.toArray 0)).push (seqObj "list" #[] 0) }∧Pm vs.length p∧Up r p vs.length)
  (G:=fun p s'=>s'={ s with heap:=((s.heap.update a (Obj.mapSeq fun z_=>#[])).push (seqObj "tuple" vs.toArray 0)).push (seqObj "list" #[] 0) }∧Pm vs.length p∧Up r p vs.length)
  h2 h64 (fun p' st' s' z_ a2 a3 a4=>⟨p',a2,a3,a4⟩) (by
   rw[←kas_ask_eq];exact KJ.wp hc (fun p hp=>⟨rfl,hp⟩) (znX (by omega)))
 rw[←est] at run;refine wpAny_bind (wpAny_mono run ?_ fun z_ z_ e=>e)
 rintro⟨⟨⟩,st'⟩ s' ⟨p,har,hf,rfl,hp,hu⟩
 dsimp only;have hout:(arrOf st').map (·.2)=(p.toList.map fun i=>vs.getD i Value.none).toArray:=by
  apply Array.toList_inj.mp
  rw[har,Array.map_map,Array.toList_map];exact List.map_congr_left fun i z_=>by show(kas_item (pairsOf vs) i).2=_;rw[kas_item_eq]
 rw[hout];refine wpAny_bind (seqEpoch_at ho6 rfl (wpAny_bind (listUpdate_at ho6 rfl ?_ (Nat.zero_le _) (by
  show((p.toList.map fun i=>vs.getD i Value.none).toArray).size≤_;rw[List.size_toArray,List.length_map,Array.length_toList,hp.size];exact Nat.le_succ_of_le hle))))
 rw[hf];simp only[bne_self_eq_false,Bool.false_eq_true,if_false];exact wpAny_pure (h p hp hu)
end
end Mine
namespace Mine
structure Ord {α:Type}(lt:α→α→Bool):Prop where
 irr:∀ a,lt a a=false
 tr:∀ a b c,lt a b=true→lt b c=true→lt a c=true
 tot:∀ a b,lt a b=false→lt b a=false→a=b
theorem zeQ {β:Type}{p q:β→Bool}:∀ {l:List β},(∀ x∈l,p x=true→q x=true)→(∃ x∈l,p x=false∧q x=true)→l.countP p < l.countP q
 |[],_,⟨_,h,_⟩=>nomatch h
 |a::l,hpq,⟨x,hx,h1,h2⟩=>by
  have hl:∀ x∈l,p x=true→q x=true:=fun x hx=>hpq x (List.mem_cons_of_mem _ hx);have hle:l.countP p≤l.countP q:=List.countP_mono_left hl;rw[List.countP_cons,List.countP_cons]
  rcases List.mem_cons.1 hx with rfl|hx
  ·rw[h1,h2];exact Nat.lt_succ_of_le hle
  ·have:=zeQ hl ⟨x,hx,h1,h2⟩
   have ha:=hpq a (List.mem_cons_self ..)
   cases hpa:p a with
   |true=>rw[ha hpa];exact Nat.add_lt_add_right this _
   |false=>exact Nat.lt_of_lt_of_le this (Nat.le_add_right ..)
section
variable {α:Type}{lt:α→α→Bool}
noncomputable def rank (lt:α→α→Bool) (key:Nat→α) (n i:Nat):Nat:=(List.range n).countP fun j=>lt (key j) (key i)
theorem zkd (o:Ord lt){key:Nat→α}{n i j:Nat}(hi:i < n) (hj:j < n):lt (key i) (key j)=decide (rank lt key n i < rank lt key n j):=by
 have up:∀ i j,i < n→lt (key i) (key j)=true→rank lt key n i < rank lt key n j:=fun i j hi h =>
  zeQ (fun x z_ hx=>o.tr _ _ _ hx h) ⟨i,List.mem_range.2 hi,o.irr _,h⟩
 cases h:lt (key i) (key j) with
 |true=>exact(decide_eq_true (up i j hi h)).symm
 |false =>
  cases h':lt (key j) (key i) with
  |true=>exact(decide_eq_false (Nat.lt_asymm (up j i hj h'))).symm
  |false =>
   have:=o.tot _ _ h h';refine(decide_eq_false ?_).symm;unfold rank;rw[this];exact Nat.lt_irrefl _
theorem zgs (x:α):∀ l:List α,(isort.insertBy' lt x l).Perm (x::l)
 |[]=>List.Perm.refl _
 |y::ys=>by
  rw[zd8]
  split
  ·exact((zgs x ys).cons y).trans (List.Perm.swap ..)
  ·exact List.Perm.refl _
theorem zbK:∀ l:List α,(isort lt l).Perm l
 |[]=>List.Perm.refl _
 |x::xs=>(zgs x _).trans ((zbK xs).cons x)
set_option tactic.hygienic true in
theorem znp {le:α→α→Prop}(h1:∀ a b,lt a b=true→le a b) (h2:∀ a b,lt a b=false→le b a) (ht:∀ a b c,le a b→le b c→le a c) (x:α):∀ l:List α,l.Pairwise le→(isort.insertBy' lt x l).Pairwise le
 |[],_=>List.pairwise_singleton ..
 |y::ys,h=>by
  obtain⟨h3,h4⟩:=List.pairwise_cons.1 h;rw[zd8]
  split
  ·rename_i hc
   refine List.pairwise_cons.2 ⟨fun z hz=>?_,znp h1 h2 ht x ys h4⟩
   rcases List.mem_cons.1 ((zgs x ys).mem_iff.1 hz) with rfl|hz
   ·exact h1 _ _ hc
   ·exact h3 z hz
  ·rename_i hc
   have hle:=h2 y x (by simpa using hc)
   refine List.pairwise_cons.2 ⟨fun z hz=>?_,h⟩
   rcases List.mem_cons.1 hz with rfl|hz
   ·exact hle
   ·exact ht _ _ _ hle (h3 z hz)
theorem zd7 {le:α→α→Prop}(h1:∀ a b,lt a b=true→le a b) (h2:∀ a b,lt a b=false→le b a) (ht:∀ a b c,le a b→le b c→le a c):∀ l:List α,(isort lt l).Pairwise le
 |[]=>List.Pairwise.nil
 |x::xs=>znp h1 h2 ht x _ (zd7 h1 h2 ht xs)
theorem Ord.asymm (o:Ord lt){a b:α}(h:lt a b=true):lt b a=false:=by
 cases h':lt b a with
 |false=>rfl
 |true=>have:=o.tr _ _ _ h h';rw[o.irr] at this;cases this
theorem Ord.le_tr (o:Ord lt){a b c:α}(h1:lt b a=false) (h2:lt c b=false):lt c a=false:=by
 cases h:lt c a with
 |false=>rfl
 |true =>
  cases h3:lt a b with
  |true=>have:=o.tr _ _ _ h h3;rw[h2] at this;cases this
  |false=>have e:=o.tot _ _ h3 h1;subst e;rw[h2] at h;cases h
end
theorem zom:Ord fun a b:Int=>decide (a < b):=⟨fun a=>decide_eq_false (Int.lt_irrefl a),fun a b c h1 h2=>decide_eq_true (Int.lt_trans (of_decide_eq_true h1) (of_decide_eq_true h2)),fun a b h1 h2=>Int.le_antisymm (Int.not_lt.1 (of_decide_eq_false h2)) (Int.not_lt.1 (of_decide_eq_false h1))⟩
theorem zhT:∀ a:List Int,lexLt a a=false
 |[]=>rfl
 |x::a=>by rw[zdy,if_pos rfl];exact zhT a
theorem zkC:∀ a b c:List Int,lexLt a b=true→lexLt b c=true→lexLt a c=true
 |[],[],_,h,_=>by cases h
 |[],_::_,[],_,h=>by cases h
 |[],_::_,_::_,_,_=>rfl
 |_::_,[],_,h,_=>by cases h
 |_::_,_::_,[],_,h=>by cases h
 |x::a,y::b,z::c,h1,h2=>by
  rw[zdy] at h1 h2 ⊢
  by_cases e1:x=y
  ·subst e1
   rw[if_pos rfl] at h1
   by_cases e2:x=z
   ·subst e2
    rw[if_pos rfl] at h2 ⊢
    exact zkC a b c h1 h2
   ·rw[if_neg e2] at h2 ⊢;exact h2
  ·rw[if_neg e1] at h1
   have h1:=of_decide_eq_true h1
   by_cases e2:y=z
   ·subst e2
    rw[if_neg e1];exact decide_eq_true h1
   ·rw[if_neg e2] at h2
    have h2:=of_decide_eq_true h2;rw[if_neg fun q=>absurd (Int.lt_trans h1 h2) (by rw[q];exact Int.lt_irrefl _)];exact decide_eq_true (Int.lt_trans h1 h2)
theorem zhS:∀ a b:List Int,lexLt a b=false→lexLt b a=false→a=b
 |[],[],_,_=>rfl
 |[],_::_,h,_=>by cases h
 |_::_,[],_,h=>by cases h
 |x::a,y::b,h1,h2=>by
  rw[zdy] at h1 h2
  by_cases e:x=y
  ·subst e
   rw[if_pos rfl] at h1 h2;rw[zhS a b h1 h2]
  ·rw[if_neg e] at h1
   rw[if_neg (Ne.symm e)] at h2;have h1:=of_decide_eq_false h1;have h2:=of_decide_eq_false h2;exact absurd (Int.le_antisymm (Int.not_lt.1 h2) (Int.not_lt.1 h1)) e
theorem zkn:Ord lexLt:=⟨zhT,zkC,zhS⟩
end Mine
namespace Mine
open PySem PySem.W PyProof.Rows
section
variable {α:Type}{lt:α→α→Bool}
theorem zfS (o:Ord lt){β:Type}{L:List (α × β)}{d:α × β}(det:∀ p∈L,∀ q∈L,p.1=q.1→p.2=q.2){p:Array Nat}(hp:Pm L.length p) (hu:Up (rank lt (fun i=>(L.getD i d).1) L.length) p L.length) :
  p.toList.map (fun i=>L.getD i d)=isort (fun a b=>lt a.1 b.1) L:=by
 have pm:(p.toList.map fun i=>L.getD i d).Perm L:=by
  have h1:p.toList.Perm (List.range L.length):=by simpa using hp.perm.toList
  have h2:=h1.map fun i=>L.getD i d;have h3:(List.range L.length).map (fun i=>L.getD i d)=L:=List.ext_getElem (by simp) fun i h1 h2=>by simp[h2]
  rwa [h3] at h2
 refine List.Perm.eq_of_pairwise (le:=fun a b=>lt b.1 a.1=false) (fun a b ha hb h1 h2=>?_) ?_ (zd7 (lt:=fun a b:α × β=>lt a.1 b.1) (le:=fun a b=>lt b.1 a.1=false) (fun a b h=>o.asymm h) (fun a b h=>h) (fun a b c h1 h2=>o.le_tr h1 h2) L) (pm.trans (zbK L).symm)
 ·have ha:=pm.mem_iff.1 ha
  have hb:=(zbK L).mem_iff.1 hb;have e1:=o.tot _ _ h2 h1;exact Prod.ext e1 (det a ha b hb e1)
 ·rw[List.pairwise_iff_getElem]
  intro i j hi hj hij;simp only[List.length_map,Array.length_toList,hp.size] at hi hj;have hk:=hu i j (Nat.le_of_lt hij) hj;have e:∀ k,(hk:k < L.length)→p.toList[k]'(by rw[Array.length_toList,hp.size];exact hk)=p.getD k 0:=fun k hk=>by
   simp[Array.getD,hp.size,hk]
  rw[List.getElem_map,List.getElem_map,e i hi,e j hj];rw[zkd o (key:=fun i=>(L.getD i d).1) (hp.lt j) (hp.lt i)];exact decide_eq_false (Nat.not_lt.2 hk)
end
section
variable {prog:Program}{w:World}{A:Around}{E:Value→Shared→Prop}{s:Shared}
theorem zeF {a:Addr}{vs:List Value}{n:Nat}{P:PySem.Fin→Shared→Prop}(ho:s.heap.get? a=some (seqObj "list" vs.toArray n)) (h2:vs.length < 2)
  (h:P (.done (.ret .none)) { s with heap:=sortedHeap s.heap a vs vs.toArray }):wpAny (model prog w) A (Builtin.«list.sort» ⟨[.ref a],[]⟩) P E s:=by
 rw[list_sort_plain];have hle:vs.length≤sizeLine:=Nat.le_trans (Nat.le_of_lt h2) (by decide)
 refine wpAny_bind (listItems_at ho rfl (wpAny_bind (listUpdate_at ho rfl ?_ (by rw[List.size_toArray];exact hle) (Nat.zero_le _))))
 obtain⟨e1,ho1⟩:∃ e1,(s.heap.update a (Obj.mapSeq fun z_=>#[])).get? a=some (seqObj "list" #[] e1):=⟨_,get?_update_seq ho (fun z_=>#[])⟩;refine wpAny_bind (seqEpoch_at ho1 rfl (wpAny_bind (wpAny_newTuple (wpAny_bind (wpAny_newList (wpAny_holding ?_) (Nat.zero_le _))) hle)));have ho6:(((s.heap.update a (Obj.mapSeq fun z_=>#[])).push (seqObj "tuple" vs.toArray 0)).push (seqObj "list" #[] 0)).get? a=some (seqObj "list" #[] e1) :=
  Heap.get?_push_of_some _ (Heap.get?_push_of_some _ ho1)
 show wpAny (model prog w) A _ P E { s with heap:=((s.heap.update a (Obj.mapSeq fun z_=>#[])).push (seqObj "tuple" vs.toArray 0)).push (seqObj "list" #[] 0) }
 dsimp only;have hn2:vs.toArray.size < 2:=by rw[List.size_toArray];exact h2
 rw[if_pos hn2,if_pos hn2];refine wpAny_bind (wpAny_pure ?_);rw[StateT.run_pure];refine wpAny_bind (wpAny_pure ?_);dsimp only;have hout:(vs.toArray.zip vs.toArray).map (·.2)=vs.toArray:=by
  apply Array.toList_inj.mp
  rw[Array.toList_map];show List.map _ (pairsOf vs).toList=vs;rw[pairsOf_toList];exact List.map_snd_zip (Nat.le_refl _)
 rw[show arrOf (SortSt.mk' general' (vs.toArray.zip vs.toArray) #[] 7 none)=vs.toArray.zip vs.toArray from rfl,hout];refine wpAny_bind (seqEpoch_at ho6 rfl (wpAny_bind (listUpdate_at ho6 rfl ?_ (Nat.zero_le _) (by show vs.toArray.size≤_;rw[List.size_toArray];exact Nat.le_succ_of_le hle))))
 simp only[bne_self_eq_false,Bool.false_eq_true,if_false];exact wpAny_pure h
theorem zen {x:Value}{vs:List Value}{κ:SortKind}{r:Nat→Nat}{Q:Value→Shared→Prop}(h64:vs.length < 64)
  (hcol:∀ {E':Value→Shared→Prop}{Q':List Value→Shared→Prop},(∀ h₁ tk,(∀ b o,s.heap.get? b=some o→h₁.get? b=some o)→Q' vs { s with heap:=h₁,toks:=tk })→wpAny (model prog w) A.in1 (collect x) Q' E' s)
  (hk:2≤vs.length→∀ {A:Around}{E:Value→Shared→Prop}{s':Shared}{Q:SortKind→Shared→Prop},(∀ b o,s.heap.get? b=some o→s'.heap.get? b=some o)→Q κ s'→wpAny (model prog w) A (keyKind' vs.toArray) Q E s')
  (hc:2≤vs.length→∀ i j C s',i < vs.length→j < vs.length→(∀ b o,s.heap.get? b=some o→s'.heap.get? b=some o)→C (decide (r i < r j)) s'→kas_ask prog w A.in1.in1 κ vs i j C s')
  (h:∀ out a e h' tk,(vs.length < 2∧out=vs∨2≤vs.length∧∃ p,Pm vs.length p∧Up r p vs.length∧out=p.toList.map fun i=>vs.getD i Value.none)→(∀ b o,s.heap.get? b=some o→h'.get? b=some o)→s.heap.get? a=none→h'.get? a=some (seqObj "list" out.toArray e)→Q (.ref a) { s with heap:=h',toks:=tk }) :
  wpAny (model prog w) A (call (.builtin "sorted") [x]) Q E s:=by
 have hle:vs.length≤sizeLine:=Nat.le_trans (Nat.le_of_lt h64) (by decide)
 refine Calls.call_function_entry kind_sorted plain_sorted entry_sorted (args_sorted1 _) ?_;unfold Builtin.«sorted»
 refine wpAny_bind (m:=checkCount "sorted" 1 1 _) (wpAny_pure (wpAny_bind (hcol fun h₁ tk k1=>wpAny_bind (wpAny_newList ?_ hle))));have hoL:(h₁.push (seqObj "list" vs.toArray 0)).get? h₁.objs.size=some (seqObj "list" vs.toArray 0):=Heap.get?_push_size _ rfl;have old:∀ {b o},s.heap.get? b=some o→b < h₁.objs.size:=fun q=>Heap.lt_size (k1 _ _ q);have fresh:s.heap.get? h₁.objs.size=none:=by
  cases q:s.heap.get? h₁.objs.size with
  |none=>rfl
  |some o=>exact absurd (old q) (Nat.lt_irrefl _)
 have k2:∀ b o,s.heap.get? b=some o→(h₁.push (seqObj "list" vs.toArray 0)).get? b=some o:=fun b o q=>Heap.get?_push_of_some _ (k1 b o q);refine wpAny_bind (wpAny_holding (wpAny_call_entry slot_list_sort ⟨_,hoL,rfl⟩ entry_list_sort ?_ (args_list_sort _)));have fin:∀ out:List Value,(vs.length < 2∧out=vs∨2≤vs.length∧∃ p,Pm vs.length p∧Up r p vs.length∧out=p.toList.map fun i=>vs.getD i Value.none)→Q (.ref h₁.objs.size) { s with heap:=sortedHeap (h₁.push (seqObj "list" vs.toArray 0)) h₁.objs.size vs out.toArray,toks:=tk }:=fun out ho=>by
  obtain⟨e,he⟩:=sortedHeap_at (out:=out.toArray) hoL;refine h out _ e _ tk ho (fun b o q=>?_) fresh he;rw[sortedHeap_old (Nat.ne_of_lt (old q)) (Nat.lt_trans (old q) (Heap.lt_size hoL))];exact k2 b o q
 rcases Nat.lt_or_ge vs.length 2 with h2|h2
 ·exact zeF (s:={ s with heap:=h₁.push (seqObj "list" vs.toArray 0),toks:=tk }) hoL h2 ⟨_,rfl,wpAny_pure ⟨_,rfl,fin vs (.inl ⟨h2,rfl⟩)⟩⟩
 ·have k3:∀ b o,s.heap.get? b=some o→(((((h₁.push (seqObj "list" vs.toArray 0)).update h₁.objs.size (Obj.mapSeq fun z_=>#[])).push (seqObj "tuple" vs.toArray 0)).push (seqObj "list" #[] 0))).get? b=some o:=fun b o q=>by
   refine Heap.get?_push_of_some _ (Heap.get?_push_of_some _ ?_);rw[Heap.get?_update_ne _ _ _ _ (Nat.ne_of_lt (old q))];exact k2 b o q
  exact zf6 (s:={ s with heap:=h₁.push (seqObj "list" vs.toArray 0),toks:=tk }) hoL h2 h64 (fun hq=>hk h2 k3 hq) (fun i j C hi hj hC=>hc h2 i j C _ hi hj k3 hC)
   fun p hp hu=>⟨_,rfl,wpAny_pure ⟨_,rfl,fin _ (.inr ⟨h2,p,hp,hu,rfl⟩)⟩⟩
end
theorem zeI {α:Type}{f:V→Option α}:∀ {vs:List V}{L:List (α × V)},keyed f vs=some L→L.length=vs.length∧∀ (i:Nat) (v:V),vs[i]?=some v→∃ a,L[i]?=some (a,v)∧f v=some a
 |[],L,h=>by cases h;exact⟨rfl,fun i v h=>by simp at h⟩
 |v::vs,L,h=>by
  simp only[zgi,zeJ,Option.bind_eq_some_iff,Option.map_eq_some_iff] at h;obtain⟨a,ha,L',hL,rfl⟩:=h;obtain⟨h1,h2⟩:=zeI hL;refine⟨by simp[h1],fun i w hw=>?_⟩
  cases i with
  |zero=>simp only[List.getElem?_cons_zero,Option.some.injEq] at hw;subst hw;exact⟨a,rfl,ha⟩
  |succ i=>exact h2 i w (by simpa using hw)
theorem zlu {am:Amb}{π:List Addr}{h:Heap}{vs:List V}{xs:List Value}(hv:VRs am π h vs xs):∀ (is:List Nat),(∀ i∈is,i < vs.length)→VRs am π h (is.map fun i=>vs.getD i .none) (is.map fun i=>xs.getD i Value.none)
 |[],_=>rfl
 |i::is,hi=>by
  have h1:=hi i (List.mem_cons_self ..);have e:vs[i]?=some (vs.getD i .none):=by simp[h1]
  obtain⟨x,hx,hvx⟩:=hv.get i _ e;have ex:xs.getD i Value.none=x:=by simp[List.getD_eq_getElem?_getD,hx]
  exact⟨x,_,by rw[List.map_cons,ex],hvx,zlu hv is fun j hj=>hi j (List.mem_cons_of_mem _ hj)⟩
theorem zhY {α:Type}(lt:α→α→Bool):∀ (L:List α),L.length < 2→isort lt L=L
 |[],_=>rfl
 |[_],_=>rfl
 |_::_::_,h=>absurd h (by simp)
section
variable {am:Amb}{stack:List Env}{A:Around}{π:List Addr}{s:Shared}{Hc:H}
theorem zni {N:Nat}{p:Array Nat}(hp:Pm N p):∀ i∈p.toList,i < N:=fun i hi=>by
 have:i∈List.toArray (List.range N):=hp.perm.mem_iff.1 (Array.mem_toList_iff.1 hi)
 simpa using this
set_option tactic.hygienic true in
theorem zee {α:Type} [DecidableEq α] {lt:α→α→Bool}(o:Ord lt){f:V→Option α}{src:Value}{vs ws:List V}{xs:List Value}{L:List (α × V)}{κ:SortKind}(dflt:α)
  (hcol:∀ {E':Value→Shared→Prop}{Q':List Value→Shared→Prop},(∀ h₁ tk,(∀ b o,s.heap.get? b=some o→h₁.get? b=some o)→Q' xs { s with heap:=h₁,toks:=tk })→wpAny am.M A.in1 (collect src) Q' E' s)
  (hv:VRs am π s.heap vs xs) (hL:keyed f vs=some L) (hw:sortBy lt L=some ws)
  (hk:2≤xs.length→∀ {A:Around}{E:Value→Shared→Prop}{s':Shared}{Q:SortKind→Shared→Prop},(∀ b o,s.heap.get? b=some o→s'.heap.get? b=some o)→Q κ s'→wpAny am.M A (keyKind' xs.toArray) Q E s')
  (hc:∀ v x u y a b s',VR am π s.heap v x→VR am π s.heap u y→f v=some a→f u=some b→(∀ b o,s.heap.get? b=some o→s'.heap.get? b=some o)→∀ C:Bool→Shared→Prop,C (lt a b) s'→wpAny am.M A.in1.in1 (keyLt' κ x y) C (fun z_ z_=>False) s')
  {Q:Value→Shared→Prop}{E:Value→Shared→Prop}(h:∀ y s',NewL am π s ws y s'→Q y s'):wpAny am.M A (call (.builtin "sorted") [src]) Q E s:=by
 obtain⟨hlen,hget⟩:=zeI hL;have hx:=hv.len;unfold sortBy at hw
 split at hw
 ·rename_i hcond
  simp only[Bool.and_eq_true,decide_eq_true_eq,List.all_eq_true] at hcond;obtain⟨h64,det⟩:=hcond
  cases hw
  have at':∀ i,i < xs.length→∃ v a,vs[i]?=some v∧L[i]?=some (a,v)∧f v=some a∧VR am π s.heap v (xs.getD i Value.none)∧(L.getD i (dflt,.none)).1=a:=fun i hi=>by
   have e:vs[i]?=some (vs.getD i .none):=by
    have:i < vs.length:=hx ▸ hi;simp[this]
   obtain⟨a,e1,e2⟩:=hget i _ e;obtain⟨x,e3,e4⟩:=hv.get i _ e;have ex:xs.getD i Value.none=x:=by simp[List.getD_eq_getElem?_getD,e3]
   exact⟨_,a,e,e1,e2,by rw[ex];exact e4,by simp[List.getD_eq_getElem?_getD,e1]⟩
  refine zen (κ:=κ) (r:=rank lt (fun i=>(L.getD i (dflt,.none)).1) xs.length) (by rw[hx,← hlen];exact h64) hcol hk ?_ ?_
  ·intro _ i j C s' hi hj k hC
   obtain⟨v,a,_,_,e3,e4,e5⟩:=at' i hi;obtain⟨u,b,_,_,f3,f4,f5⟩:=at' j hj;refine hc v _ u _ a b s' e4 f4 e3 f3 k C ?_;rw[←zkd o hi hj,e5,f5] at hC;exact hC
  ·intro out a e h' tk ho k fr hg
   refine h _ _ ⟨_,out,h',tk,rfl,rfl,k,fr,⟨_,e,hg,rfl,rfl,rfl⟩,VRs.keeps k (VRs.held fr ?_)⟩
   rcases ho with⟨h2,rfl⟩|⟨_,p,hp,hu,rfl⟩
   ·have:(isort (fun a b=>lt a.1 b.1) L).map (·.2)=vs:=by
     have e:L.map (·.2)=vs:=List.ext_getElem? fun i=>by
      rw[List.getElem?_map]
      cases hvi:vs[i]? with
      |none=>rw[List.getElem?_eq_none (by rw[hlen];simpa using hvi)];rfl
      |some v=>obtain⟨a,e1,_⟩:=hget i v hvi;rw[e1];rfl
     rw[zhY _ L (by rw[hlen,← hx];exact h2),e]
    rw[this];exact hv
   ·have exl:xs.length=L.length:=hx.trans hlen.symm
    rw[exl] at hp hu;rw[←zfS o (d:=(dflt,V.none)) (fun p hp q hq=>det p hp q hq) hp hu,List.map_map];have e:=zlu hv p.toList (fun i hi=>by rw[←hlen];exact zni hp i hi)
    have e2:(p.toList.map ((fun x:α × V=>x.2)∘fun i=>L.getD i (dflt,V.none)))=p.toList.map fun i=>vs.getD i .none:=List.map_congr_left fun i hi=>by
     have:=zni hp i hi;obtain⟨v,a,e1,e2,_⟩:=at' i (by rw[exl];exact this)
     simp[List.getD_eq_getElem?_getD,e1,e2]
    rw[e2];exact e
 ·cases hw
end
theorem zox {x y:Value}{xs ys:List Value}:decide ((x::xs).length < (y::ys).length)=decide (xs.length < ys.length):=decide_eq_decide.2 Nat.succ_lt_succ_iff
theorem zow {prog:Program}{w:World}{A:Around}{s:Shared}{Q:Bool→Shared→Prop}{xs:List Value}{is:List Int}(h1:IntsAre xs is):∀ {ys:List Value}{js:List Int}(k:Nat),IntsAre ys js→Q (lexLt is js) s→KatLex prog w A true (decide (xs.length < ys.length)) Q (xs.zip ys) k s:=by
 induction h1 with
 |nil =>
  intro ys js k h2 h
  cases h2 with
  |nil=>exact h
  |cons j u h2=>exact h
 |cons i t h1 ih =>
  intro ys js k h2 h
  cases h2 with
  |nil=>exact h
  |cons j u h2 =>
   rw[zdy] at h;refine kat_cons (wpAny_eqBool_int ?_)
   by_cases e:i=j
   ·rw[if_pos e] at h
    rw[show(i == j)=true from beq_iff_eq.2 e];refine kat_yes ?_;rw[zox];exact ih (k+1) h2 h
   ·rw[if_neg e] at h
    rw[show(i == j)=false from beq_false_of_ne e];refine kat_no ?_
    cases k with
    |zero=>exact oneLt_int h
    |succ k=>exact kat_one _ _ (lt_int h)
section
variable {am:Amb}{stack:List Env}{A:Around}{π:List Addr}{s:Shared}{Hc:H}
theorem zgk {h:Heap}{v:V}{x:Value}{is:List Int}(hvx:VR am π h v x) (hk:keyT1 v=some is):∃ b o n y ys,x=.ref b∧h.get? b=some o∧o.cls=.type "tuple"∧o.data=.seq (List.toArray (y::ys)) n∧IntsAre (y::ys) is:=by
 cases v with
 |tup us =>
  cases us with
  |nil=>cases hk
  |cons u us =>
   simp only[VR] at hvx;obtain⟨b,ys,rfl,_,⟨o,ho,hc,n,hd⟩,_,hvs⟩:=hvx;have hi:=zcY (show asInts (u::us)=some is from hk) hvs;obtain⟨y,ys',rfl,_⟩:=hvs;exact⟨b,o,n,y,ys',rfl,ho,hc,hd,hi⟩
 |_=>cases hk
theorem zjU {h:Heap}:∀ {vs:List V}{xs:List Value}{L:List (List Int × V)},keyed keyT1 vs=some L→VRs am π h vs xs→∃ fs,KatTups h xs fs∧fs.length=xs.length∧∀ v∈fs,∃ i t,v=.int i t
 |[],xs,L,_,hv=>by simp only[VRs] at hv;subst hv;exact⟨[],trivial,rfl,fun z_ h=>nomatch h⟩
 |v::vs,xs,L,hk,hv=>by
  simp only[zgi,zeJ,Option.bind_eq_some_iff,Option.map_eq_some_iff] at hk;obtain⟨a,ha,L',hL,rfl⟩:=hk;obtain⟨x,xs',rfl,hx,hv⟩:=hv;obtain⟨fs,h1,h2,h3⟩:=zjU hL hv;obtain⟨b,o,n,y,ys,rfl,ho,hc,hd,hi⟩:=zgk hx ha;refine⟨y::fs,KatTups.cons ho hc hd rfl h1,congrArg Nat.succ h2,fun v hv=>?_⟩
  rcases List.mem_cons.1 hv with rfl|hv
  ·cases hi;exact⟨_,_,rfl⟩
  ·exact h3 v hv
theorem zg9 {h h':Heap}(k:∀ b o,h.get? b=some o→h'.get? b=some o):∀ {xs fs:List Value},KatTups h xs fs→KatTups h' xs fs
 |[],[],_=>trivial
 |[],_::_,t=>t.elim
 |_::_,[],t=>t.elim
 |_::_,_::_,⟨⟨a,o,xs,n,e,ho,r⟩,t⟩=>⟨⟨a,o,xs,n,e,k _ _ ho,r⟩,zg9 k t⟩
theorem zij {α:Type}{f:V→Option α}{vs:List V}{xs:List Value}{L:List (α × V)}{T:Value}{P:Heap→Prop}(hL:keyed f vs=some L) (hv:VRs am π s.heap vs xs)
  (h:∀ v x a,VR am π s.heap v x→f v=some a→∀ h',(∀ b o,s.heap.get? b=some o→h'.get? b=some o)→Looks am.M h' (typeOf x) T):∀ x∈xs,∀ h',(∀ b o,s.heap.get? b=some o→h'.get? b=some o)→Looks am.M h' (typeOf x) T:=fun x hm h' k=>by
 obtain⟨i,hi⟩:=List.mem_iff_getElem?.1 hm;have hlt:=(List.getElem?_eq_some_iff.1 hi).1;rw[hv.len] at hlt;have e:vs[i]?=some vs[i]:=List.getElem?_eq_getElem hlt;obtain⟨k',_,e2⟩:=(zeI hL).2 i _ e;obtain⟨y,e3,e4⟩:=hv.get i _ e;rw[hi] at e3;cases e3
 exact h _ _ _ e4 e2 h' k
theorem zgD {n:Nat}{src:Value}{xs:List Value}{vs ws:List V}(as:AS n stack A) (hr:HR am stack π Hc s.heap)
  (hcol:∀ {E':Value→Shared→Prop}{Q':List Value→Shared→Prop},(∀ h₁ tk,(∀ b o,s.heap.get? b=some o→h₁.get? b=some o)→Q' xs { s with heap:=h₁,toks:=tk })→wpAny am.M A.in1 (collect src) Q' E' s)
  (hv:VRs am π s.heap vs xs) (hs:sortVs Hc vs=some ws){Q:Value→Shared→Prop}{E:Value→Shared→Prop}(h:∀ y s',NewL am π s ws y s'→Q y s'):wpAny am.M A (call (.builtin "sorted") [src]) Q E s:=by
 have hu:(A.in1.in1).units < cLine:=as.uk (k:=2) (by decide)
 unfold sortVs at hs
 cases h1:keyed keyI vs with
 |some L =>
  rw[h1] at hs;refine zee zom 0 (κ:=oneType') hcol hv h1 hs (fun h2 A' E' s' Q' k hq=>kas_kind (T:=.type "int") h2 (fun v hm=>zij (P:=fun z_=>True) h1 hv (fun v x a hx hk h' z_=>?_) v hm s'.heap k) rfl rfl hq) (fun v x u y a b s' e1 e2 f1 f2 k C hC=>?_) h
  ·cases v<;>first|(cases hk;done)|skip
   obtain⟨t,rfl⟩:=hx;exact Looks.of_pure rfl
  ·cases v<;>first|(cases f1;done)|skip
   cases u<;>first|(cases f2;done)|skip
   cases f1;cases f2
   obtain⟨t,rfl⟩:=e1;obtain⟨t',rfl⟩:=e2;rw[keyLt'_oneType];exact oneLt_int hC
 |none =>
  rw[h1] at hs
  cases h2:keyed (keyL Hc) vs with
  |some L =>
   rw[h2] at hs;refine zee zkn [] (κ:=oneType') hcol hv h2 hs (fun h3 A' E' s' Q' k hq=>kas_kind (T:=.type "list") h3 (fun v hm=>zij (P:=fun z_=>True) h2 hv (fun v x a hx hk h' k=>?_) v hm s'.heap k) rfl rfl hq) (fun v x u y a b s' e1 e2 f1 f2 k C hC=>?_) h
   ·obtain⟨b,ys,rfl,⟨o,ho,hc,r⟩,_⟩:=zeK hr hx hk
    exact fun A' Q' E' s' k' q=>wpAny_typeOf ⟨o,k' _ _ (k _ _ ho),hc⟩ q
   ·obtain⟨l1,ys,rfl,⟨o,ho,r⟩,i1⟩:=zeK hr e1 f1
    obtain⟨l2,zs,rfl,⟨o',ho',r'⟩,i2⟩:=zeK hr e2 f2;exact zjl hu ⟨o,k _ _ ho,r⟩ ⟨o',k _ _ ho',r'⟩ i1 i2 hC
  |none =>
   rw[h2] at hs
   cases h3:keyed keyT1 vs with
   |some L =>
    rw[h3] at hs;obtain⟨fs,t1,t2,t3⟩:=zjU h3 hv;refine zee zkn [] (κ:=tuples' true) hcol hv h3 hs (fun h4 A' E' s' Q' k hq=>kat_kind (T:=.type "int") (zg9 k t1) (by rw[t2];exact Nat.lt_of_lt_of_le Nat.two_pos h4) (fun v hm=>?_) rfl hq) (fun v x u y a b s' e1 e2 f1 f2 k C hC=>?_) h
    ·obtain⟨i,t,rfl⟩:=t3 v hm
     exact Looks.of_pure rfl
    ·obtain⟨b1,o1,n1,y1,ys1,rfl,ho1,_,hd1,i1⟩:=zgk e1 f1
     obtain⟨b2,o2,n2,y2,ys2,rfl,ho2,_,hd2,i2⟩:=zgk e2 f2;exact kat_lt (k _ _ ho1) hd1 (k _ _ ho2) hd2 (zow i1 0 i2 hC)
   |none =>
    rw[h3] at hs;dsimp only at hs
    by_cases hlt:vs.length < 2
    ·rw[if_pos hlt] at hs
     cases hs
     have h2:¬ 2≤xs.length:=by rw[hv.len];exact Nat.not_le.2 hlt
     refine zen (κ:=oneType') (r:=id) (by rw[hv.len];exact Nat.lt_trans hlt (by decide)) hcol (fun q=>absurd q h2) (fun q=>absurd q h2) fun out a e h' tk ho k fr hg=>?_
     refine h _ _ ⟨_,out,h',tk,rfl,rfl,k,fr,⟨_,e,hg,rfl,rfl,rfl⟩,VRs.keeps k (VRs.held fr ?_)⟩
     rcases ho with⟨_,rfl⟩|⟨q,_⟩
     ·exact hv
     ·exact absurd q h2
    ·rw[if_neg hlt] at hs;cases hs
set_option tactic.hygienic true in
theorem zfn {h:H}{vs ws:List V}(e:sortVs h vs=some ws):ws.length≤1000000:=by
 have by':∀ {α:Type} [DecidableEq α] {lt:α→α→Bool}{L:List (α × V)},sortBy lt L=some ws→ws.length≤1000000:=fun {α _ lt L} e=>by
  unfold sortBy at e
  split at e
  ·rename_i hc
   simp only[Bool.and_eq_true,decide_eq_true_eq] at hc
   cases e
   rw[List.length_map,(zbK L).length_eq];exact Nat.le_trans (Nat.le_of_lt hc.1) (by decide)
  ·cases e
 unfold sortVs at e
 cases h1:keyed keyI vs with
 |some L=>rw[h1] at e;exact by' e
 |none =>
  rw[h1] at e
  cases h2:keyed (keyL h) vs with
  |some L=>rw[h2] at e;exact by' e
  |none =>
   rw[h2] at e
   cases h3:keyed keyT1 vs with
   |some L=>rw[h3] at e;exact by' e
   |none =>
    rw[h3] at e;dsimp only at e
    by_cases hlt:vs.length < 2
    ·rw[if_pos hlt] at e;cases e;exact Nat.le_trans (Nat.le_of_lt hlt) (by decide)
    ·rw[if_neg hlt] at e;cases e
theorem zlf {a:V}{x:Value}{es:List (V × V)}(hr:HR am stack π Hc s.heap) (ha:VR am π s.heap a x) (h:dictOf Hc a=some es):∃ i d o arr ep xs,a=.ref i∧x=.ref d∧π[i]?=some d∧Hc[i]?=some (.dict es)∧DC am π s.heap es d o arr ep xs:=by
 cases a with
 |ref i =>
  simp only[VR] at ha;obtain⟨l,rfl,hi⟩:=ha;simp only[dictOf] at h
  cases hq:Hc[i]? with
  |none=>rw[hq] at h;cases h
  |some c =>
   rw[hq] at h
   cases c with
   |list vs=>cases h
   |dict es' =>
    cases h
    obtain⟨o,arr,ep,xs,D⟩:=(hr.cell i _ l hq hi).dict;exact⟨i,l,o,arr,ep,xs,rfl,rfl,hi,hq,D⟩
 |_=>cases h
theorem zhf {h:Heap}:∀ {es:List (V × V)}{xs:List Value},VRs am π h (es.flatMap fun e=>[e.1,e.2]) xs→VRs am π h (es.map (·.1)) ((ents es xs).map (·.key))
 |[],xs,_=>by cases xs<;>rfl
 |(k',v')::es,xs,r=>by
  rw[List.flatMap_cons] at r;simp only[List.cons_append,List.nil_append,VRs] at r;obtain⟨x,_,rfl,hx,y,xs',rfl,hy,r⟩:=r;exact⟨x,_,rfl,hx,zhf r⟩
theorem zko {n:Nat}{a:V}{x:Value}(hh:A.handled=none) (as:AS n stack A) (hr:HR am stack π Hc s.heap) (ha:VR am π s.heap a x) :
  JAt am stack A (call (.builtin "sorted") [x]) (R.opt (bf .sorted Hc a) Hc) (VR am) π s:=by
 show JAt am stack A _ (R.opt ((sitems Hc a).bind fun vs=>(sortVs Hc vs).map .lst) Hc) (VR am) π s;unfold sitems
 cases hd:dictOf Hc a with
 |some es =>
  obtain⟨i,d,o,arr,ep,xs,rfl,rfl,_,_,D⟩:=zlf hr ha hd;dsimp only;rw[Option.bind_some]
  cases hs:sortVs Hc (es.map (·.1)) with
  |none=>exact .inl rfl
  |some ws =>
   have hle:arr.size≤sizeLine:=by
    rw[D.size];have:=D.len;rw[zcA] at this;have:=zcv
    omega
   refine .inr (zgD as hr (fun {E' Q'} q=>D.raw.collect (am:=am) (A:=A.in1) hh D.ho hle q) ?_ hs fun y s' hn=>hn.lst hr (zfn hs));rw[D.arr];exact zhf D.vr
 |none =>
  dsimp only
  cases hi:litems Hc a with
  |none=>exact .inl rfl
  |some vs =>
   rw[Option.bind_some]
   cases hs:sortVs Hc vs with
   |none=>exact .inl rfl
   |some ws =>
    obtain⟨l,xs,rfl,hl,hz,hv⟩:=zbc hr ha hi;have hle:xs.length≤sizeLine:=by rw[hv.len];exact Nat.le_trans hz zcv
    refine .inr (zgD as hr (fun {E' Q'} q=>collect_list hl (q _ s.toks fun b o hb=>?_) hle) hv hs fun y s' hn=>hn.lst hr (zfn hs));rw[Heap.get?_update_ne _ _ _ _ (Nat.ne_of_lt (Heap.lt_size hb))];exact Heap.get?_push_of_some _ hb
end
section
variable {am:Amb}{stack:List Env}{π:List Addr}{Hc:H}{A:Around}
structure MinAt (am:Amb) (π:List Addr) (Hc:H) (s₀:Shared) (l I S:Addr) (j:Nat) (a:List Int) (v:V) (vb:Value) (h:Heap):Prop where
 keep:∀ b o,s₀.heap.get? b=some o→h.get? b=some o
 iter:h.IsListIter I l j
 best:∃ c,h.get? S=some { cls:=.type "list",dict:=none,data:=.seq #[vb,vb] c,slots:=#[] }
 vr:VR am π s₀.heap v vb
 key:keyL Hc v=some a
theorem zmj {s₀:Shared}{l I S:Addr}{xs:List Value}(hh:A.handled=none) (hu:A.in1.units < cLine) (hr:HR am stack π Hc s₀.heap) (hl:s₀.heap.IsList l xs.toArray) (hI:s₀.heap.get? I=none) (hS:s₀.heap.get? S=none) (hIS:I≠S){R:Result→Shared→Prop} :
  ∀ (rest:List Value) (vr:List V) (L:List (List Int × V)) (j:Nat) (a:List Int) (v:V) (vb:Value) (h:Heap) (tk:Nat),xs.drop j=rest→keyed (keyL Hc) vr=some L→VRs am π s₀.heap vr rest→MinAt am π Hc s₀ l I S j a v vb h →
  (∀ x h' tk,VR am π s₀.heap (zcN a v L) x→(∀ b o,s₀.heap.get? b=some o→h'.get? b=some o)→R (.ok (.ret x)) { s₀ with heap:=h',toks:=tk }) →
  codeAny am.M A (.builtin "min.loop" ⟨[.ref I,.none,.ref S],[]⟩) R { s₀ with heap:=h,toks:=tk }:=by
 have hname:(toString "min"++toString ".loop":String)="min.loop":=by decide
 have nI:∀ b o,s₀.heap.get? b=some o→b≠I:=fun b o e q=>by rw[q,hI] at e;cases e
 have nS:∀ b o,s₀.heap.get? b=some o→b≠S:=fun b o e q=>by rw[q,hS] at e;cases e
 have lst:∀ {h:Heap},(∀ b o,s₀.heap.get? b=some o→h.get? b=some o)→h.IsList l xs.toArray:=fun kk=>by
  obtain⟨o,ho,r⟩:=hl;exact⟨o,kk _ _ ho,r⟩
 intro rest
 induction rest with
 |nil =>
  intro vr L j a v vb h tk hd hL hv M hR;have e0:=hv.len
  cases vr with
  |cons _ _=>simp at e0
  |nil =>
  cases hL
  obtain⟨c,hb⟩:=M.best;refine codeAny_builtin F.entry_min_loop ?_;rw[Around.under_plainId F.plain_min_loop _];show wpAny _ A.in1 (seqItems? (.ref S) >>= _) _ _ _;refine wpAny_bind (wpAny_seqItems hb rfl ?_);show wpAny _ A.in1 (tryCatch (pyNext (.ref I)) _ >>= _) _ _ _;refine wpAny_bind (wpAny_tryCatch (wpAny_pyNext_list_end hh M.iter (lst M.keep) (by simpa using (List.drop_eq_nil_iff.mp hd)) fun h' he=>?_))
  have hS':=he S _ hIS.symm hb;show wpAny _ A.in1 (updateSeq S (fun z_=>#[]) >>= _) _ _ _;refine wpAny_bind (wpAny_updateSeq hS' rfl (wpAny_bind (wpAny_letGo (wpAny_pure ?_))));exact hR vb _ _ M.vr fun b o e=>(Heap.get?_update_other _ _ (nS b o e).symm).trans (he b o (nI b o e) (M.keep b o e))
 |cons x rest ih =>
  intro vr L j a v vb h tk hd hL hv M hR;have e0:=hv.len
  cases vr with
  |nil=>simp at e0
  |cons u vr =>
  simp only[zgi,zeJ,Option.bind_eq_some_iff,Option.map_eq_some_iff] at hL;obtain⟨k,hk,L,hL,rfl⟩:=hL;simp only[VRs] at hv;obtain⟨x',rest',e1,hx,hv⟩:=hv
  cases e1
  obtain⟨c,hb⟩:=M.best;have hxj:xs.toArray[j]?=some x:=by
   have:=congrArg List.head? hd
   simpa using this
  have hd':xs.drop (j+1)=rest:=by
   have:=congrArg List.tail hd
   simpa using this
  refine codeAny_builtin F.entry_min_loop ?_;rw[Around.under_plainId F.plain_min_loop _];show wpAny _ A.in1 (seqItems? (.ref S) >>= _) _ _ _;refine wpAny_bind (wpAny_seqItems hb rfl ?_);show wpAny _ A.in1 (tryCatch (pyNext (.ref I)) _ >>= _) _ _ _;refine wpAny_bind (wpAny_tryCatch (wpAny_pyNext_list_item M.iter (lst M.keep) hxj fun h' hit hs=>?_));have k1:∀ b o,s₀.heap.get? b=some o→h'.get? b=some o:=fun b o e=>hs.extBut b o (nI b o e) (M.keep b o e)
  have hS':=hs.extBut S _ hIS.symm hb;show wpAny _ A.in1 (tryCatch (holding [x,x] (richCompare .Lt x vb >>= _)) _ >>= _) _ _ _;refine wpAny_bind (wpAny_tryCatch (wpAny_holding (wpAny_bind (zq6 (tk:=tk) hu hr k1 hx M.vr hk M.key ?_))));refine wpAny_bind (wpAny_holding (wpAny_truthy_bool ?_));refine wpAny_bind (wpAny_letGo (wpAny_pure ?_))
  cases hlt:lexLt k a with
  |true =>
   simp only[if_true];refine wpAny_bind (wpAny_updateSeq hS' rfl (wpAny_bind (wpAny_letGo ?_)));rw[hname];refine wpAny_pure ⟨plainId_quiet F.plain_min_loop _,ih vr L (j+1) k u x _ _ hd' hL hv ⟨fun b o e=>(Heap.get?_update_other _ _ (nS b o e).symm).trans (k1 b o e),?_,⟨_,Heap.get?_update_self _ hS' rfl⟩,hx,hk⟩ fun y h2 tk2 hy=>hR y h2 tk2 ?_⟩
   ·obtain⟨o,ho,r⟩:=hit
    exact⟨o,(Heap.get?_update_other _ _ hIS.symm).trans ho,r⟩
   ·rw[zeE,if_pos hlt];exact hy
  |false =>
   simp only[Bool.false_eq_true,if_false];refine wpAny_bind (wpAny_letGo ?_);rw[hname];refine wpAny_pure ⟨plainId_quiet F.plain_min_loop _,ih vr L (j+1) a v vb _ _ hd' hL hv ⟨k1,hit,⟨_,hS'⟩,M.vr,M.key⟩ fun y h2 tk2 hy=>hR y h2 tk2 ?_⟩;rw[zeE,if_neg (by rw[hlt];exact Bool.false_ne_true)];exact hy
variable {s:Shared}
theorem zpK {n:Nat}{a:V}{x:Value}(as:AS n stack A) (hh:A.handled=none) (hr:HR am stack π Hc s.heap) (ha:VR am π s.heap a x) :
  JAt am stack A (call (.builtin "min") [x]) (R.opt (bf .min Hc a) Hc) (VR am) π s:=by
 show JAt am stack A (call (.builtin "min") [x]) (R.opt ((litems Hc a).bind (minVs Hc)) Hc) (VR am) π s
 cases hi:litems Hc a with
 |none=>exact .inl rfl
 |some vs =>
  simp only[Option.bind_some]
  cases hm:minVs Hc vs with
  |none=>exact .inl rfl
  |some w =>
   refine .inr (zfj fun Q_ E_ kq_ z_=>?_);obtain⟨l,xs,rfl,hl,hz,hv⟩:=zbc hr ha hi
   cases vs with
   |nil=>cases hm
   |cons u vs =>
   simp only[VRs] at hv;obtain⟨x,xs,rfl,hx,hv⟩:=hv;unfold minVs at hm
   cases hL:keyed (keyL Hc) (u::vs) with
   |none=>rw[hL] at hm;cases hm
   |some L =>
   rw[hL] at hm;simp only[zgi,zeJ,Option.bind_eq_some_iff,Option.map_eq_some_iff] at hL;obtain⟨k,hk,L',hL,rfl⟩:=hL
   cases hm
   have hname:(toString "min"++toString ".loop":String)="min.loop":=by decide
   have hu:A.in1.units < cLine:=as.uk (k:=1) (by decide)
   refine call_function_tree F.kind_min F.plain_min F.entry_min (F.args_min1 _) ?_;show wpAny _ A.in1 (Builtin.Builtins.bindParams "min" ["key","default"] 0 ⟨[],[]⟩ >>= _) _ _ s;refine wpAny_bind (wpAny_of_eq (show Builtin.Builtins.bindParams "min" ["key","default"] 0 ⟨[],[]⟩=pure [none,none] from rfl) ?_);refine wpAny_bind (wpAny_pure ?_);refine wpAny_bind (wpAny_pyIter_list hl ?_);refine wpAny_bind (wpAny_newObj_type ?_)
   rw[hname];refine wpAny_pure ⟨plainId_quiet F.plain_min_loop _,?_⟩;have k1:∀ b o,s.heap.get? b=some o→(s.heap.push { cls:=.type "list_iterator",data:=.fields #[.ref l,.int 0 0] }).get? b=some o:=fun b o e=>Heap.get?_push_of_some _ e;have hI:=zan s.heap;have hit:(s.heap.push { cls:=.type "list_iterator",data:=.fields #[.ref l,.int 0 0] }).IsListIter s.heap.objs.size l 0:=⟨_,Heap.get?_push_size _ rfl,rfl,rfl⟩
   generalize s.heap.push { cls:=.type "list_iterator",data:=.fields #[.ref l,.int 0 0] }=h1 at k1 hit ⊢
   have k2:∀ b o,h1.get? b=some o→(h1.push { cls:=.type "list",data:=.seq #[] }).get? b=some o:=fun b o e=>Heap.get?_push_of_some _ e;have hS:(h1.push { cls:=.type "list",data:=.seq #[] }).get? h1.objs.size=some { cls:=.type "list",dict:=none,data:=.seq #[] 0,slots:=#[] }:=Heap.get?_push_size _ rfl;have hS0:=zan h1;generalize h1.objs.size=S at hS hS0 ⊢
   generalize h1.push { cls:=.type "list",data:=.seq #[] }=h2 at k2 hS ⊢
   obtain⟨oi,hoi,ri⟩:=id hit;have hIS:s.heap.objs.size≠S:=fun q=>by rw[q,hS0] at hoi;cases hoi
   have hS1:s.heap.get? S=none:=by
    cases hq:s.heap.get? S with
    |none=>rfl
    |some o=>rw[k1 _ _ hq] at hS0;cases hS0
   generalize s.heap.objs.size=I at hI hit hoi hIS ⊢
   refine codeAny_builtin F.entry_min_loop ?_;rw[Around.under_plainId F.plain_min_loop _];show wpAny _ A.in1 (seqItems? (.ref S) >>= _) _ _ _;refine wpAny_bind (wpAny_seqItems hS rfl ?_);show wpAny _ A.in1 (tryCatch (pyNext (.ref I)) _ >>= _) _ _ _;have nI:∀ b o,s.heap.get? b=some o→b≠I:=fun b o e q=>by rw[q,hI] at e;cases e
   have nS:∀ b o,s.heap.get? b=some o→b≠S:=fun b o e q=>by rw[q,hS1] at e;cases e
   have hl2:h2.IsList l (x::xs).toArray:=by
    obtain⟨o,ho,r⟩:=hl;exact⟨o,k2 _ _ (k1 _ _ ho),r⟩
   refine wpAny_bind (wpAny_tryCatch (wpAny_pyNext_list_item (i:=0) ⟨oi,k2 _ _ hoi,ri⟩ hl2 (x:=x) rfl fun h' hit' hs'=>?_));have hS':=hs'.extBut S _ hIS.symm hS;show wpAny _ A.in1 (updateSeq S (fun z_=>#[x,x]) >>= _) _ _ _;refine wpAny_bind (wpAny_updateSeq hS' rfl ?_);rw[hname];refine wpAny_pure ⟨plainId_quiet F.plain_min_loop _,zmj (s₀:=s) (xs:=x::xs) hh hu hr hl hI hS1 hIS xs vs L' 1 k u x _ _ rfl hL hv ⟨fun b o e=>?_,?_,⟨_,Heap.get?_update_self _ hS' rfl⟩,hx,hk⟩ fun y h3 tk3 hy k3=>?_⟩
   ·exact(Heap.get?_update_other _ _ (nS b o e).symm).trans (hs'.extBut b o (nI b o e) (k2 _ _ (k1 b o e)))
   ·obtain⟨o,ho,r⟩:=hit'
    exact⟨o,(Heap.get?_update_other _ _ hIS.symm).trans ho,r⟩
   ·exact kq_ _ _ (OkP.keeps (tk:=tk3) hr k3 (hy.keeps k3))
end
theorem zcx (g:Nat→Option V):∀ {vs ws:List V},V.mapRefs g vs=some ws→ws.length=vs.length
 |[],ws,h=>by cases h;rfl
 |v::vs,ws,h=>by
  refine hold fun z_ k_=>?_;obtain⟨v',_,j⟩:=Option.bind_eq_some_iff.1 h;obtain⟨ws',h2,rfl⟩:=Option.map_eq_some_iff.1 j;refine k_ ?_;simp[zcx g h2]
section
variable {am:Amb}{π δ:List Addr}{h:Heap}
mutual
theorem VR.mapRef {g:Nat→Option V}(hg:∀ i a w,(π++δ)[i]?=some a→g i=some w→VR am π h w (.ref a)) :
  ∀ {v v':V}{x:Value},VR am (π++δ) h v x→V.mapRef g v=some v'→VR am π h v' x
 |.undef,_,_,e,_=>e.elim
 |.none,_,_,e,k=>by cases k;exact e
 |.bool _,_,_,e,k=>by cases k;exact e
 |.int _,_,_,e,k=>by cases k;exact e
 |.str _,_,_,e,k=>by cases k;exact e
 |.tup vs,_,x,e,k=>by
  obtain⟨ws,j,rfl⟩:=Option.map_eq_some_iff.1 k;refine hold fun z_ k_=>?_;obtain⟨a,xs,h1,h2,h3,h4,h5⟩:=e;refine k_ ?_;exact⟨a,xs,h1,⟨fun hm=>h2.1 (List.mem_append_left _ hm),h2.2⟩,h3,by rw[zcx g j];exact h4,VRs.mapRefs hg h5 j⟩
 |.lst vs,_,x,e,k=>by
  obtain⟨ws,j,rfl⟩:=Option.map_eq_some_iff.1 k;refine hold fun z_ k_=>?_;obtain⟨a,xs,h1,h2,h3,h4,h5⟩:=e;refine k_ ?_;exact⟨a,xs,h1,⟨fun hm=>h2.1 (List.mem_append_left _ hm),h2.2⟩,h3,by rw[zcx g j];exact h4,VRs.mapRefs hg h5 j⟩
 |.ref i,_,x,e,k=>by
  obtain⟨a,rfl,h2⟩:=e;exact hg i a _ h2 k
 |.exc _,_,_,e,_=>e.elim
 |.dct,_,_,e,k=>by
  cases k
  refine hold fun z_ k_=>?_;obtain⟨a,o,es,ep,h1,h2,r⟩:=e;refine k_ ?_;exact⟨a,o,es,ep,h1,⟨fun hm=>h2.1 (List.mem_append_left _ hm),h2.2⟩,r⟩
theorem VRs.mapRefs {g:Nat→Option V}(hg:∀ i a w,(π++δ)[i]?=some a→g i=some w→VR am π h w (.ref a)) :
  ∀ {vs ws:List V}{xs:List Value},VRs am (π++δ) h vs xs→V.mapRefs g vs=some ws→VRs am π h ws xs
 |[],_,_,e,k=>by cases k;exact e
 |v::vs,ws,xs,e,k=>by
  refine hold fun z_ k_=>?_;obtain⟨v',k1,j⟩:=Option.bind_eq_some_iff.1 k;obtain⟨ws',k2,rfl⟩:=Option.map_eq_some_iff.1 j;obtain⟨x,xs',rfl,h1,h2⟩:=e;refine k_ ?_;exact⟨x,xs',rfl,VR.mapRef hg h1 k1,VRs.mapRefs hg h2 k2⟩
end
set_option tactic.hygienic true in
theorem VR.frzAt {stack:List Env}{H':H}(hr:HR am stack (π++δ) H' h) (hres:∀ a∈δ,a ∉ am.res) :
  ∀ (k:Nat) (i:Nat) (a:Addr) (w:V),(π++δ)[i]?=some a→Mine.frzAt k π.length H' i=some w→VR am π h w (.ref a):=by
 have low:∀ i a,(π++δ)[i]?=some a→i < π.length→VR am π h (.ref i) (.ref a):=fun i a h1 h2=>by
  simp only[VR];rw[List.getElem?_append_left h2] at h1;exact⟨a,rfl,h1⟩
 intro k
 induction k with
 |zero =>
  intro i a w h1 h2;rw[zoN] at h2
  split at h2
  ·cases h2;exact low i a h1 ‹_›
  ·cases h2
 |succ k ih =>
  intro i a w h1 h2;rw[zc8] at h2
  split at h2
  ·cases h2;exact low i a h1 ‹_›
  ·rename_i hi
   split at h2
   ·rename_i vs hv
    simp only[Option.map_eq_some_iff] at h2;obtain⟨ws,h2,rfl⟩:=h2;refine hold fun z_ k_=>?_;obtain⟨xs,h3,h4,h5⟩:=(hr.cell i _ a hv h1).list;refine k_ ?_;simp only[VR];have hd:a∈δ:=by
     rw[List.getElem?_append_right (by omega)] at h1
     exact List.mem_of_getElem? h1
    have hn:=hr.nodup;rw[List.nodup_append] at hn;exact⟨a,xs,rfl,⟨fun hm=>hn.2.2 a hm a hd rfl,hres a hd⟩,h3.is,by rw[zcx _ h2];exact h4,VRs.mapRefs ih h5 h2⟩
   ·cases h2
mutual
theorem VR.cut {h₀:Heap}:∀ {v:V}{x x₀:Value},VR am (π++δ) h v x→VR am π h₀ v x₀→VR am π h v x
 |.undef,_,_,e,_=>e
 |.none,_,_,e,_=>e
 |.bool _,_,_,e,_=>e
 |.int _,_,_,e,_=>e
 |.str _,_,_,e,_=>e
 |.tup vs,x,x₀,e,f=>by
  simp only[VR] at e f ⊢
  refine hold fun z_ k_=>?_;obtain⟨a,xs,h1,h2,h3,h4,h5⟩:=e;refine k_ ?_;refine hold fun z_ k_=>?_;obtain⟨_,ys,_,_,_,_,f5⟩:=f;refine k_ ?_;exact⟨a,xs,h1,⟨fun hm=>h2.1 (List.mem_append_left _ hm),h2.2⟩,h3,h4,VRs.cut h5 f5⟩
 |.lst vs,x,x₀,e,f=>by
  simp only[VR] at e f ⊢
  refine hold fun z_ k_=>?_;obtain⟨a,xs,h1,h2,h3,h4,h5⟩:=e;refine k_ ?_;refine hold fun z_ k_=>?_;obtain⟨_,ys,_,_,_,_,f5⟩:=f;refine k_ ?_;exact⟨a,xs,h1,⟨fun hm=>h2.1 (List.mem_append_left _ hm),h2.2⟩,h3,h4,VRs.cut h5 f5⟩
 |.ref i,x,x₀,e,f=>by
  simp only[VR] at e f ⊢
  obtain⟨a,h1,h2⟩:=e;obtain⟨b,_,f2⟩:=f;rw[List.getElem?_append_left (List.getElem?_eq_some_iff.mp f2).1] at h2;exact⟨a,h1,h2⟩
 |.exc _,_,_,e,_=>e
 |.dct,_,_,e,_=>by
  simp only[VR] at e ⊢
  refine hold fun z_ k_=>?_;obtain⟨a,o,es,ep,h1,h2,r⟩:=e;refine k_ ?_;exact⟨a,o,es,ep,h1,⟨fun hm=>h2.1 (List.mem_append_left _ hm),h2.2⟩,r⟩
theorem VRs.cut {h₀:Heap}:∀ {vs:List V}{xs xs₀:List Value},VRs am (π++δ) h vs xs→VRs am π h₀ vs xs₀→VRs am π h vs xs
 |[],_,_,e,_=>e
 |v::vs,xs,xs₀,e,f=>by
  simp only[VRs] at e f ⊢
  refine hold fun z_ k_=>?_;obtain⟨x,xs',rfl,h1,h2⟩:=e;refine k_ ?_;refine hold fun z_ k_=>?_;obtain⟨y,ys',rfl,f1,f2⟩:=f;refine k_ ?_;exact⟨x,xs',rfl,VR.cut h1 f1,VRs.cut h2 f2⟩
end
theorem HR.cut {stack:List Env}{Hc H':H}{h₀:Heap}(hr:HR am stack (π++δ) H' h) (hr₀:HR am stack π Hc h₀) (ht:H'.take Hc.length=Hc):HR am stack π Hc h:=by
 refine⟨hr.base,hr.frames,hr₀.len,hr₀.nodup,hr.res,fun a ha=>hr.off a (List.mem_append_left _ ha),fun i c a h1 h2=>?_⟩;have hi:i < Hc.length:=(List.getElem?_eq_some_iff.mp h1).1;have h3:H'[i]?=some c:=by
  have:=congrArg (fun l=>l[i]?) ht;simp only[List.getElem?_take,hi,if_true] at this;rw[this];exact h1
 have h4:(π++δ)[i]?=some a:=by rw[List.getElem?_append_left (by rw[hr₀.len];exact hi)];exact h2
 obtain⟨o,xs,e0,e1,e2,e3⟩:=hr.cell i c a h3 h4;obtain⟨_,ys,_,_,_,f3⟩:=hr₀.cell i c a h1 h2;exact⟨o,xs,e0,e1,e2,e3.cut f3⟩
end
theorem Step.less {Fs π π':List Addr}{s s':Shared}(x:Step Fs π s π' s'):Step Fs π s π s':=⟨x.same,x.ext,[],by simp,by simp⟩
set_option tactic.hygienic true in
theorem JAt.pcall {am:Amb}{stack:List Env}{A:Around}{π:List Addr}{s:Shared}{Hc:H}{m:Sem Value}{r:R V}(hr:HR am stack π Hc s.heap) (h:JAt am stack A m r (VR am) π s):JAt am stack A m (Mine.pcall Hc r) (VR am) π s:=by
 rcases h with rfl|h
 ·exact .inl rfl
 ·cases r with
  |bad=>exact .inl rfl
  |err c H' =>
   simp only[Mine.pcall]
   split
   ·rename_i ht
    refine .inr (wpAny_mono h (fun a s' h=>?_) fun e s' h=>?_)
    ·obtain⟨_,_,_,h,_⟩:=h;cases h
    ·refine hold fun z_ k_=>?_
     obtain⟨c',H'',π',e',C,fl,h1,h2,h3,h4,h5,h6⟩:=h;refine k_ ?_
     cases h1
     obtain⟨δ,rfl,hδ⟩:=h4.grow;exact⟨c,Hc,π,e',C,fl,rfl,h2,h3,h4.less,h5.cut hr ht,h6⟩
   ·exact .inl rfl
  |ok v H' =>
   simp only[Mine.pcall]
   split
   ·rename_i ht
    cases hf:frz Hc.length H' v with
    |none=>exact .inl rfl
    |some w =>
     refine .inr (wpAny_mono h (fun a s' h=>?_) fun e s' h=>?_)
     ·refine hold fun z_ k_=>?_
      obtain⟨b,H'',π',h1,h2,h3,h4⟩:=h;refine k_ ?_
      cases h1
      obtain⟨δ,rfl,hδ⟩:=h2.grow;refine⟨w,Hc,π,rfl,h2.less,h3.cut hr ht,?_⟩;rw[←hr.len] at hf;exact VR.mapRef (VR.frzAt h3 (fun a ha hm=>by
       obtain⟨o,ho,_⟩:=hr.res a hm;rw[hδ a ha] at ho;cases ho) 4) h4 hf
     ·obtain⟨_,_,_,_,_,_,h,_⟩:=h;cases h
   ·exact .inl rfl
section
variable {am:Amb}{n:Nat}{q:Bool}{F:Fn}{c:Ck}
theorem spl1 {M:Model}{A:Around}{env:Env}{y:Expr}{Q:List Value→Shared→Prop}{E:Value→Shared→Prop}{s:Shared}(h:wpAny M A (eval y env) (fun v s₁=>Q [v] s₁) E s):wpAny M A (spliced (zav [y] env)) Q E s :=
 Calls.spliced_cons (wpAny_mono h (fun z_ z_ h=>Calls.spliced_nil h) fun z_ z_ x=>x)
theorem spl2 {M:Model}{A:Around}{env:Env}{y z:Expr}{Q:List Value→Shared→Prop}{E:Value→Shared→Prop}{s:Shared}(h:wpAny M A (eval y env) (fun v s₁=>wpAny M A (eval z env) (fun w s₂=>Q [v,w] s₂) E s₁) E s):wpAny M A (spliced (zav [y,z] env)) Q E s :=
 Calls.spliced_cons (wpAny_mono h (fun z_ z_ h=>spl1 h) fun z_ z_ x=>x)
noncomputable def bfVal:Bf→Value
 |.len=>.builtin "len"|.all=>.builtin "all"|.any=>.builtin "any"|.sorted=>.builtin "sorted"|.min=>.builtin "min"|.sum=>.builtin "sum"
 |.list=>.type "list"|.tuple=>.type "tuple"|.int=>.type "int"|.str=>.type "str"|.listRev=>.type "list"|.listRange=>.type "list"
theorem znD (f:Bf):(bfName f,bfVal f)∈bTab:=by cases f<;>exact zdW (by kernel_rfl)
theorem Hd.quiet {A:Around}{π Fs:List Addr}{h:Heap}(x:Hd true A π Fs h):A.handled=none:=x
theorem zq5 {f:Bf}{am:Amb}{stack:List Env}{A:Around}{π:List Addr}{s:Shared}{Hc:H}{a:V}{x:Value}{n:Nat}(as:AS n stack A) (hf:f.ready=true) (h0:f≠.listRev) (hq:f.walks=true→A.handled=none) (hr:HR am stack π Hc s.heap) (ha:VR am π s.heap a x) :
  JAt am stack A (PySem.call (bfVal f) [x]) (R.opt (bf f Hc a) Hc) (VR am) π s:=by
 cases f with
 |len=>exact zpL hr ha
 |list=>exact zoo hr ha
 |tuple=>exact zmb hr ha
 |int=>exact zpO hr ha
 |all=>exact zpS (hq rfl) hr ha
 |listRev=>exact absurd rfl h0
 |sorted=>exact zko (hq rfl) as hr ha
 |min=>exact zpK as (hq rfl) hr ha
 |_=>cases hf
set_option tactic.hygienic true in
theorem zrp {f:Bf}{a:PE}{y:Expr}{p p':Pos}(h0:f≠.listRev) (hx:c.glob (bfName f)=true) (hy:isStar y=false) (ha:EJ am n q F c a y):EJ am n q F c (.bf f a) (.Call (.Name (bfName f) p) [y] [] p'):=fun {cx ρ A res π Hc s} B st=>by
 simp only[zcd,zcc,zb7,zb6,zb5,zb4,zbF,zcb,zb3,za1,zaK,za0,zal,zaS,zaw,zaJ,zaZ,zar,zaz,zaI,zaH,zaY,zaX,zaR,zaW,zaG,zaq,zaF,zaV,zaE,zaU,zaQ,zaP,qE_34,zaD,zaC,zaO,zaB]
 split
 ·exact .inl rfl
 ·rename_i hq
  simp only[Bool.or_eq_true,Bool.and_eq_true,Bool.not_eq_true',not_or,not_and,Bool.not_eq_false] at hq;refine JT.at (T:=fun Q E s=>wpAny am.M A (eval y cx.env) (fun v s₁=>wpAny am.M A (PySem.call (bfVal f) [v]) Q E s₁) E s) (JT.bind (fun z_=>PT.wp _ _) (ha B st) fun x v H1 π1 s1 z_ hs1 hr1 hv1=>JAt.pt ?_)
   fun Q E h=>zbv B st.hr hx (znD f) (by simpa using hy) (spl1 h)
  refine zq5 B.as hq.2 h0 (fun hw=>?_) hr1 hv1
  cases q with
  |false=>exact absurd hw (by simpa using hq.1)
  |true=>exact Hd.quiet st.hd
theorem zk5 {a:PE}{y:Expr}{p p':Pos}(hx:c.glob (bfName .list)=true) (hy:isStar y=false) (ha:EJ am n q F c a y):FJ am n q F c (.bf .list a) (.Call (.Name (bfName .list) p) [y] [] p'):=fun {cx ρ A res π Hc s} B st=>by
 have e:evE q F ρ (.bf .list a) Hc=(evE q F ρ a Hc).bind fun x h=>R.opt (bf .list h x) h:=by
  simp only[zcd,zcc,zb7,zb6,zb5,zb4,zbF,zcb,zb3,za1,zaK,za0,zal,zaS,zaw,zaJ,zaZ,zar,zaz,zaI,zaH,zaY,zaX,zaR,zaW,zaG,zaq,zaF,zaV,zaE,zaU,zaQ,zaP,qE_34,zaD,zaC,zaO,zaB,Bf.ready,Bf.walks];simp
 rw[e];refine JF.rule (T:=fun Q E s=>wpAny am.M A (eval y cx.env) (fun v s₁=>wpAny am.M A (PySem.call (.type "list") [v]) Q E s₁) E s) (JF.bind (fun z_=>PT.wp _ _) (ha B st) fun x v H1 π1 s1 z_ hs1 hr1 hv1=>?_)
   fun Q E h=>zbv B st.hr hx (znD .list) (by simpa using hy) (spl1 h)
 unfold bf;dsimp only
 cases hi:items H1 v with
 |none=>exact .inl rfl
 |some vs =>
  obtain⟨xs,hz⟩:∃ xs:List Value,vs.length≤1000000:=⟨[],by
   rcases zdp hr1 hv1 hi with⟨l,xs,h⟩
   rcases h with⟨_,h⟩
   first|exact h.2.1|exact h.1|omega⟩
  exact .inr (zjG (am:=am.at res) hr1 hv1 hi fun y s' h=>FrP.new rfl (.refl ..) hr1 hz h)
end
section
variable {am:Amb}{n:Nat}{q:Bool}{F:Fn}{c:Ck}
noncomputable def lonly (o:Option V):Option V:=match o with
 |some (.lst vs)=>some (.lst vs)
 |_=>Option.none
theorem zok {op:Bop}{a b:PE}{l r:Expr}{p:Pos}(ha:EJ am n q F c a l) (hb:EJ am n q F c b r)
  (key:∀ {cx:Cx}{A:Around}{res π:List Addr}{H2:H}{s:Shared}{v w:V}{x y:Value},HR (am.at res) cx.stack π H2 s.heap→VR (am.at res) π s.heap v x→VR (am.at res) π s.heap w y→JF (am.at res) cx.stack (fun Q E s=>wpAny am.M A (binaryOp (bopM op) x y) Q E s) (R.opt (lonly (pyBin op H2 v w)) H2) π s):EJ am n q F c (.own (.bin op a b)) (.BinOp l (bopM op) r p):=fun {cx ρ A res π Hc s} B st=>by
 have e:evE q F ρ (.own (.bin op a b)) Hc=((evE q F ρ a Hc).bind fun x h=>(evE q F ρ b h).bind fun y h=>R.opt (lonly (pyBin op h x y)) h).bind fun x h=>match x with|.lst vs=>.ok (.ref h.length) (h++[.list vs])|_=>.bad:=by
  simp only[zcd,zcc,zb7,zb6,zb5,zb4,zbF,zcb,zb3,za1,zaK,za0,zal,zaS,zaw,zaJ,zaZ,zar,zaz,zaI,zaH,zaY,zaX,zaR,zaW,zaG,zaq,zaF,zaV,zaE,zaU,zaQ,zaP,qE_34,zaD,zaC,zaO,zaB]
  cases evE q F ρ a Hc with
  |ok v h =>
   simp only[R.bind_ok]
   cases evE q F ρ b h with
   |ok w h =>
    simp only[R.bind_ok]
    cases pyBin op h v w with
    |none=>rfl
    |some u=>cases u<;>rfl
   |_=>rfl
  |_=>rfl
 rw[e];exact JF.cell (T:=fun Q E s=>wpAny am.M A (eval l cx.env) (fun v s₁=>wpAny am.M A (eval r cx.env) (fun w s₂=>wpAny am.M A (binaryOp (bopM op) v w) Q E s₂) E s₁) E s)
  (JF.bind (fun z_=>PT.seq _ _ fun z_=>PT.wp _ _) (ha B st) fun x v H1 π1 s1 z_ hs1 hr1 hv1=>JF.bind (fun z_=>PT.wp _ _) (hb B (st.step hs1 hr1)) fun y w H2 π2 s2 z_ hs2 hr2 hv2=>key hr2 (hv1.step hs2) hv2)
  fun Q E h=>wpAny_BinOp h
set_option tactic.hygienic true in
theorem zol {a b:PE}{l r:Expr}{p:Pos}(ha:EJ am n q F c a l) (hb:EJ am n q F c b r):EJ am n q F c (.own (.bin .add a b)) (.BinOp l .Add r p):=zok (op:=.add) ha hb fun {cx A res π H2 s v w x y} hr hv hw=>by
 show JF _ _ _ (R.opt (lonly (pyAdd H2 v w)) H2) _ _
 rcases zew H2 v w with h|⟨i,k,rfl,rfl⟩|⟨i,k,rfl,rfl⟩|⟨vs,ws,la,lb,h⟩
 ·rw[h];exact .inl rfl
 ·exact .inl rfl
 ·first
  |exact .inl rfl
  |refine .inl ?_
   show R.opt (lonly (mkT (i++k))) H2=.bad;unfold mkT
   split<;>rfl
 ·rw[h]
  unfold mkL
  split
  ·rename_i hle
   exact .inr (zef (am:=am.at res) hr hv hw la lb hle fun y s' h=>FrP.new rfl (.refl ..) hr hle h)
  ·exact .inl rfl
theorem zph {cx:Cx}{ρ:List V}{A:Around}{res π:List Addr}{Hc:H}{s:Shared}(B:Base am n q F c cx ρ A) (hr:HR (am.at res) cx.stack π Hc s.heap){t:Ty}{x:Expr}{Q:Value→Shared→Prop}{E:Value→Shared→Prop}(hp:tyPl t=true) (hk:ckTy c t x=true) (h:Q (tyVal t) s) :
  wpAny am.M A (eval x cx.env) Q E s:=by
 obtain⟨p,rfl,hk'⟩:=zgz hk;refine znI B hr hk' ?_ h
 cases t<;>first|exact noB hp|exact zdW (by kernel_rfl)
theorem zm7 {cx:Cx}{ρ:List V}{A:Around}{res π:List Addr}{Hc:H}{s:Shared}(B:Base am n q F c cx ρ A) (hr:HR (am.at res) cx.stack π Hc s.heap):∀ {ts:List Ty}{xs:List Expr}{Q:List Value→Shared→Prop}{E:Value→Shared→Prop},ts.all tyPl=true→ckTys c ts xs=true→Q (ts.map tyVal) s →
  wpAny am.M A (spliced (zav xs cx.env)) Q E s
 |[],[],Q,E,_,_,h=>Calls.spliced_nil h
 |t::ts,x::xs,Q,E,hp,hk,h=>by
  simp only[List.all_cons,Bool.and_eq_true] at hp;have hk:=Bool.and_eq_true_iff.1 hk;exact Calls.spliced_cons (zph B hr hp.1 hk.1 (zm7 B hr hp.2 hk.2 h))
 |[],_::_,_,_,_,hk,_=>absurd hk Bool.false_ne_true
 |_::_,[],_,_,_,hk,_=>absurd hk Bool.false_ne_true
theorem zd0:∀ {ts:List Ty}{xs:List Expr},ckTys c ts xs=true→∀ x∈xs,isStar x=false
 |[],[],_=>by simp
 |t::ts,x::xs,hk=>by
  have hk:=Bool.and_eq_true_iff.1 hk;intro y hy
  rcases List.mem_cons.mp hy with rfl|hy
  ·obtain⟨p,rfl,_⟩:=zgz hk.1;rfl
  ·exact zd0 hk.2 y hy
 |[],_::_,hk=>absurd hk Bool.false_ne_true
 |_::_,[],hk=>absurd hk Bool.false_ne_true
theorem zfl {t:Ty}(h:tyPl t=true):t.plain=true:=by cases t<;>first|rfl|(simp[tyPl] at h;done)
theorem zlJ {ts:List Ty}(h:ts.all tyPl=true):ts.all Ty.plain=true:=by
 simp only[List.all_eq_true] at h ⊢;exact fun t ht=>zfl (h t ht)
theorem zlb {a:PE}{t:Ty}{y x:Expr}{p p':Pos}(hx:c.glob "isinstance"=true) (hp:tyPl t=true) (hk:ckTy c t x=true) (hy:isStar y=false) (ha:EJ am n q F c a y) :
  EJ am n q F c (.isinst a [t]) (.Call (.Name "isinstance" p) [y,x] [] p'):=fun {cx ρ A res π Hc s} B st=>by
 simp only[zcd,zcc,zb7,zb6,zb5,zb4,zbF,zcb,zb3,za1,zaK,za0,zal,zaS,zaw,zaJ,zaZ,zar,zaz,zaI,zaH,zaY,zaX,zaR,zaW,zaG,zaq,zaF,zaV,zaE,zaU,zaQ,zaP,qE_34,zaD,zaC,zaO,zaB];refine JT.at (T:=fun Q E s=>wpAny am.M A (eval y cx.env) (fun v s₁=>wpAny am.M A (eval x cx.env) (fun w s₂=>wpAny am.M A (PySem.call (.builtin "isinstance") [v,w]) Q E s₂) E s₁) E s)
  (JT.bind (fun z_=>PT.seq _ _ fun z_=>PT.wp _ _) (ha B st) fun z v H1 π1 s1 z_ hs1 hr1 hv1=>?_)
  fun Q E h=>zbv B st.hr hx (zdW (by kernel_rfl)) (by intro z hz;rcases List.mem_cons.mp hz with rfl|hz;exact hy;exact zd0 (c:=c) (ts:=[t]) (xs:=[x]) (Bool.and_eq_true_iff.2 ⟨hk,rfl⟩) z hz) (spl2 h)
 refine JT.rule (JAt.pt (zpM (A:=A) (am:=am.at res) B.ok.K hr1 hv1 (zfl hp))) fun Q E h=>?_;exact zph B hr1 hp hk h
theorem zpe {a:PE}{ts:List Ty}{y:Expr}{xs:List Expr}{k:Nat}{p p' p2:Pos}(hx:c.glob "isinstance"=true) (hp:ts.all tyPl=true) (hk:ckTys c ts xs=true) (hts:ts≠[]) (hl:ts.length≤1000) (hy:isStar y=false) (ha:EJ am n q F c a y) :
  EJ am n q F c (.isinst a ts) (.Call (.Name "isinstance" p) [y,.Tuple xs k p2] [] p'):=fun {cx ρ A res π Hc s} B st=>by
 simp only[zcd,zcc,zb7,zb6,zb5,zb4,zbF,zcb,zb3,za1,zaK,za0,zal,zaS,zaw,zaJ,zaZ,zar,zaz,zaI,zaH,zaY,zaX,zaR,zaW,zaG,zaq,zaF,zaV,zaE,zaU,zaQ,zaP,qE_34,zaD,zaC,zaO,zaB];refine JT.at (T:=fun Q E s=>wpAny am.M A (eval y cx.env) (fun v s₁=>wpAny am.M A (eval (.Tuple xs k p2) cx.env) (fun w s₂=>wpAny am.M A (PySem.call (.builtin "isinstance") [v,w]) Q E s₂) E s₁) E s)
  (JT.bind (fun z_=>PT.seq _ _ fun z_=>PT.wp _ _) (ha B st) fun z v H1 π1 s1 z_ hs1 hr1 hv1=>?_)
  fun Q E h=>zbv B st.hr hx (zdW (by kernel_rfl)) (by intro z hz;rcases List.mem_cons.mp hz with rfl|hz;exact hy;rw[List.mem_singleton.mp hz];rfl) (spl2 h)
 let o:Obj:={ cls:=.type "tuple",data:=.seq (ts.map tyVal).toArray }
 have kk:∀ b o',s1.heap.get? b=some o'→(s1.heap.push o).get? b=some o':=fun b o' q=>Heap.get?_push_of_some _ q;have stp:Step (Fs cx.stack) π1 s1 π1 { s1 with heap:=s1.heap.push o }:=Step.keeps (tk:=s1.toks) kk
 have base:=zoq (A:=A) (am:=am.at res) (s:={ s1 with heap:=s1.heap.push o }) (ts:=ts) (tp:=s1.heap.objs.size) (n:=0) (dd:=none) (sl:=#[]) B.ok.K (hr1.keeps kk) (hv1.keeps kk) (zlJ hp) hts (Heap.get?_push_size _ rfl)
 rcases base with h|h
 ·exact .inl h
 ·refine .inr ?_
  rw[arm_eval_Tuple,zac _ (zd0 hk)];refine wpAny_bind (wpAny_standAt (wpAny_bind (zm7 B hr1 hp hk ?_)));exact wpAny_newTuple (wpAny_mono h (fun z_ z_ y=>OkP.step stp y) fun z_ z_ y=>ErP.step stp y) (by simp[sizeLine];omega)
theorem zoW {k:Bool}{f:String}{es:List PE}{x:Expr}{xs:List Expr}{p p':Pos}(hx:c.glob (Str.ofString f)=true) (hf:f∈c.fns) (h:AllJ am n q F c es (x::xs)) :
  EJ am n q F c (.call k f es) (.Call (.Name (Str.ofString f) p) (x::xs) [] p'):=fun {cx ρ A res π Hc s} B st=>by
 simp only[zcd,zcc,zb7,zb6,zb5,zb4,zbF,zcb,zb3,za1,zaK,za0,zal,zaS,zaw,zaJ,zaZ,zar,zaz,zaI,zaH,zaY,zaX,zaR,zaW,zaG,zaq,zaF,zaV,zaE,zaU,zaQ,zaP,qE_34,zaD,zaC,zaO,zaB];obtain⟨a,fa⟩:=B.ck.fns f hf;refine hold fun z_ k_=>?_;obtain⟨ga,o,fd,ho,hd⟩:=id fa;refine k_ ?_;refine JAt.seqP (m:=spliced (zav (x::xs) cx.env)) (f:=fun vs=>PySem.call (.ref a) vs []) (P:=fun z_ s₁=>s₁.heap.get? a=some o∧o.data=.func fd) (fun Q E h'=>?_) (h.args B st) fun ys vs H1 π1 s1 z_ hs1 hr1 hv1=>⟨⟨hr1.base a o ho,hd⟩,?_⟩
 ·refine wpAny_Call_Name_kw (zdu B st.hr hx ga ?_)
  rw[zac _ h.stars];exact Calls.callWith_function (o:=o) (fd:=fd) (Calls.evalArgs_plain h')
 ·have J:=B.fn.call res q f a vs ys cx.stack A π1 H1 s1 fa B.as hr1 (st.hd.step hs1) (.inl hv1)
  cases k with
  |true=>exact J
  |false=>exact JAt.pcall hr1 J
end
theorem PL.update {h:Heap}{l:Addr}{xs:List Value}(pl:PL h l xs) (f:Array Value→Array Value):PL (h.update l (Obj.mapSeq f)) l (f (List.toArray xs)).toList:=by
 refine hold fun z_ k_=>?_;obtain⟨o,n,ho,hc,hdi,hd⟩:=pl;refine k_ ?_;obtain⟨n',hd'⟩:=Obj.data_mapSeq hd f;refine⟨_,n',Heap.get?_update_self _ ho (Obj.isFreed_of_seq hd'),(Obj.cls_mapSeq ..).trans hc,?_,by simpa using hd'⟩
 refine hold fun z_ k_=>?_;obtain⟨c,d,dt,sl⟩:=o;refine k_ ?_;simp only at hd hdi;subst hd hdi
 rfl
theorem zbH {h h' base:Heap}{l:Addr}(k:∀ b o,b≠l→h.get? b=some o→h'.get? b=some o) (hl:∃ o,h'.get? l=some o∧∀ us,o.data≠.fields us) :
  ∀ {st:List Env},h.FunFrames base st→h'.FunFrames base st
 |[],_=>trivial
 |e::st,x=>by
  refine hold fun z_ k_=>?_;obtain⟨h1,⟨L,o,h2,h3,h4,h5⟩,h6⟩:=x;refine k_ ?_;refine⟨h1,?_,zbH k hl h6⟩
  by_cases hL:L=l
  ·subst hL
   obtain⟨o',h7,h8⟩:=hl;exact⟨L,o',h2,h3,h7,h8⟩
  ·exact⟨L,o,h2,h3,k L o hL h4,h5⟩
theorem zcW {π:List Addr}{i:Nat}{l:Addr}(h:π[i]?=some l):l∈π:=List.mem_of_getElem? h
theorem znj {π:List Addr}(hn:π.Nodup){i j:Nat}{l:Addr}(h1:π[i]?=some l) (h2:π[j]?=some l):i=j:=by
 exact(List.getElem?_inj (List.getElem?_eq_some_iff.mp h1).1 hn).mp (h1.trans h2.symm)
theorem HR.put {am:Amb}{stack:List Env}{π:List Addr}{Hc:H}{s:Shared}(hr:HR am stack π Hc s.heap){i:Nat}{l:Addr}(hi:π[i]?=some l){vs:List V}{xs:List Value}(hz:vs.length≤1000000){h':Heap}{tk:Nat}
  (k:∀ b o,b≠l→s.heap.get? b=some o→h'.get? b=some o) (pl:PL h' l xs) (hv:VRs am π s.heap vs xs) :
  Step (Fs stack) π s π { s with heap:=h',toks:=tk }∧HR am stack π (Hc.set i (.list vs)) h':=by
 have hl:=zcW hi;have nf:∃ o,h'.get? l=some o∧∀ us,o.data≠.fields us:=by
  refine hold fun z_ k_=>?_;obtain⟨o,n,ho,_,_,hd⟩:=pl;refine k_ ?_;exact⟨o,ho,fun us q=>by rw[hd] at q;cases q⟩
 have st:Step (Fs stack) π s π { s with heap:=h',toks:=tk }:=by
  refine⟨⟨h',tk,rfl⟩,⟨fun a o e h1 z_=>k a o (fun q=>h1 (q ▸ hl)) e,fun a o e h1=>⟨o.slots,k a o (fun q=>h1 (q ▸ hl)) e⟩,fun a o e=>?_⟩,[],by simp,by simp⟩
  by_cases ha:a=l
  ·subst ha;obtain⟨o,ho,_⟩:=nf;exact⟨o,ho⟩
  ·exact⟨o,k a o ha e⟩
 refine⟨st,⟨fun a o e=>?_,zbH k nf hr.frames,by simp[hr.len],hr.nodup,fun a ha=>?_,hr.off,fun j c a h1 h2=>?_⟩⟩
 ·exact k a o (fun q=>by subst q;rw[(hr.off a hl).1] at e;cases e) (hr.base a o e)
 ·by_cases hq:a=l
  ·subst hq;exact nf
  ·obtain⟨o,ho,hd⟩:=hr.res a ha
   exact⟨o,k a o hq ho,hd⟩
 ·by_cases hj:j=i
  ·subst hj
   have hlt:j < Hc.length:=by rw[←hr.len];exact(List.getElem?_eq_some_iff.mp hi).1
   rw[List.getElem?_set_self hlt] at h1
   cases h1
   rw[hi] at h2;cases h2
   exact .ofList pl hz (hv.step st)
  ·rw[List.getElem?_set_ne (Ne.symm hj)] at h1
   have hne:a≠l:=fun q=>hj (znj hr.nodup (q ▸ h2) hi);exact(hr.cell j c a h1 h2).via st.via fun o e z_=>⟨o.slots,k a o hne e⟩
theorem PT.and {γ:Type}{P:Shared→Prop}{T:PT γ}(h:PT.Mono T):PT.Mono (fun Q E s=>P s∧T Q E s):=fun Q Q' E E' s h1 h2 x=>⟨x.1,h Q Q' E E' s h1 h2 x.2⟩
section
variable {am:Amb}{stack:List Env}{A:Around}{π:List Addr}{s:Shared}{Hc:H}
set_option tactic.hygienic true in
theorem zbZ {a:V}{x:Value}(hr:HR am stack π Hc s.heap) (ha:VR am π s.heap a x) (hc:lcell Hc a=true) :
  ∃ i l vs xs,a=.ref i∧x=.ref l∧π[i]?=some l∧Hc[i]?=some (.list vs)∧PL s.heap l xs∧vs.length≤1000000∧VRs am π s.heap vs xs:=by
 cases a with
 |ref i =>
  simp only[lcell] at hc;simp only[VR] at ha;obtain⟨l,rfl,hl⟩:=ha
  split at hc
  ·rename_i vs hv
   refine hold fun z_ k_=>?_;obtain⟨xs,h1,h2,h3⟩:=(hr.cell i _ l hv hl).list;refine k_ ?_;exact⟨i,l,vs,xs,rfl,rfl,hl,hv,h1,h2,h3⟩
  ·cases hc
 |_=>simp[lcell] at hc
theorem zbb {a:V}{f:List V→Option (V × List V)}(h:lcell Hc a=false):onList Hc a f=.bad:=by
 cases a with
 |ref i =>
  simp only[lcell,onList] at h ⊢
  cases hq:Hc[i]? with
  |none=>rfl
  |some c=>cases c with
   |list vs=>rw[hq] at h;cases h
   |dict es=>rfl
 |_=>rfl
set_option tactic.hygienic true in
theorem zku {a b:V}{x y:Value}(hr:HR am stack π Hc s.heap) (ha:VR am π s.heap a x) (hb:VR am π s.heap b y) :
  JAt am stack A (PySem.call (.builtin "list.append") [x,y]) (onList Hc a fun vs=>some (.none,vs++[b])) (VR am) π s:=by
 cases hc:lcell Hc a with
 |false=>exact .inl (zbb hc)
 |true =>
  refine hold fun z_ k_=>?_;obtain⟨i,l,vs,xs,rfl,rfl,hi,hH,pl,hz,hv⟩:=zbZ hr ha hc;refine k_ ?_;simp only[onList,hH]
  split
  ·rename_i hle
   refine hold fun z_ k_=>?_;obtain⟨o,n,ho,hcl,hdi,hd⟩:=id pl;refine k_ ?_;refine .inr (wpAny_call_entry slot_list_append pl.is.typeIs entry_list_append ?_ (args_list_append _ _));show wpAny _ _ (updateSeq l (·.push y) >>= fun z_=>ret .none) _ _ s;refine wpAny_bind ?_;have e:=hv.len;refine wpAny_updateSeq ho hd (wpAny_pure ⟨.none,rfl,?_⟩) (hz:=by rw[List.size_toArray,e];exact zbi hz)
   have pl':=pl.update (·.push y);have hp:=HR.put (tk:=s.toks) hr hi hle (xs:=xs++[y]) (h':=s.heap.update l (Obj.mapSeq (·.push y))) (fun b o h1 h2=>(Heap.SameBut.update ..).extBut b o h1 h2) (by simpa using pl') (hv.append (.single hb))
   exact⟨.none,_,π,rfl,hp.1,hp.2,rfl⟩
  ·exact .inl rfl
end
section
variable {am:Amb}{n:Nat}{q:Bool}{F:Fn}{c:Ck}
set_option tactic.hygienic true in
theorem zib {o:Expr}{name:Str}{env:Env}(h:okBase o=true):attributeBase o name env (eval o env)=eval o env:=by
 cases o<;>first|rfl|skip
 rename_i f xs ks p
 cases xs with
 |nil=>exact noB h
 |cons x xs=>cases f<;>rfl
set_option tactic.hygienic true in
theorem zdC {e:PE}{o a:PE}{v y:Expr}{name:Str}{id:String}{p p':Pos}{g:V→V→H→R V}(hb:okBase v=true) (hl:(p.endLine == p'.line)=true) (hy:isStar y=false) (slot:Slot "list" name id) (hty:typeOf (.builtin id)=pure (.type "method_descriptor"))
  (ho:EJ am n q F c o v) (ha:EJ am n q F c a y) (he:∀ ρ Hc,evE q F ρ e Hc=(evE q F ρ o Hc).bind fun x h=>if lcell h x then(evE q F ρ a h).bind fun y h=>g x y h else .bad)
  (op:∀ {res:List Addr}{stack:List Env}{A:Around}{π:List Addr}{s:Shared}{Hc:H}{a b:V}{x y:Value},AS n stack A→HR (am.at res) stack π Hc s.heap→VR (am.at res) π s.heap a x→VR (am.at res) π s.heap b y→JAt (am.at res) stack A (PySem.call (.builtin id) [x,y]) (g a b Hc) (VR (am.at res)) π s) :
  EJ am n q F c e (.Call (.Attribute v name p) [y] [] p'):=fun {cx ρ A res π Hc s} B st=>by
 rw[he];have hst:∀ z∈[y],isStar z=false:=by simpa using hy
 refine JT.at (T:=fun Q E s=>wpAny am.M A (eval v cx.env) (fun ov s₁=>(s₁.TypeIs ov "list"∧(∀ a,ov=.ref a→∃ ob,s₁.heap.get? a=some ob∧ob.dict=none))∧wpAny am.M A (eval y cx.env) (fun w s₂=>wpAny am.M A (PySem.call (.builtin id) [ov,w]) Q E s₂) E s₁) E s)
  (JT.bind (fun z_=>PT.and (PT.seq _ _ fun z_=>PT.wp _ _)) (ho B st) fun x u H1 π1 s1 z_ hs1 hr1 hv1=>?_) fun Q E h=>?_
 ·split
  ·rename_i hc
   refine hold fun z_ k_=>?_;obtain⟨i,l,vs,xs,rfl,rfl,hi,hH,pl,hz,hv⟩:=zbZ hr1 hv1 hc;refine k_ ?_;have J:JT (am.at res) cx.stack (fun Q E s=>wpAny am.M A (eval y cx.env) (fun w s₂=>wpAny am.M A (PySem.call (.builtin id) [.ref l,w]) Q E s₂) E s) ((evE q F ρ a H1).bind fun y h=>g (.ref i) y h) (VR (am.at res)) π1 s1 :=
    JT.bind (fun z_=>PT.wp _ _) (ha B (st.step hs1 hr1)) fun w u H2 π2 s2 z_ hs2 hr2 hv2=>JAt.pt (op B.as hr2 (hv1.step hs2) hv2)
   exact J.rule fun Q E h=>⟨⟨pl.is.typeIs,fun a e=>by cases e;obtain⟨o,n,ho,_,hd,_⟩:=pl;exact⟨o,ho,hd⟩⟩,h⟩
  ·exact .inl rfl
 ·refine wpAny_Call_method (T:="list") (id:=id) (zib hb) (by rw[zac _ hst];rfl) hl PySem.F.plainAttrs_list slot hty (wpAny_mono h (fun ov s₁ h₁=>⟨h₁.1.1,h₁.1.2,?_⟩) fun z_ z_ x=>x)
  rw[zac _ hst];exact Calls.callWith_builtin rfl (Calls.evalArgs_plain (spl1 h₁.2))
theorem zlc {o a:PE}{v y:Expr}{p p':Pos}(hb:okBase v=true) (hl:(p.endLine == p'.line)=true) (hy:isStar y=false) (ho:EJ am n q F c o v) (ha:EJ am n q F c a y) :
  EJ am n q F c (.append o a) (.Call (.Attribute v "append" p) [y] [] p') :=
 zdC (id:="list.append") (g:=fun x y h=>onList h x fun vs=>some (.none,vs++[y])) hb hl hy PySem.F.slot_list_append PySem.F.type_list_append ho ha (fun ρ Hc=>by simp only[zcd,zcc,zb7,zb6,zb5,zb4,zbF,zcb,zb3,za1,zaK,za0,zal,zaS,zaw,zaJ,zaZ,zar,zaz,zaI,zaH,zaY,zaX,zaR,zaW,zaG,zaq,zaF,zaV,zaE,zaU,zaQ,zaP,qE_34,zaD,zaC,zaO,zaB]) fun z_ hr h1 h2=>zku hr h1 h2
end
section
variable {am:Amb}{stack:List Env}{A:Around}{π:List Addr}{s:Shared}{Hc:H}
theorem zmd {a:V}{x:Value}(hr:HR am stack π Hc s.heap) (ha:VR am π s.heap a x) :
  JAt am stack A (PySem.call (.builtin "list.clear") [x]) (onList Hc a fun z_=>some (.none,[])) (VR am) π s:=by
 cases hc:lcell Hc a with
 |false=>exact .inl (zbb hc)
 |true =>
  refine hold fun z_ k_=>?_;obtain⟨i,l,vs,xs,rfl,rfl,hi,hH,pl,hz,hv⟩:=zbZ hr ha hc;refine k_ ?_;simp only[onList,hH];rw[if_pos (by simp)]
  refine hold fun z_ k_=>?_;obtain⟨o,n,ho,hcl,hdi,hd⟩:=id pl;refine k_ ?_;refine .inr (wpAny_call_entry PySem.F.slot_list_clear pl.is.typeIs PySem.F.entry_list_clear ?_ (PySem.F.args_list_clear_1 _));show wpAny _ _ (Builtin.List.listItems (.ref l) >>= fun old=>updateSeq l (fun z_=>#[]) >>= fun z_=>letGo old.toList.reverse >>= fun z_=>ret .none) _ _ s;refine wpAny_bind (wpAny_listItems ho hd ?_);refine wpAny_bind ?_
  have e:=hv.len;refine wpAny_updateSeq ho hd ?_ (hz:=by rw[List.size_toArray,e];exact zbi hz)
  refine wpAny_bind (wpAny_letGo ?_);refine wpAny_pure ⟨.none,rfl,?_⟩;have pl':=pl.update (fun z_=>#[]);have hp:=HR.put (tk:=s.toks) hr hi (vs:=[]) (by simp) (xs:=[]) (h':=s.heap.update l (Obj.mapSeq (fun z_=>#[]))) (fun b o h1 h2=>(Heap.SameBut.update ..).extBut b o h1 h2) (by simpa using pl') (by simp[VRs])
  exact⟨.none,_,π,rfl,hp.1,hp.2,rfl⟩
end
section
variable {am:Amb}{n:Nat}{q:Bool}{F:Fn}{c:Ck}
set_option tactic.hygienic true in
theorem zfz {e:PE}{o:PE}{v:Expr}{name:Str}{id:String}{p p':Pos}{g:V→H→R V}(hb:okBase v=true) (hl:(p.endLine == p'.line)=true) (slot:Slot "list" name id) (hty:typeOf (.builtin id)=pure (.type "method_descriptor"))
  (ho:EJ am n q F c o v) (he:∀ ρ Hc,evE q F ρ e Hc=(evE q F ρ o Hc).bind fun x h=>if lcell h x then g x h else .bad)
  (op:∀ {res:List Addr}{stack:List Env}{A:Around}{π:List Addr}{s:Shared}{Hc:H}{a:V}{x:Value},AS n stack A→HR (am.at res) stack π Hc s.heap→VR (am.at res) π s.heap a x→JAt (am.at res) stack A (PySem.call (.builtin id) [x]) (g a Hc) (VR (am.at res)) π s) :
  EJ am n q F c e (.Call (.Attribute v name p) [] [] p'):=fun {cx ρ A res π Hc s} B st=>by
 rw[he];have hst:∀ z∈([]:List Expr),isStar z=false:=by simp
 refine JT.at (T:=fun Q E s=>wpAny am.M A (eval v cx.env) (fun ov s₁=>(s₁.TypeIs ov "list"∧(∀ a,ov=.ref a→∃ ob,s₁.heap.get? a=some ob∧ob.dict=none))∧wpAny am.M A (PySem.call (.builtin id) [ov]) Q E s₁) E s)
  (JT.bind (fun z_=>PT.and (PT.wp _ _)) (ho B st) fun x u H1 π1 s1 z_ hs1 hr1 hv1=>?_) fun Q E h=>?_
 ·split
  ·rename_i hc
   refine hold fun z_ k_=>?_;obtain⟨i,l,vs,xs,rfl,rfl,hi,hH,pl,hz,hv⟩:=zbZ hr1 hv1 hc;refine k_ ?_;have J:JT (am.at res) cx.stack (fun Q E s=>wpAny am.M A (PySem.call (.builtin id) [.ref l]) Q E s) (g (.ref i) H1) (VR (am.at res)) π1 s1:=JAt.pt (op B.as hr1 hv1);exact J.rule fun Q E h=>⟨⟨pl.is.typeIs,fun a e=>by cases e;obtain⟨o,n,ho,_,hd,_⟩:=pl;exact⟨o,ho,hd⟩⟩,h⟩
  ·exact .inl rfl
 ·refine wpAny_Call_method (T:="list") (id:=id) (zib hb) (by rw[zac _ hst];rfl) hl PySem.F.plainAttrs_list slot hty (wpAny_mono h (fun ov s₁ h₁=>⟨h₁.1.1,h₁.1.2,?_⟩) fun z_ z_ x=>x)
  rw[zac _ hst];exact Calls.callWith_builtin rfl (evalArgs_nil3 h₁.2)
theorem zmN {o:PE}{v:Expr}{p p':Pos}(hb:okBase v=true) (hl:(p.endLine == p'.line)=true) (ho:EJ am n q F c o v):EJ am n q F c (.clear o) (.Call (.Attribute v "clear" p) [] [] p') :=
 zfz (id:="list.clear") (g:=fun x h=>onList h x fun z_=>some (.none,[])) hb hl PySem.F.slot_list_clear PySem.F.type_list_clear ho (fun ρ Hc=>by
  show(evE q F ρ o Hc).bind _=_
  congr 1
  funext x h
  cases e:lcell h x with
  |true=>rfl
  |false=>exact zbb e) fun z_ hr h1=>zmd hr h1
end
noncomputable def popG (Hc:H) (a b:V):R V:=match b with
 |.int k=>onList Hc a fun vs=>(place vs.length k).bind fun j=>(vs[j]?).map fun v=>(v,vs.eraseIdx j)
 |_=>.bad
theorem zes {n:Nat}{k:Int}{j:Nat}(h:place n k=some j):seqIndex? k n=some j:=by
 unfold place at h;unfold seqIndex?
 by_cases h0:0≤k
 ·rw[if_pos h0] at h
  by_cases h1:k < n
  ·rw[if_pos h1] at h
   simp only[if_neg (Int.not_lt.2 h0)];rw[if_pos (by rw[Bool.and_eq_true];exact⟨decide_eq_true h0,decide_eq_true h1⟩)];exact h
  ·rw[if_neg h1] at h;cases h
 ·rw[if_neg h0] at h
  have hk:=Int.not_le.1 h0
  by_cases h1:0≤k+n
  ·rw[if_pos h1] at h
   simp only[if_pos hk];rw[if_pos (by rw[Bool.and_eq_true];exact⟨decide_eq_true h1,decide_eq_true (Int.lt_of_lt_of_le (Int.add_lt_add_right hk _) (Int.le_of_eq (Int.zero_add _)))⟩)];exact h
  ·rw[if_neg h1] at h;cases h
section
variable {am:Amb}{stack:List Env}{A:Around}{π:List Addr}{s:Shared}{Hc:H}
theorem zmc {a b:V}{x y:Value}(hr:HR am stack π Hc s.heap) (ha:VR am π s.heap a x) (hb:VR am π s.heap b y):JAt am stack A (PySem.call (.builtin "list.pop") [x,y]) (popG Hc a b) (VR am) π s:=by
 unfold popG
 cases b with
 |int k =>
  simp only
  cases hc:lcell Hc a with
  |false=>exact .inl (zbb hc)
  |true =>
   obtain⟨i,l,vs,xs,rfl,rfl,hi,hH,pl,hz,hv⟩:=zbZ hr ha hc;simp only[onList,hH];simp only[VR] at hb;obtain⟨t,rfl⟩:=hb
   cases hj:place vs.length k with
   |none=>exact .inl (by simp)
   |some j =>
    cases hw:vs[j]? with
    |none=>exact .inl (by simp[hw])
    |some v =>
     obtain⟨w,hx,hvw⟩:=hv.get j v hw;have le:(vs.eraseIdx j).length≤1000000:=Nat.le_trans (List.length_eraseIdx_le ..) hz;simp only[Option.bind_some,hw,Option.map_some,if_pos le];obtain⟨o,n,ho,hcl,hdi,hd⟩:=id pl;have hlen:=hv.len;refine .inr (wpAny_call_entry PySem.F.slot_list_pop pl.is.typeIs PySem.F.entry_list_pop ?_ (PySem.F.args_list_pop_2 _ _));unfold Builtin.«list.pop»
     refine wpAny_bind ?_;show wpAny _ _ (pure (Value.ref l,[Value.int k t])) _ _ s;refine wpAny_pure ?_;show wpAny _ _ (asIndex (.int k t) >>= _) _ _ s;refine wpAny_bind (wpAny_of_eq (a:=k) rfl ?_);have pb:=zc5 hj hz;show wpAny _ _ (if(!Builtin.List.listFitsIndex k)=true then _ else _) _ _ s;rw[if_neg (by unfold Builtin.List.listFitsIndex;rw[decide_eq_true pb.1,decide_eq_true pb.2];decide)]
     show wpAny _ _ (Builtin.List.listItems (.ref l) >>= _) _ _ s;refine wpAny_bind (wpAny_listItems ho hd ?_);have ne:xs≠[]:=fun q=>by subst q;simp at hx
     show wpAny _ _ (if(List.toArray xs).isEmpty=true then _ else _) _ _ s;rw[if_neg (by simpa using ne)]
     have ei:((seqIndex? k (List.toArray xs).size).bind fun k=>Option.map (fun x=>(k,x)) (List.toArray xs)[k]?)=some (j,w):=by
      rw[show(List.toArray xs).size=vs.length by simpa using hlen,zes hj]
      simp[hx]
     show wpAny _ _ (match ((seqIndex? k (List.toArray xs).size).bind fun k=>Option.map (fun x=>(k,x)) (List.toArray xs)[k]?) with|some (k,x)=>_|none=>_) _ _ s
     rw[ei];show wpAny _ _ (updateSeq l (·.eraseIdxIfInBounds j) >>= fun z_=>ret w) _ _ s;refine wpAny_bind ?_;refine wpAny_updateSeq ho hd (wpAny_pure ⟨w,rfl,?_⟩) (hz:=by rw[List.size_toArray,hlen];exact zbi hz) (_hz':=by exact Nat.le_trans (size_eraseIdxIfInBounds_le _ _) (by rw[List.size_toArray,hlen];exact Nat.le_succ_of_le (zbi hz)))
     have pl':=pl.update (·.eraseIdxIfInBounds j);have hp:=HR.put (tk:=s.toks) hr hi le (xs:=xs.eraseIdx j) (h':=s.heap.update l (Obj.mapSeq (·.eraseIdxIfInBounds j))) (fun b o h1 h2=>(Heap.SameBut.update ..).extBut b o h1 h2) (by simpa using pl') (hv.eraseIdx j)
     exact⟨v,_,π,rfl,hp.1,hp.2,hvw.step hp.1⟩
 |_=>exact .inl rfl
end
section
variable {am:Amb}{n:Nat}{q:Bool}{F:Fn}{c:Ck}
theorem zmJ {o a:PE}{v y:Expr}{p p':Pos}(hb:okBase v=true) (hl:(p.endLine == p'.line)=true) (hy:isStar y=false) (ho:EJ am n q F c o v) (ha:EJ am n q F c a y) :
  EJ am n q F c (.popAt o a) (.Call (.Attribute v "pop" p) [y] [] p') :=
 zdC (id:="list.pop") (g:=fun x y h=>popG h x y) hb hl hy PySem.F.slot_list_pop PySem.F.type_list_pop ho ha (fun ρ Hc=>by rw[zaD];rfl) fun z_ hr h1 h2=>zmc hr h1 h2
end
end Mine
namespace Mine
open PySem PySem.W PyProof.Rows PySem.MeetsSeq
open AutoSeq1 (wpAny_loadPart')
theorem zkU:∀ {xs:List Value}{is:List Int}{k:Int}{j:Nat},IntsAre xs is→(is.findIdx? fun i=>i == k)=some j→∃ (hj:j < xs.length),(∃ t,xs[j]=.int k t)∧∀ m (hm:m < xs.length),m < j→∃ i t,xs[m]=.int i t∧(i == k)=false:=by
 intro xs is k j h
 induction h generalizing j with
 |nil=>intro e;cases e
 |cons i t h ih =>
  intro e;rw[List.findIdx?_cons] at e
  by_cases hk:(i == k)=true
  ·rw[if_pos hk] at e
   cases e
   exact⟨Nat.succ_pos _,⟨t,by rw[←eq_of_beq hk];rfl⟩,fun m z_ hm=>absurd hm (Nat.not_lt_zero m)⟩
  ·rw[if_neg hk] at e
   obtain⟨j',e',rfl⟩:=Option.map_eq_some_iff.1 e;obtain⟨hj,h1,h2⟩:=ih e';refine⟨Nat.succ_lt_succ hj,h1,fun m hm hlt=>?_⟩
   cases m with
   |zero=>exact⟨i,t,rfl,Bool.eq_false_iff.2 hk⟩
   |succ m=>exact h2 m (Nat.lt_of_succ_lt_succ hm) (Nat.lt_of_succ_lt_succ hlt)
theorem zn7 (l:Addr) (c:Value) (dd:Option Addr) (sl:Array (Option Value)) (xs:List Value) (n:Nat) (k:Int) (t:Tok) (j:Nat) (hj:j < xs.length) (hit:∃ u,xs[j]=.int k u) (hno:∀ m (hm:m < xs.length),m < j→∃ i u,xs[m]=.int i u∧(i == k)=false) (hz:xs.length≤1000000) :
  ∀ (d i:Nat),i+d=j→Meets (Builtin.«list.remove.loop» ⟨[.ref l,.int k t,rawInt i],[]⟩) (fun z_ R s=>s.heap.get? l=some ⟨c,dd,.seq xs.toArray n,sl⟩∧R (.ok (.ret .none)) { s with heap:=s.heap.update l (Obj.mapSeq fun xs=>xs.eraseIdxIfInBounds j) }):=by
 have hs1:xs.toArray.size≤sizeLine:=by rw[List.size_toArray];exact zbi hz
 intro d
 induction d with
 |zero =>
  intro i hi prog w A R s h;obtain⟨hp,g,dr,tk,os⟩:=s;obtain⟨hl,h⟩:=h;rw[Nat.add_zero] at hi;subst hi;obtain⟨u,e⟩:=hit
  wp_walk using wpAny_loadPart' hl
  have h1:xs.toArray[((i:Nat):Int).toNat]?=some (.int k u):=by simp[hj,e]
  rw[h1];refine wpAny_bind (wpAny_eqBool_int ?_);rw[beq_self_eq_true];have hz':(xs.toArray.eraseIdxIfInBounds i).size≤sizeLine+1:=Nat.le_trans (size_eraseIdxIfInBounds_le _ _) (Nat.le_succ_of_le hs1)
  wp_walk using (wpAny_updateSeq hl rfl (hz:=hs1) (_hz':=hz')),wpAny_loadPart' hl
  simpa using h
 |succ d ih =>
  intro i hi prog w A R s h;obtain⟨hp,g,dr,tk,os⟩:=s;obtain⟨hl,h⟩:=h;have hlt:i < j:=hi ▸ Nat.lt_add_of_pos_right (Nat.succ_pos d);have hil:=Nat.lt_trans hlt hj;obtain⟨m,u,e,ne⟩:=hno i hil hlt
  wp_walk using wpAny_loadPart' hl
  have h1:xs.toArray[((i:Nat):Int).toNat]?=some (.int m u):=by simp[hil,e]
  have hc:((i:Int)+1)=((i+1:Nat):Int):=rfl;rw[h1];refine wpAny_bind (wpAny_eqBool_int ?_);rw[ne]
  wp_walk
  rw[hc];exact⟨plainId_quiet plain_remove_loop _,codeAny_builtin entry_remove_loop (by
   rw[Around.under_plainId plain_remove_loop _];exact ih (i+1) (by rw[Nat.add_assoc,Nat.add_comm 1 d];exact hi) prog w A R _ ⟨hl,h⟩)⟩
theorem zlV (l:Addr) (c:Value) (dd:Option Addr) (sl:Array (Option Value)) (xs:List Value) (n:Nat) (k:Int) (t:Tok) (j:Nat) (hj:j < xs.length) (hit:∃ u,xs[j]=.int k u) (hno:∀ m (hm:m < xs.length),m < j→∃ i u,xs[m]=.int i u∧(i == k)=false) (hz:xs.length≤1000000) :
  Meets (Builtin.«list.remove» ⟨[.ref l,.int k t],[]⟩) (fun z_ R s=>s.heap.get? l=some ⟨c,dd,.seq xs.toArray n,sl⟩∧R (.ok (.ret .none)) { s with heap:=s.heap.update l (Obj.mapSeq fun xs=>xs.eraseIdxIfInBounds j) }):=by
 intro prog w A R s h;obtain⟨hp,g,dr,tk,os⟩:=s;obtain⟨hl,h⟩:=h
 wp_walk using wpAny_loadPart' hl
 exact⟨plainId_quiet plain_remove_loop _,codeAny_builtin entry_remove_loop (by
  rw[Around.under_plainId plain_remove_loop _];exact zn7 l c dd sl xs n k t j hj hit hno hz j 0 (Nat.zero_add j) prog w A R _ ⟨hl,h⟩)⟩
section
variable {am:Amb}{stack:List Env}{A:Around}{π:List Addr}{s:Shared}{Hc:H}
theorem zkq {a b:V}{x y:Value}(hr:HR am stack π Hc s.heap) (ha:VR am π s.heap a x) (hb:VR am π s.heap b y) :
  JAt am stack A (PySem.call (.builtin "list.remove") [x,y]) (onList Hc a fun vs=>rmvI b vs) (VR am) π s:=by
 cases hc:lcell Hc a with
 |false=>exact .inl (zbb hc)
 |true =>
  refine hold fun z_ k_=>?_;obtain⟨i,l,vs,xs,rfl,rfl,hi,hH,pl,hz,hv⟩:=zbZ hr ha hc;refine k_ ?_
  cases b with
  |int k =>
   obtain⟨t,rfl⟩:=hb;simp only[onList,hH,rmvI]
   cases h1:asInts vs with
   |none=>exact .inl rfl
   |some is =>
    have I:=zcY h1 hv
    cases h2:is.findIdx? fun i=>i == k with
    |none=>refine .inl ?_;rw[Option.bind_some,h2];rfl
    |some j =>
     obtain⟨hj,⟨u,e1⟩,e2⟩:=zkU I h2;have le:(vs.eraseIdx j).length≤1000000:=Nat.le_trans (List.length_eraseIdx_le ..) hz;rw[Option.bind_some,h2];simp only[Option.map_some,if_pos le];refine hold fun z_ k_=>?_;obtain⟨o,n,ho,hcl,hdi,hd⟩:=id pl;refine k_ ?_;obtain⟨cls,dd,data,sl⟩:=o;simp only at hcl hdi hd;subst hcl hdi hd;refine .inr (call_meets PySem.F.slot_list_remove pl.is.typeIs PySem.F.entry_list_remove (PySem.F.args_list_remove_2 _ _) (zlV l _ _ sl xs n k t j hj ⟨u,e1⟩ e2 (by rw[hv.len];exact hz)) ⟨ho,?_⟩)
     have pl':=pl.update (·.eraseIdxIfInBounds j);have hp:=HR.put (tk:=s.toks) hr hi le (xs:=xs.eraseIdx j) (h':=s.heap.update l (Obj.mapSeq (·.eraseIdxIfInBounds j))) (fun b o h1 h2=>(Heap.SameBut.update ..).extBut b o h1 h2) (by simpa using pl') (hv.eraseIdx j)
     exact⟨.none,_,π,rfl,hp.1,hp.2,rfl⟩
  |_=>refine .inl ?_;simp only[onList,hH,rmvI]
end
section
variable {am:Amb}{n:Nat}{q:Bool}{F:Fn}{c:Ck}
theorem zla {o a:PE}{v y:Expr}{p p':Pos}(hb:okBase v=true) (hl:(p.endLine == p'.line)=true) (hy:isStar y=false) (ho:EJ am n q F c o v) (ha:EJ am n q F c a y) :
  EJ am n q F c (.remove o a) (.Call (.Attribute v "remove" p) [y] [] p') :=
 zdC (id:="list.remove") (g:=fun x y h=>onList h x fun vs=>rmvI y vs) hb hl hy PySem.F.slot_list_remove PySem.F.type_list_remove ho ha (fun z_ z_=>rfl) fun z_ hr h1 h2=>zkq hr h1 h2
end
end Mine
namespace Mine
open PySem PySem.W PyProof.Rows
section
variable {am:Amb}{stack:List Env}{A:Around}{π:List Addr}{s:Shared}{Hc:H}
theorem znF {value slice:Expr}{a:V}{x:Value}{t:Tok}(hr:HR am stack π Hc s.heap) (ha:VR am π s.heap a x) :
  JT am stack (fun Q E s=>wpAny am.M A (newFields "slice" [.int 1 t,.none,.none]) (fun i s₁=>wpAny am.M A (subscriptTail value slice x i) Q E s₁) E s) (R.opt (tailOf a) Hc) (VR am) π s:=by
 cases a with
 |tup vs =>
  by_cases h0:0 < vs.length
  ·have ha':=ha
   simp only[VR] at ha';refine hold fun z_ k_=>?_;obtain⟨l,xs,rfl,_,h1,hz,hv⟩:=ha';refine k_ ?_;have e:tailOf (.tup vs)=some (.tup (vs.drop 1)):=if_pos h0;rw[e];have k:∀ b o,s.heap.get? b=some o→(s.heap.push { cls:=.type "slice",data:=.fields #[.int 1 t,.none,.none] }).get? b=some o:=fun b o q=>Heap.get?_push_of_some _ q;have h1t:IsTup s.heap l xs.toArray:=h1;have h1':IsTup (s.heap.push { cls:=.type "slice",data:=.fields #[.int 1 t,.none,.none] }) l xs.toArray:=h1t.keeps k
   refine .inr ?_;unfold newFields;refine wpAny_newObj_type ?_;refine zdh (s:={ s with heap:=s.heap.push { cls:=.type "slice",data:=.fields #[.int 1 t,.none,.none] } }) h1'.typeIs slot_tuple_getitem.lookup
    (getItem_tuple_from (a:=1) h1' (Heap.IsSliceOf.new ..) (Nat.le_refl 1) (by rw[List.size_toArray,hv.len];exact h0) ?_ (by rw[List.size_toArray,hv.len];exact zbi hz))
   refine OkP.step (Step.keeps (tk:=s.toks) k) ?_;exact OkP.tup (s:={ s with heap:=s.heap.push { cls:=.type "slice",data:=.fields #[.int 1 t,.none,.none] } }) (n:=0) (tk:=s.toks) (xs:=xs.drop 1) (hr.keeps k) ((hv.drop 1).keeps k) (by rw[List.length_drop];exact Nat.le_trans (Nat.sub_le ..) hz) rfl rfl
  ·refine .inl ?_
   have e:tailOf (.tup vs)=Option.none:=if_neg h0;rw[e];rfl
 |_=>exact .inl rfl
end
section
variable {am:Amb}{n:Nat}{q:Bool}{F:Fn}{c:Ck}
theorem zoS {a:PE}{v:Expr}{k:Nat}{pc p p':Pos}(ha:EJ am n q F c a v):EJ am n q F c (.rev a) (.Subscript v (.Slice (some (.Constant (.int 1) k pc)) none none p') p):=fun {cx ρ A res π Hc s} B st=>by
 rw[zaI];refine JT.at (T:=fun Q E s=>wpAny am.M A (eval v cx.env) (fun x s₀=>wpAny am.M A (valueOrNone (evalOpt (some (.Constant (.int 1) k pc)) cx.env)) (fun a s₁=>wpAny am.M A (valueOrNone (evalOpt none cx.env)) (fun b s₂=>wpAny am.M A (newFields "slice" [a,b,.none]) (fun i s₃=>wpAny am.M A (subscriptTail v (.Slice (some (.Constant (.int 1) k pc)) none none p') x i) Q E s₃) E s₂) E s₁) E s₀) E s)
  (JT.bind (fun x=>PT.seq _ _ fun a=>PT.seq _ _ fun b=>PT.seq _ _ fun i=>PT.wp _ _) (ha B st) fun x v' H1 π1 s1 z_ hs1 hr1 hv1=>?_) fun Q E h=>?_
 ·have st1:=st.step hs1 hr1
  have hl:OptJ am n q F c (some (.int 1)) (some (.Constant (.int 1) k pc)):=znv;have hu:OptJ am n q F c none none:=trivial;refine(JT.bind (r:=evO q F ρ (some (.int 1)) H1) (g:=fun l h=>(evO q F ρ none h).bind fun u h=>R.opt (tailOf v') h) (fun a=>PT.seq _ _ fun b=>PT.seq _ _ fun i=>PT.wp _ _) (hl.ev B st1) fun y w H2 π2 s2 e2 hs2 hr2 hv2=>?_);have st2:=st1.step hs2 hr2;refine JT.bind (fun a=>PT.seq _ _ fun i=>PT.wp _ _) (hu.ev B st2) fun z w2 H3 π3 s3 e3 hs3 hr3 hv3=>?_
  cases e2
  cases e3
  obtain⟨t,rfl⟩:∃ t,y=.int 1 t:=hv2
  cases hv3
  exact znF hr3 ((hv1.step hs2).step hs3)
 ·have e:eval (.Subscript v (.Slice (some (.Constant (.int 1) k pc)) none none p') p) cx.env=(eval v cx.env >>= fun o=>holding [o] (valueOrNone (evalOpt (some (.Constant (.int 1) k pc)) cx.env) >>= fun a=>holding [a] (valueOrNone (evalOpt none cx.env)) >>= fun b=>holding [a,b] (pure .none) >>= fun d=>newFields "slice" [a,b,d]) >>= fun i=>standAt p >>= fun z_=>subscriptTail v (.Slice (some (.Constant (.int 1) k pc)) none none p') o i):=rfl
  rw[e];exact wpAny_bind (wpAny_mono h (fun o s0 h0=>wpAny_bind (wpAny_holding (wpAny_bind (wpAny_mono h0 (fun a s1 h1=>wpAny_bind (wpAny_holding (wpAny_mono h1 (fun b s2 h2=>wpAny_bind (wpAny_holding (wpAny_pure (wpAny_mono h2 (fun i s3 h3=>wpAny_bind (wpAny_standAt h3)) fun z_ z_ x=>x)))) fun z_ z_ x=>x))) fun z_ z_ x=>x)))) fun z_ z_ x=>x)
end
noncomputable def popL (Hc:H) (a:V):R V:=onList Hc a fun vs=>(vs.getLast?).map fun v=>(v,vs.dropLast)
theorem zkl {n:Nat}(h:n - 1 < n):place n (-1)=some (n - 1):=by
 cases n with
 |zero=>exact absurd h (Nat.lt_irrefl 0)
 |succ m =>
  unfold place;rw[if_neg (by decide),zeA,if_pos (Int.natCast_nonneg m)];rfl
section
variable {am:Amb}{stack:List Env}{A:Around}{π:List Addr}{s:Shared}{Hc:H}
theorem zpI {a:V}{x:Value}(hr:HR am stack π Hc s.heap) (ha:VR am π s.heap a x):JAt am stack A (PySem.call (.builtin "list.pop") [x]) (popL Hc a) (VR am) π s:=by
 unfold popL
 cases hc:lcell Hc a with
 |false=>exact .inl (zbb hc)
 |true =>
  obtain⟨i,l,vs,xs,rfl,rfl,hi,hH,pl,hz,hv⟩:=zbZ hr ha hc;simp only[onList,hH]
  cases hw:vs.getLast? with
  |none=>exact .inl rfl
  |some v =>
   rw[List.getLast?_eq_getElem?] at hw;obtain⟨w,hx,hvw⟩:=hv.get _ v hw;have hlen:=hv.len;have hpos:vs.length - 1 < vs.length:=(List.getElem?_eq_some_iff.1 hw).1;have le:vs.dropLast.length≤1000000:=by rw[List.length_dropLast];exact Nat.le_trans (Nat.sub_le ..) hz
   simp only[Option.map_some,if_pos le];obtain⟨o,n,ho,hcl,hdi,hd⟩:=id pl;refine .inr (wpAny_call_entry PySem.F.slot_list_pop pl.is.typeIs PySem.F.entry_list_pop ?_ (PySem.F.args_list_pop_1 _));unfold Builtin.«list.pop»
   refine wpAny_bind ?_;show wpAny _ _ (pure (Value.ref l,[])) _ _ s;refine wpAny_pure ?_;show wpAny _ _ (Builtin.List.listItems (.ref l) >>= _) _ _ s;refine wpAny_bind (wpAny_listItems ho hd ?_);have ne:xs≠[]:=fun q=>by subst q;simp at hx
   show wpAny _ _ (if(List.toArray xs).isEmpty=true then _ else _) _ _ s;rw[if_neg (by simpa using ne)]
   have ei:((seqIndex? (-1) (List.toArray xs).size).bind fun k=>Option.map (fun x=>(k,x)) (List.toArray xs)[k]?)=some (vs.length - 1,w):=by
    rw[show(List.toArray xs).size=vs.length by simpa using hlen,zes (j:=vs.length - 1) (zkl hpos)]
    simp[hx]
   show wpAny _ _ (match ((seqIndex? (-1) (List.toArray xs).size).bind fun k=>Option.map (fun x=>(k,x)) (List.toArray xs)[k]?) with|some (k,x)=>_|none=>_) _ _ s
   rw[ei];show wpAny _ _ (updateSeq l (·.eraseIdxIfInBounds (vs.length - 1)) >>= fun z_=>ret w) _ _ s;refine wpAny_bind ?_;refine wpAny_updateSeq ho hd (wpAny_pure ⟨w,rfl,?_⟩) (hz:=by rw[List.size_toArray,hlen];exact zbi hz) (_hz':=by exact Nat.le_trans (size_eraseIdxIfInBounds_le _ _) (by rw[List.size_toArray,hlen];exact Nat.le_succ_of_le (zbi hz)))
   have pl':=pl.update (·.eraseIdxIfInBounds (vs.length - 1));have hp:=HR.put (tk:=s.toks) hr hi (vs:=vs.eraseIdx (vs.length - 1)) (Nat.le_trans (List.length_eraseIdx_le ..) hz) (xs:=xs.eraseIdx (vs.length - 1)) (h':=s.heap.update l (Obj.mapSeq (·.eraseIdxIfInBounds (vs.length - 1)))) (fun b o h1 h2=>(Heap.SameBut.update ..).extBut b o h1 h2) (by simpa using pl') (hv.eraseIdx _)
   rw[List.eraseIdx_length_sub_one] at hp;exact⟨v,_,π,rfl,hp.1,hp.2,hvw.step hp.1⟩
end
section
variable {am:Amb}{n:Nat}{q:Bool}{F:Fn}{c:Ck}
theorem zqn {o:PE}{v:Expr}{p p':Pos}(hb:okBase v=true) (hl:(p.endLine == p'.line)=true) (ho:EJ am n q F c o v):EJ am n q F c (.pop o) (.Call (.Attribute v "pop" p) [] [] p') :=
 zfz (id:="list.pop") (g:=fun x h=>popL h x) hb hl PySem.F.slot_list_pop PySem.F.type_list_pop ho (fun ρ Hc=>by
  rw[qE_34]
  congr 1
  funext x h
  cases hc:lcell h x with
  |true=>rfl
  |false=>exact zbb hc) fun z_ hr h1=>zpI hr h1
end
section
variable {am:Amb}{stack:List Env}{A:Around}{π:List Addr}{s:Shared}{Hc:H}
theorem HR.grow {l:Addr}{h':Heap}{tk:Nat}{c:Cell}(hr:HR am stack π Hc s.heap) (hl:s.heap.get? l=none) (k:∀ b o,s.heap.get? b=some o→h'.get? b=some o) (hc:CellAt am (π++[l]) h' c l) :
  OkP am stack (VR am) π s (.ok (.ref Hc.length) (Hc++[c])) (.ref l) { s with heap:=h',toks:=tk }:=by
 have hp:=zat hr hl;have hr':=hr.keeps k;have st:Step (Fs stack) π s (π++[l]) { s with heap:=h',toks:=tk } :=
  ⟨⟨h',tk,rfl⟩,Ext.of_keeps k,[l],rfl,fun a ha=>by rw[List.mem_singleton.mp ha];exact hl⟩
 refine⟨_,_,π++[l],rfl,st,⟨hr'.base,hr'.frames,by simp[hr.len],?_,hr'.res,fun a ha=>?_,fun i c' a hi ha=>?_⟩,?_⟩
 ·rw[List.nodup_append]
  exact⟨hr.nodup,by simp,fun a ha b hb=>by rw[List.mem_singleton.mp hb];exact fun q=>hp (q ▸ ha)⟩
 ·rcases List.mem_append.mp ha with ha|ha
  ·exact hr.off a ha
  ·rw[List.mem_singleton.mp ha];exact⟨zas hr.base hl,za4 hr hl⟩
 ·by_cases hlt:i < Hc.length
  ·rw[List.getElem?_append_left hlt] at hi
   rw[List.getElem?_append_left (by rw[hr.len];exact hlt)] at ha
   exact(hr.cell i c' a hi ha).via st.via fun o e z_=>⟨o.slots,k a o e⟩
  ·have hi':i=Hc.length:=by
    have:=(List.getElem?_eq_some_iff.mp hi).1;rw[List.length_append] at this;exact Nat.le_antisymm (Nat.le_of_lt_succ this) (Nat.le_of_not_lt hlt)
   subst hi';simp only[List.getElem?_concat_length,Option.some.injEq] at hi;rw[←hr.len] at ha;simp only[List.getElem?_concat_length,Option.some.injEq] at ha;subst hi ha;exact hc
 ·simp only[VR]
  exact⟨l,rfl,by rw[←hr.len];simp⟩
theorem HR.putD {i:Nat}{d:Addr}{c:Cell}{h':Heap}{tk:Nat}(hr:HR am stack π Hc s.heap) (hi:π[i]?=some d) (k:∀ b o,b≠d→s.heap.get? b=some o→h'.get? b=some o) (ho:∃ o,h'.get? d=some o∧∀ us,o.data≠.fields us)
  (hc:Step (Fs stack) π s π { s with heap:=h',toks:=tk }→CellAt am π h' c d) :
  Step (Fs stack) π s π { s with heap:=h',toks:=tk }∧HR am stack π (Hc.set i c) h':=by
 have hl:=zcW hi;have st:Step (Fs stack) π s π { s with heap:=h',toks:=tk }:=by
  refine⟨⟨h',tk,rfl⟩,⟨fun a o e h1 z_=>k a o (fun q=>h1 (q ▸ hl)) e,fun a o e h1=>⟨o.slots,k a o (fun q=>h1 (q ▸ hl)) e⟩,fun a o e=>?_⟩,[],by simp,by simp⟩
  by_cases ha:a=d
  ·subst ha;obtain⟨o,ho,_⟩:=ho;exact⟨o,ho⟩
  ·exact⟨o,k a o ha e⟩
 refine⟨st,⟨fun a o e=>?_,zbH k ho hr.frames,by simp[hr.len],hr.nodup,fun a ha=>?_,hr.off,fun j c' a h1 h2=>?_⟩⟩
 ·exact k a o (fun q=>by subst q;rw[(hr.off a hl).1] at e;cases e) (hr.base a o e)
 ·by_cases hq:a=d
  ·subst hq;exact ho
  ·obtain⟨o,ho,hd⟩:=hr.res a ha
   exact⟨o,k a o hq ho,hd⟩
 ·by_cases hj:j=i
  ·subst hj
   have hlt:j < Hc.length:=by rw[←hr.len];exact(List.getElem?_eq_some_iff.mp hi).1
   rw[List.getElem?_set_self hlt] at h1
   cases h1
   rw[hi] at h2;cases h2
   exact hc st
  ·rw[List.getElem?_set_ne (Ne.symm hj)] at h1
   have hne:a≠d:=fun q=>hj (znj hr.nodup (q ▸ h2) hi);exact(hr.cell j c' a h1 h2).via st.via fun o e z_=>⟨o.slots,k a o hne e⟩
set_option tactic.hygienic true in
theorem zec {a:V}{x:Value}(ha:VR am π s.heap a x) (hc:dcell Hc a=true):∃ i d es,a=.ref i∧x=.ref d∧π[i]?=some d∧Hc[i]?=some (.dict es):=by
 cases a with
 |ref i =>
  simp only[dcell] at hc;simp only[VR] at ha;obtain⟨l,rfl,hl⟩:=ha
  split at hc
  ·rename_i es hv
   exact⟨i,l,es,rfl,rfl,hl,hv⟩
  ·cases hc
 |_=>simp[dcell] at hc
section
variable {es:List (V × V)}{d:Addr}{o:Obj}{arr:Array DictEntry}{ep:Nat}{xs:List Value}
theorem DC.line (D:DC am π s.heap es d o arr ep xs):arr.size≤sizeLine:=by
 rw[D.size];have:=D.len;rw[zcA] at this;have:=zcv
 omega
theorem DC.push {i tk:Nat}{b c:V}{y z:Value}(D:DC am π s.heap es d o arr ep xs) (hr:HR am stack π Hc s.heap) (hi:π[i]?=some d) (hb:VR am π s.heap b y) (hz:VR am π s.heap c z) (hk:keyOk b=true) (hn:dfind b es=none) (hle:es.length≤1000) :
  Step (Fs stack) π s π { s with heap:=s.heap.update d (Obj.mapDictKeys (·.push ⟨hashV b,y,z⟩)),toks:=tk }∧HR am stack π (Hc.set i (.dict (es++[(b,c)]))) (s.heap.update d (Obj.mapDictKeys (·.push ⟨hashV b,y,z⟩))):=by
 have hd':=Obj.data_mapDictKeys D.data (·.push ⟨hashV b,y,z⟩);have hg':=Heap.get?_update_self (Obj.mapDictKeys (·.push ⟨hashV b,y,z⟩)) D.ho (Obj.isFreed_of_dict hd');have xl:xs.length=2 * es.length:=by rw[D.vr.len];exact zcA es
 refine HR.putD (c:=.dict (es++[(b,c)])) hr hi (fun b o h1 h2=>(Heap.SameBut.update ..).extBut b o h1 h2) ⟨_,hg',fun us q=>by rw[hd'] at q;cases q⟩ fun st=>?_
 obtain⟨ne,ho,cls,di,da,ar,vr,gd,ag,ln⟩:=D;refine⟨_,xs++[y,z],hg',⟨ne_of_beq_false ne,_,_,?_,?_,hd',?_,zjr gd hk hn,by rw[List.length_append,ag];rfl⟩,?_,?_⟩
 ·obtain⟨c0,di,dt,sl⟩:=o;simp only at da;subst da;exact cls
 ·obtain⟨c0,di,dt,sl⟩:=o;simp only at da;subst da;assumption
 ·rw[Array.toList_push,ar,zhe es xs b c _ _ xl]
 ·show((es++[(b,c)]).flatMap fun e=>[e.1,e.2]).length≤_
  rw[zcA,List.length_append,List.length_singleton];exact Nat.le_trans (Nat.mul_le_mul_left 2 (Nat.succ_le_succ hle)) (by decide)
 ·show VRs am π _ ((es++[(b,c)]).flatMap fun e=>[e.1,e.2]) _
  rw[List.flatMap_append];refine VRs.append (vr.step st) ?_;show VRs am π _ [b,c] [y,z];simp only[VRs];exact⟨_,_,rfl,hb.step st,_,_,rfl,hz.step st,rfl⟩
theorem DC.put {i j tk:Nat}{b c v0:V}{z:Value}(D:DC am π s.heap es d o arr ep xs) (hr:HR am stack π Hc s.heap) (hi:π[i]?=some d) (hz:VR am π s.heap c z) (hj:es[j]?=some (b,v0)) :
  Step (Fs stack) π s π { s with heap:=s.heap.update d (Obj.mapDict (·.modify j fun e=>{ e with val:=z })),toks:=tk }∧HR am stack π (Hc.set i (.dict (es.set j (b,c)))) (s.heap.update d (Obj.mapDict (·.modify j fun e=>{ e with val:=z }))):=by
 have hd':=Obj.data_mapDict D.data (·.modify j fun e=>{ e with val:=z })
 have hg':=Heap.get?_update_self (Obj.mapDict (·.modify j fun e=>{ e with val:=z })) D.ho (Obj.isFreed_of_dict hd')
 refine HR.putD (c:=.dict (es.set j (b,c))) hr hi (fun b o h1 h2=>(Heap.SameBut.update ..).extBut b o h1 h2) ⟨_,hg',fun us q=>by rw[hd'] at q;cases q⟩ fun st=>?_
 obtain⟨ne,ho,cls,di,da,ar,vr,gd,ag,ln⟩:=D;obtain⟨xs',r',e'⟩:=ziK (hz.step st) (vr.step st) hj;have km:(es.set j (b,c)).map (·.1)=es.map (·.1):=by
  have e:(es.map (·.1))[j]?=some b:=by rw[List.getElem?_map,hj];rfl
  obtain⟨_,e⟩:=List.getElem?_eq_some_iff.1 e;rw[List.map_set];show(es.map (·.1)).set j b=_;rw[←e,List.set_getElem_self]
 refine⟨_,xs',hg',⟨ne_of_beq_false ne,_,_,?_,?_,hd',?_,⟨?_,fun e he=>?_⟩,by rw[List.length_set];exact ag⟩,?_,r'⟩
 ·obtain⟨c0,di,dt,sl⟩:=o;simp only at da;subst da;exact cls
 ·obtain⟨c0,di,dt,sl⟩:=o;simp only at da;subst da;assumption
 ·rw[Array.toList_modify,ar,e']
 ·rw[km];exact gd.1
 ·have:e.1∈es.map (·.1):=by rw[←km];exact List.mem_map.2 ⟨e,he,rfl⟩
  obtain⟨e0,h0,q⟩:=List.mem_map.1 this;rw[←q];exact gd.2 e0 h0
 ·show((es.set j (b,c)).flatMap fun e=>[e.1,e.2]).length≤_
  rw[zcA,List.length_set,← zcA];exact ln
theorem zfk {i:Nat}{b c:V}{y w:Value}{Q:PUnit→Shared→Prop}{E:Value→Shared→Prop}(hu:A.units < cLine) (hr:HR am stack π Hc s.heap) (hi:π[i]?=some d) (D:DC am π s.heap es d o arr ep xs) (hk:keyOk b=true) (hb:VR am π s.heap b y) (hc:VR am π s.heap c w) (hle:es.length≤1000)
  (h:∀ s',Step (Fs stack) π s π s'→HR am stack π (Hc.set i (.dict (dput b c es))) s'.heap→Q () s'):wpAny am.M A (dictSet d y w) Q E s:=by
 obtain⟨m,hh⟩:=zhW (A:=A) hk hb hu;unfold dictSet
 try with_reducible refine wpAny_holding ?_
 refine wpAny_bind (hh ?_);unfold dictSetHashed
 try with_reducible refine wpAny_holding ?_
 refine wpAny_bind (zhX (s:={ s with toks:=s.toks+m }) D hk hb hu (fun e=>?_) fun j v e=>?_)
 ·have p:=D.push (tk:=s.toks+m) hr hi hb hc hk e hle
  rw[←dput_new e] at p;exact wpAny_bind (wpAny_rule (wpAny_updateDictKeys (hz:=D.line) (s:={ s with toks:=s.toks+m }) D.ho D.data (h _ p.1 p.2)))
 ·have p:=D.put (tk:=s.toks+m) hr hi hc e
  rw[←ziP D.good.1 e] at p;exact wpAny_bind (wpAny_rule (wpAny_bind (wpAny_updateDict (s:={ s with toks:=s.toks+m }) D.ho D.data (wpAny_point (h _ p.1 p.2)))))
theorem znH {n:Nat}{a b c:V}{x y w:Value}{H':H}{Q:Unit→Shared→Prop}{E:Value→Shared→Prop}(as:AS n stack A) (hr:HR am stack π Hc s.heap) (ha:VR am π s.heap a x) (hb:VR am π s.heap b y) (hc:VR am π s.heap c w) (he:dcell Hc a=true) (hs:seti Hc a b c=some H')
  (h:∀ s',Step (Fs stack) π s π s'→HR am stack π H' s'.heap→Q () s'):wpAny am.M A (setItem x y w) Q E s:=by
 obtain⟨i,d,es,rfl,rfl,hi,hH⟩:=zec ha he;obtain⟨o,arr,ep,xs,D⟩:=(hr.cell i _ d hH hi).dict;have hu:A.in1.units < cLine:=as.uk (k:=1) (by decide)
 simp only[seti,hH] at hs
 cases hk:keyOk b with
 |false=>rw[hk] at hs;cases hs
 |true =>
  rw[hk,Bool.true_and] at hs
  by_cases hle:es.length≤1000
  ·rw[if_pos (decide_eq_true hle)] at hs
   cases hs
   unfold setItem
   try with_reducible refine wpAny_holding ?_
   refine wpAny_bind (wpAny_sequenceKey D.typeIs (by decide) ?_)
   refine wpAny_bind (wpAny_callSpecial?_slot (name:=Str.ofString "__setitem__") D.typeIs slot_dict_setitem
    (wpAny_call_entry slot_dict_setitem D.typeIs entry_dict_setitem ?_ (args_dict_setitem _ _ _)))
   show wpAny _ _ (Builtin.Dict.notOrdered "__setitem__" ⟨[.ref d,y,w],[]⟩ >>= _) _ _ s;refine wpAny_bind (wpAny_notOrdered_dict D.typeIs ?_);show wpAny _ _ (dictSet d y w >>= _) _ _ s;exact wpAny_bind (zfk hu hr hi D hk hb hc hle fun s' h1 h2=>wpAny_pure ⟨.none,rfl,wpAny_pure (h s' h1 h2)⟩)
  ·rw[if_neg fun q=>hle (of_decide_eq_true q)] at hs;cases hs
end
theorem zkp {n:Nat}{a b c:V}{x y z:Value}(as:AS n stack A) (hr:HR am stack π Hc s.heap) (ha:VR am π s.heap a x) (hb:VR am π s.heap b y) (hz:VR am π s.heap c z) (hd:dcell Hc a=true) :
  JAt am stack A (PySem.call (.builtin "dict.setdefault") [x,y,z]) (setDef Hc a b c) (VR am) π s:=by
 obtain⟨i,d,es,rfl,rfl,hi,hc⟩:=zec ha hd;unfold setDef onDict;simp only[hc]
 cases hk:keyOk b with
 |false=>exact .inl rfl
 |true =>
  rw[if_pos rfl];obtain⟨o,arr,ep,xs,D⟩:=(hr.cell i _ d hc hi).dict;have hu:A.in1.units < cLine:=as.uk (k:=1) (by decide)
  obtain⟨m,hh⟩:=zhW (A:=A.in1) hk hb hu;have go:∀ {Q:Value→Shared→Prop}{E:Value→Shared→Prop},(∀ v u,dfind b es=some v→VR am π s.heap v u→Q u { s with toks:=s.toks+m })→(dfind b es=none→Q z { s with heap:=s.heap.update d (Obj.mapDictKeys (·.push ⟨hashV b,y,z⟩)),toks:=s.toks+m })→wpAny am.M A (PySem.call (.builtin "dict.setdefault") [.ref d,y,z]) Q E s:=by
   intro Q E h1 h2;refine wpAny_call_entry PySem.F.slot_dict_setdefault D.typeIs PySem.F.entry_dict_setdefault ?_ (PySem.F.args_dict_setdefault_3 _ _ _);unfold Builtin.«dict.setdefault»
   refine wpAny_bind ?_;unfold Builtin.Dict.keyAndDefault;refine wpAny_bind (wpAny_notOrdered_dict D.typeIs ?_);show wpAny _ _ (pure (d,y,some z)) _ _ s;refine wpAny_pure ?_;show wpAny _ _ (if(d == sysModules)=true then _ else(dictSetDefault d y z >>= _)) _ _ s;rw[if_neg (by rw[D.ne];exact Bool.false_ne_true)]
   refine wpAny_bind ?_;unfold dictSetDefault
   try with_reducible refine wpAny_holding ?_
   refine wpAny_bind (hh (wpAny_bind (zhX (s:={ s with toks:=s.toks+m }) D hk hb hu (fun e=>?_) fun j v e=>?_)))
   ·exact wpAny_bind (wpAny_rule (wpAny_bind (wpAny_updateDictKeys (hz:=D.line) (s:={ s with toks:=s.toks+m }) D.ho D.data (wpAny_pure (wpAny_pure ⟨_,rfl,h2 e⟩)))))
   ·obtain⟨x',u,e1,_,hu'⟩:=D.at e
    refine wpAny_bind (wpAny_dictEntries (s:={ s with toks:=s.toks+m }) D.ho D.data ?_)
    rw[e1];exact wpAny_bind (wpAny_rule (wpAny_pure (wpAny_pure ⟨_,rfl,h1 v u (zgx D.good.1 e) hu'⟩)))
  cases hf:dfind b es with
  |none =>
   by_cases hle:es.length≤1000
   ·simp only[if_pos hle]
    refine .inr (go (fun v u e=>by rw[hf] at e;cases e) fun e=>?_)
    have p:=D.push (tk:=s.toks+m) hr hi hb hz hk e hle;exact⟨c,_,π,rfl,p.1,p.2,hz.step p.1⟩
   ·simp only[if_neg hle];exact .inl rfl
  |some v=>exact .inr (go (fun v' u e hv=>by rw[hf] at e;cases e;exact OkP.tok hr hv) fun e=>by rw[hf] at e;cases e)
end
section
variable {am:Amb}{n:Nat}{q:Bool}{F:Fn}{c:Ck}
theorem zjq {p:Pos}:EJ am n q F c (.newDict []) (.Dict [] [] p):=fun {cx ρ A res π Hc s} B st=>by
 show JAt _ _ _ _ (R.ok (V.ref Hc.length) (Hc++[Cell.dict []])) _ _ _;refine .inr (wpAny_Dict_empty ?_);have k:∀ b o',s.heap.get? b=some o'→(s.heap.push { cls:=.type "dict",data:=.dict #[] }).get? b=some o':=fun z_ z_ e=>Heap.get?_push_of_some _ e;have lt:mainGlobals < s.heap.objs.size:=(HR.gns B.ok st.hr).lt;refine HR.grow (tk:=s.toks) st.hr (zan _) k ⟨_,[],Heap.get?_push_size _ rfl,⟨?_,_,_,rfl,rfl,rfl,rfl,⟨.nil,fun z_ h=>nomatch h⟩,rfl⟩,by decide,rfl⟩
 exact Nat.ne_of_gt (Nat.lt_of_le_of_lt (by decide) lt)
theorem zdT {h:H}{x y:V}{f:Nat→List (V × V)→R V}(hc:dcell h x=false):onDict h x y f=.bad:=by
 cases x with
 |ref i =>
  simp only[dcell] at hc;unfold onDict
  cases hq:h[i]? with
  |none=>simp only[hq]
  |some cc=>cases cc with
   |list vs=>simp only[hq]
   |dict es=>rw[hq] at hc;cases hc
 |_=>rfl
set_option tactic.hygienic true in
theorem ziN {e o k d:PE}{v y z:Expr}{name:Str}{id:String}{p p':Pos}{g:H→V→V→V→R V}(hb:okBase v=true) (hl:(p.endLine == p'.line)=true) (hy:isStar y=false) (hz:isStar z=false) (slot:Slot "dict" name id) (hty:typeOf (.builtin id)=pure (.type "method_descriptor"))
  (ho:EJ am n q F c o v) (hk:EJ am n q F c k y) (hd:EJ am n q F c d z) (he:∀ ρ Hc,evE q F ρ e Hc=(evE q F ρ o Hc).bind fun x h=>if dcell h x then(evE q F ρ k h).bind fun y h=>(evE q F ρ d h).bind fun z h=>g h x y z else .bad)
  (hg:∀ h x y z,dcell h x=false→g h x y z=.bad)
  (op:∀ {res:List Addr}{stack:List Env}{A:Around}{π:List Addr}{s:Shared}{Hc:H}{a b c:V}{x y z:Value},AS n stack A→HR (am.at res) stack π Hc s.heap→VR (am.at res) π s.heap a x→VR (am.at res) π s.heap b y→VR (am.at res) π s.heap c z→dcell Hc a=true→JAt (am.at res) stack A (PySem.call (.builtin id) [x,y,z]) (g Hc a b c) (VR (am.at res)) π s) :
  EJ am n q F c e (.Call (.Attribute v name p) [y,z] [] p'):=fun {cx ρ A res π Hc s} B st=>by
 rw[he];have hst:∀ u∈[y,z],isStar u=false:=by
  intro u hu
  rcases List.mem_cons.1 hu with rfl|hu
  ·exact hy
  ·rw[List.mem_singleton.1 hu];exact hz
 refine JT.at (T:=fun Q E s=>wpAny am.M A (eval v cx.env) (fun ov s₁=>(s₁.TypeIs ov "dict"∧(∀ a,ov=.ref a→∃ ob,s₁.heap.get? a=some ob∧ob.dict=none))∧wpAny am.M A (eval y cx.env) (fun w s₂=>wpAny am.M A (eval z cx.env) (fun u s₃=>wpAny am.M A (PySem.call (.builtin id) [ov,w,u]) Q E s₃) E s₂) E s₁) E s)
  (JT.bind (fun z_=>PT.and (PT.seq _ _ fun z_=>PT.seq _ _ fun z_=>PT.wp _ _)) (ho B st) fun x u H1 π1 s1 z_ hs1 hr1 hv1=>?_) fun Q E h=>?_
 ·split
  ·rename_i hc
   obtain⟨i,l,es,rfl,rfl,hi,hH⟩:=zec hv1 hc;obtain⟨o,arr,ep,xs,D⟩:=(hr1.cell i _ l hH hi).dict;have J:JT (am.at res) cx.stack (fun Q E s=>wpAny am.M A (eval y cx.env) (fun w s₂=>wpAny am.M A (eval z cx.env) (fun u s₃=>wpAny am.M A (PySem.call (.builtin id) [.ref l,w,u]) Q E s₃) E s₂) E s) ((evE q F ρ k H1).bind fun y h=>(evE q F ρ d h).bind fun z h=>g h (.ref i) y z) (VR (am.at res)) π1 s1 :=
    JT.bind (fun z_=>PT.seq _ _ fun z_=>PT.wp _ _) (hk B (st.step hs1 hr1)) fun w u H2 π2 s2 z_ hs2 hr2 hv2 =>
     JT.bind (fun z_=>PT.wp _ _) (hd B ((st.step hs1 hr1).step hs2 hr2)) fun w' u' H3 π3 s3 z_ hs3 hr3 hv3=>by
      cases hc3:dcell H3 (.ref i) with
      |true=>exact JAt.pt (op B.as hr3 ((hv1.step hs2).step hs3) (hv2.step hs3) hv3 hc3)
      |false=>exact .inl (hg _ _ _ _ hc3)
   exact J.rule fun Q E h=>⟨⟨D.typeIs,fun a e=>by cases e;exact⟨_,D.ho,D.dict⟩⟩,h⟩
  ·exact .inl rfl
 ·refine wpAny_Call_method (T:="dict") (id:=id) (zib hb) (by rw[zac _ hst];rfl) hl PySem.F.plainAttrs_dict slot hty (wpAny_mono h (fun ov s₁ h₁=>⟨h₁.1.1,h₁.1.2,?_⟩) fun z_ z_ x=>x)
  rw[zac _ hst];exact Calls.callWith_builtin rfl (Calls.evalArgs_plain (spl2 h₁.2))
theorem zk9 {o k d:PE}{v y z:Expr}{p p':Pos}(hb:okBase v=true) (hl:(p.endLine == p'.line)=true) (hy:isStar y=false) (hz:isStar z=false) (ho:EJ am n q F c o v) (hk:EJ am n q F c k y) (hd:EJ am n q F c d z) :
  EJ am n q F c (.setdef o k d) (.Call (.Attribute v "setdefault" p) [y,z] [] p') :=
 ziN (g:=setDef) hb hl hy hz PySem.F.slot_dict_setdefault PySem.F.type_dict_setdefault ho hk hd (fun z_ z_=>rfl) (fun z_ z_ z_ z_ h=>zdT h) fun as hr h1 h2 h3 hc=>zkp as hr h1 h2 h3 hc
end
section
variable {am:Amb}{stack:List Env}{A:Around}{π:List Addr}{s:Shared}{Hc:H}
theorem zpQ {n:Nat}{a b c:V}{x y z:Value}(as:AS n stack A) (hr:HR am stack π Hc s.heap) (ha:VR am π s.heap a x) (hb:VR am π s.heap b y) (hz:VR am π s.heap c z) (hd:dcell Hc a=true) :
  JAt am stack A (PySem.call (.builtin "dict.get") [x,y,z]) (getDef Hc a b c) (VR am) π s:=by
 obtain⟨i,d,es,rfl,rfl,hi,hc⟩:=zec ha hd;unfold getDef onDict;simp only[hc]
 cases hk:keyOk b with
 |false=>exact .inl rfl
 |true =>
  rw[if_pos rfl];obtain⟨o,arr,ep,xs,D⟩:=(hr.cell i _ d hc hi).dict;have hu:A.in1.units < cLine:=as.uk (k:=1) (by decide)
  refine .inr (wpAny_call_entry PySem.F.slot_dict_get D.typeIs PySem.F.entry_dict_get ?_ (PySem.F.args_dict_get_3 _ _ _));show wpAny _ _ (dictGet d y >>= _) _ _ s;refine wpAny_bind (D.get hk hb hu (fun m e=>?_) fun m v w e hv=>?_)
  ·rw[e]
   show wpAny _ _ (Builtin.Dict.missed d y >>= _) _ _ _;exact wpAny_bind (wpAny_missed_other D.ne (wpAny_pure ⟨z,rfl,OkP.tok hr hz⟩))
  ·rw[e]
   exact wpAny_pure ⟨w,rfl,OkP.tok hr hv⟩
end
section
variable {am:Amb}{n:Nat}{q:Bool}{F:Fn}{c:Ck}
theorem zqs {o k d:PE}{v y z:Expr}{p p':Pos}(hb:okBase v=true) (hl:(p.endLine == p'.line)=true) (hy:isStar y=false) (hz:isStar z=false) (ho:EJ am n q F c o v) (hk:EJ am n q F c k y) (hd:EJ am n q F c d z) :
  EJ am n q F c (.get o k d) (.Call (.Attribute v "get" p) [y,z] [] p') :=
 ziN (g:=getDef) hb hl hy hz PySem.F.slot_dict_get PySem.F.type_dict_get ho hk hd (fun z_ z_=>rfl) (fun z_ z_ z_ z_ h=>zdT h) fun as hr h1 h2 h3 hc=>zpQ as hr h1 h2 h3 hc
theorem PT.wpd {α γ:Type}{A:Around}(M:Model) (m:Sem α) (f:α→γ):PT.Mono (fun(Q:γ→Shared→Prop) E s=>wpAny M A m (fun a s₁=>Q (f a) s₁) E s):=fun z_ z_ z_ z_ z_ h1 h2 h=>wpAny_mono h (fun z_ z_ x=>h1 _ _ x) h2
theorem zmL {a b:PE}{ky vy:Expr}{p:Pos}(hk:EJ am n q F c a ky) (hv:EJ am n q F c b vy):EJ am n q F c (.dict1 a b) (.Dict [some ky] [vy] p):=fun {cx ρ A res π Hc s} B st=>by
 rw[zaB];have k:∀ b o',s.heap.get? b=some o'→(s.heap.push { cls:=.type "dict",data:=.dict #[] }).get? b=some o':=fun z_ z_ e=>Heap.get?_push_of_some _ e;have lt:mainGlobals < s.heap.objs.size:=(HR.gns B.ok st.hr).lt;obtain⟨v0,H0,π0,e0,hs0,hr0,hv0⟩:=HR.grow (tk:=s.toks) (c:=.dict []) st.hr (zan _) k ⟨_,[],Heap.get?_push_size _ rfl,⟨Nat.ne_of_gt (Nat.lt_of_le_of_lt (by decide) lt),_,_,rfl,rfl,rfl,rfl,⟨.nil,fun z_ h=>nomatch h⟩,rfl⟩,by decide,rfl⟩
 cases e0
 have hu:A.units < cLine:=B.as.uk (k:=0) (by decide)
 have J:JT (am.at res) cx.stack (fun Q E s1=>wpAny am.M A (eval ky cx.env) (fun kv s₁=>wpAny am.M A (eval vy cx.env) (fun vv s₂=>wpAny am.M A (dictSet s.heap.objs.size kv vv) (fun z_ s₃=>Q (.ref s.heap.objs.size) s₃) E s₂) E s₁) E s1)
   ((evE q F ρ a (Hc++[.dict []])).bind fun k h'=>(evE q F ρ b h').bind fun v h'=>match setiD h' Hc.length k v with|some h'=>R.ok (V.ref Hc.length) h'|Option.none=>.bad) (VR (am.at res)) π0 { s with heap:=s.heap.push { cls:=.type "dict",data:=.dict #[] } } :=
  JT.bind (fun z_=>PT.seq _ _ fun z_=>PT.wpd _ _ _) (hk B (st.step hs0 hr0)) fun kv kb H1 π1 s1 z_ hs1 hr1 hv1 =>
   JT.bind (fun z_=>PT.wpd _ _ _) (hv B ((st.step hs0 hr0).step hs1 hr1)) fun vv vb H2 π2 s2 z_ hs2 hr2 hv2=>by
    have hd:=(hv0.step hs1).step hs2;have hd':=hd;simp only[VR] at hd';obtain⟨_,e,hi⟩:=hd'
    cases e
    cases hq:H2[Hc.length]? with
    |none=>refine .inl ?_;simp only[setiD,hq]
    |some cc =>
     cases cc with
     |list vs=>refine .inl ?_;simp only[setiD,hq]
     |dict es =>
      simp only[setiD,hq];obtain⟨o,arr,ep,xs,D⟩:=(hr2.cell _ _ _ hq hi).dict
      cases hk':keyOk kb with
      |false=>exact .inl rfl
      |true =>
       by_cases hle:es.length≤1000
       ·rw[Bool.true_and,if_pos (decide_eq_true hle)]
        exact .inr (zfk (am:=am.at res) hu hr2 hi D hk' (hv1.step hs2) hv2 hle fun s' h1 h2=>⟨_,_,π2,rfl,h1,h2,hd.step h1⟩)
       ·rw[Bool.true_and,if_neg fun q=>hle (of_decide_eq_true q)];exact .inl rfl
 rcases J with j|j
 ·exact .inl j
 ·refine .inr (wpAny_Dict_any rfl rfl (by simp) (by simp) (pairTrees_cons_walk (wpAny_mono j (fun kv s₁ j=>wpAny_mono j (fun vv s₂ j=>pairTrees_nil_walk ?_) fun z_ z_ e=>e.step hs0) fun z_ z_ e=>e.step hs0)))
  unfold storeAll;rw[List.forIn_cons];refine wpAny_bind (wpAny_bind (wpAny_mono j (fun z_ s₃ q=>wpAny_pure ?_) fun z_ z_ e=>e.step hs0));dsimp only;rw[List.forIn_nil];exact wpAny_pure (q.step hs0)
end
noncomputable def ItR (am:Amb) (stack:List Env) (A:Around) (h₀:Heap) (π:List Addr) (h:Heap) (b:List V × Watch) (x:Value):Prop :=
 ∃ I,x=.ref I∧h₀.get? I=none∧am.B.get? I=none∧(∃ Sx,Iter am stack A I b.2 b.1 Sx∧Sx 0 π h) ∧
  ∀ R h',(∀ a∈R,a∈am.res∨h.get? a=none)→(∀ b o,h.get? b=some o→h'.get? b=some o)→∃ Sx,Iter (am.at R) stack A I b.2 b.1 Sx∧Sx 0 π h'
section
variable {am:Amb}{stack:List Env}{A:Around}{π:List Addr}{s:Shared}{Hc:H}
theorem zbS (hr:HR am stack π Hc s.heap){a:Addr}(h:s.heap.get? a=none):am.B.get? a=none:=zas hr.base h
theorem zfu {h:Heap}{a b:Addr}{o:Obj}(h1:h.get? a=none) (h2:h.get? b=some o):b≠a:=fun q=>by subst q;rw[h1] at h2;cases h2
theorem zgV {am:Amb}{R:List Addr}{h:Heap}{a:Addr}{o:Obj}(hR:∀ a∈R,a∈am.res∨h.get? a=none) (ho:h.get? a=some o) (ha:a ∉ am.res):a ∉ R:=fun q=>by
 rcases hR a q with z|z
 ·exact ha z
 ·rw[ho] at z;cases z
theorem zpk {am:Amb}{R π:List Addr}{h:Heap}(hR:∀ a∈R,a∈am.res∨h.get? a=none):Via am (am.at R) π π h h:=⟨fun a o ho z_ h1 h2=>⟨⟨o.slots,ho⟩,h1,zgV hR ho h2⟩,fun z_ z_ e=>e⟩
theorem zop {a:V}{x:Value}(hh:A.handled=none) (hr:HR am stack π Hc s.heap) (ha:VR am π s.heap a x) :
  JAt am stack A (pyIter x) (R.opt (iterOf Hc a) Hc) (ItR am stack A s.heap) π s:=by
 have hI:=zan s.heap
 cases a with
 |lst vs =>
  simp only[VR] at ha;refine hold fun z_ k_=>?_;obtain⟨l,xs,rfl,hl,h1,hz,hv⟩:=ha;refine k_ ?_;refine .inr (wpAny_pyIter_list h1 ?_);have k:∀ b o,s.heap.get? b=some o→(s.heap.push { cls:=.type "list_iterator",data:=.fields #[.ref l,.int 0 0] }).get? b=some o:=fun b o q=>Heap.get?_push_of_some _ q;have hp:(s.heap.push { cls:=.type "list_iterator",data:=.fields #[.ref l,.int 0 0] }).get? s.heap.objs.size=some _:=Heap.get?_push_size _ rfl
  obtain⟨o,ho,r⟩:=id h1;refine OkP.keeps (tk:=s.toks) hr k ⟨_,rfl,hI,zbS hr hI,⟨_,Iter.lst hh (l:=l),⟨zat hr hI,za4 hr hI,⟨_,hp,rfl,rfl⟩,⟨hl.1,zao hr hI,hl.2⟩,xs,h1.push _,hv.keeps k⟩⟩,fun R h' hR kk =>
   ⟨_,Iter.lst hh (l:=l),⟨zat hr hI,za4 hr hI,⟨_,kk _ _ hp,rfl,rfl⟩,⟨hl.1,zgV hR hp (zao hr hI),zgV hR (k _ _ ho) hl.2⟩,xs,⟨o,kk _ _ (k _ _ ho),r⟩,((hv.keeps k).via (zpk hR)).keeps kk⟩⟩⟩
 |tup vs =>
  simp only[VR] at ha;refine hold fun z_ k_=>?_;obtain⟨l,xs,rfl,hl,h1,hz,hv⟩:=ha;refine k_ ?_;refine .inr (wpAny_pyIter_tuple h1 ?_);have k:∀ b o,s.heap.get? b=some o→(s.heap.push { cls:=.type "tuple_iterator",data:=.fields #[.ref l,.int 0 0] }).get? b=some o:=fun b o q=>Heap.get?_push_of_some _ q;have hp:(s.heap.push { cls:=.type "tuple_iterator",data:=.fields #[.ref l,.int 0 0] }).get? s.heap.objs.size=some _:=Heap.get?_push_size _ rfl
  obtain⟨o,ho,r⟩:=h1;refine OkP.keeps (tk:=s.toks) hr k ⟨_,rfl,hI,zbS hr hI,⟨_,Iter.tup hh (l:=l),⟨zat hr hI,za4 hr hI,⟨_,hp,rfl,rfl⟩,⟨hl.1,zao hr hI,hl.2⟩,xs,⟨o,k _ _ ho,r⟩,hv.keeps k⟩⟩,fun R h' hR kk =>
   ⟨_,Iter.tup hh (l:=l),⟨zat hr hI,za4 hr hI,⟨_,kk _ _ hp,rfl,rfl⟩,⟨hl.1,zgV hR hp (zao hr hI),zgV hR (k _ _ ho) hl.2⟩,xs,⟨o,kk _ _ (k _ _ ho),r⟩,((hv.keeps k).via (zpk hR)).keeps kk⟩⟩⟩
 |ref i =>
  simp only[VR] at ha;obtain⟨l,rfl,hi⟩:=ha;simp only[iterOf]
  cases hH:Hc[i]? with
  |none=>exact .inl rfl
  |some cc =>
   have hc:=hr.cell i cc l hH hi
   cases cc with
   |dict es =>
    obtain⟨o,arr,ep,xs,D⟩:=hc.dict;refine .inr (D.raw.iter D.ho ?_);rw[D.size];have k:∀ b o,s.heap.get? b=some o→(s.heap.push { cls:=.type "dict_keyiterator",data:=.fields #[.ref l,.int 0 0,.int es.length 0,.int es.length 0] }).get? b=some o:=fun b o q=>Heap.get?_push_of_some _ q;have hp:(s.heap.push { cls:=.type "dict_keyiterator",data:=.fields #[.ref l,.int 0 0,.int es.length 0,.int es.length 0] }).get? s.heap.objs.size=some _:=Heap.get?_push_size _ rfl
    refine OkP.keeps (tk:=s.toks) hr k ⟨_,rfl,hI,zbS hr hI,⟨_,Iter.dict hh,⟨zat hr hI,⟨za4 hr hI,zao hr hI⟩,l,hi,⟨_,hp,rfl,rfl⟩⟩⟩,fun R h' hR kk =>
     ⟨_,Iter.dict hh,⟨zat hr hI,⟨za4 hr hI,zgV hR hp (zao hr hI)⟩,l,hi,⟨_,kk _ _ hp,rfl,rfl⟩⟩⟩⟩
   |list vs =>
    refine hold fun z_ k_=>?_;obtain⟨xs,h1,hz,hv⟩:=hc.list;refine k_ ?_;refine .inr (wpAny_pyIter_list h1.is ?_);have k:∀ b o,s.heap.get? b=some o→(s.heap.push { cls:=.type "list_iterator",data:=.fields #[.ref l,.int 0 0] }).get? b=some o:=fun b o q=>Heap.get?_push_of_some _ q;have hp:(s.heap.push { cls:=.type "list_iterator",data:=.fields #[.ref l,.int 0 0] }).get? s.heap.objs.size=some _:=Heap.get?_push_size _ rfl
    refine OkP.keeps (tk:=s.toks) hr k ⟨_,rfl,hI,zbS hr hI,⟨_,Iter.cell hh,⟨zat hr hI,⟨za4 hr hI,zao hr hI⟩,l,hi,⟨_,hp,rfl,rfl⟩⟩⟩,fun R h' hR kk =>
     ⟨_,Iter.cell hh,⟨zat hr hI,⟨za4 hr hI,zgV hR hp (zao hr hI)⟩,l,hi,⟨_,kk _ _ hp,rfl,rfl⟩⟩⟩⟩
 |_=>exact .inl rfl
theorem znK (n:Int):upto n=(List.range n.toNat).map fun(i:Nat)=>V.int (0+(i:Int) * 1):=by
 unfold upto;congr 1;funext i;rw[Int.mul_one,Int.zero_add]
theorem range_at {a c:Int}{k:Nat}(hh:A.handled=none) (hr:HR am stack π Hc s.heap){o:Obj}(ho:o={ cls:=.type "range_iterator",data:=.fields #[rawInt a,rawInt (k:Int),rawInt c] }){tk:Nat} :
  OkP am stack (ItR am stack A s.heap) π s (.ok ((List.range k).map (fun(i:Nat)=>V.int (a+(i:Int) * c)),none) Hc) (.ref s.heap.objs.size) { s with heap:=s.heap.push o,toks:=tk }:=by
 have hI:=zan s.heap;subst ho;have e1:(a+((0:Nat):Int) * c)=a:=by simp
 have e2:((k:Int) - ((0:Nat):Int))=(k:Int):=by simp
 have hp:(s.heap.push { cls:=.type "range_iterator",data:=.fields #[rawInt a,rawInt (k:Int),rawInt c] }).get? s.heap.objs.size=some { cls:=.type "range_iterator",data:=.fields #[rawInt (a+((0:Nat):Int) * c),rawInt ((k:Int) - ((0:Nat):Int)),rawInt c] }:=by
  rw[e1,e2];exact Heap.get?_push_size _ rfl
 exact OkP.keeps hr (fun b o q=>Heap.get?_push_of_some _ q) ⟨_,rfl,hI,zbS hr hI,⟨_,Iter.range hh a c k,⟨zat hr hI,⟨za4 hr hI,zao hr hI⟩,hp⟩⟩,fun R h' hR kk =>
  ⟨_,Iter.range hh a c k,⟨zat hr hI,⟨za4 hr hI,zgV hR hp (zao hr hI)⟩,kk _ _ hp⟩⟩⟩
theorem ItR.less {h₀ h₁:Heap}(k:∀ b o,h₀.get? b=some o→∃ o',h₁.get? b=some o'){h:Heap}{b:List V × Watch}{x:Value}(e:ItR am stack A h₁ π h b x):ItR am stack A h₀ π h b x:=by
 refine hold fun z_ k_=>?_;obtain⟨I,h1,h2,r⟩:=e;refine k_ ?_;refine⟨I,h1,?_,r⟩
 cases hq:h₀.get? I with
 |none=>rfl
 |some o=>obtain⟨o',h6⟩:=k I o hq;rw[h2] at h6;cases h6
theorem OkP.itLess {h₀ h₁:Heap}(k:∀ b o,h₀.get? b=some o→∃ o',h₁.get? b=some o'){r:R (List V × Watch)}{x:Value}{s':Shared}(e:OkP am stack (ItR am stack A h₁) π s r x s'):OkP am stack (ItR am stack A h₀) π s r x s':=by
 refine hold fun z_ k_=>?_;obtain⟨b,H',π',h1,h2,h3,h4⟩:=e;refine k_ ?_;exact⟨b,H',π',h1,h2,h3,h4.less k⟩
theorem zjF {k:Int}{t:Tok}(hh:A.handled=none) (hr:HR am stack π Hc s.heap) (hk:-1000000≤k∧k≤1000000){E:Value→Shared→Prop} :
  wpAny am.M A (PySem.call (.type "range") [.int k t]) (fun x s₁=>wpAny am.M A (pyIter x) (OkP am stack (ItR am stack A s.heap) π s (.ok (upto k,none) Hc)) E s₁) E s:=by
 refine call_range_1 ?_;refine wpAny_pyIter_range (IsRange.new ..) (small_one (by decide) (by decide) (Int.le_trans (by decide) hk.1) (Int.lt_of_le_of_lt hk.2 (by decide))) ?_
 have hsz:Builtin.Range.rangeSize 0 k 1=(k.toNat:Int):=by rw[rangeSize_nat,Int.sub_zero]
 rw[znK];have k1:∀ b o,s.heap.get? b=some o→(s.heap.push { cls:=.type "range",data:=.fields #[.int 0 s.toks,.int k t,.int 1 (s.toks+1)] }).get? b=some o:=fun b o q=>Heap.get?_push_of_some _ q;refine OkP.step (Step.keeps (tk:=s.toks+1+1) k1) (OkP.itLess (fun b o q=>⟨o,k1 b o q⟩) (range_at (s:={ s with heap:=s.heap.push { cls:=.type "range",data:=.fields #[.int 0 s.toks,.int k t,.int 1 (s.toks+1)] },toks:=s.toks+1+1 }) (tk:=s.toks+1+1) hh (hr.keeps k1) ?_))
 rw[hsz]
end
section
variable {am:Amb}{n:Nat}{F:Fn}{c:Ck}
noncomputable def ItJ (am:Amb) (n:Nat) (F:Fn) (c:Ck) (it:PIt) (x:Expr):Prop:=∀ {cx:Cx}{ρ:List V}{A:Around}{res π:List Addr}{Hc:H}{s:Shared},Base am n true F c cx ρ A→St (am.at res) true cx ρ π Hc A s →
 JT (am.at res) cx.stack (fun Q E s=>wpAny am.M A (eval x cx.env) (fun xv s₁=>wpAny am.M A (pyIter xv) Q E s₁) E s) (evIt true F ρ it Hc) (ItR (am.at res) cx.stack A s.heap) π s
theorem zp9 {e:PE}{x:Expr}(h:EJ am n true F c e x):ItJ am n F c (.seq e) x:=fun {cx ρ A res π Hc s} B st=>by
 simp only[zof,zqY,zqX,zqM,zqW];exact JT.bind (fun z_=>PT.wp _ _) (h B st) fun y v H1 π1 s1 z_ hs1 hr1 hv1=>JAt.pt ((zop (Hd.quiet st.hd) hr1 hv1).mono fun z_ z_ z_ z_ e=>e.less hs1.ext.alive)
set_option tactic.hygienic true in
theorem zkQ {e:PE}{y:Expr}{p p':Pos}(hx:c.glob "range"=true) (hy:isStar y=false) (h:EJ am n true F c e y):ItJ am n F c (.range1 e) (.Call (.Name "range" p) [y] [] p'):=fun {cx ρ A res π Hc s} B st=>by
 simp only[zof,zqY,zqX,zqM,zqW];refine JT.rule (T:=fun Q E s=>wpAny am.M A (eval y cx.env) (fun v s₁=>wpAny am.M A (PySem.call (.type "range") [v]) (fun xv s₂=>wpAny am.M A (pyIter xv) Q E s₂) E s₁) E s)
  (JT.bind (fun z_=>PT.seq _ _ fun z_=>PT.wp _ _) (h B st) fun z v H1 π1 s1 z_ hs1 hr1 hv1=>?_) fun Q E h=>zbv B st.hr hx (zdW (by kernel_rfl)) (by simpa using hy) (spl1 h)
 cases v with
 |int k =>
  simp only[VR] at hv1;obtain⟨t,rfl⟩:=hv1;dsimp only
  split
  ·rename_i hk;exact .inr (wpAny_mono (zjF (Hd.quiet st.hd) hr1 hk) (fun z_ z_ h=>wpAny_mono h (fun z_ z_ h=>h.itLess hs1.ext.alive) fun z_ z_ h=>h) fun z_ z_ h=>h)
  ·exact .inl rfl
 |_=>exact .inl rfl
end
section
variable {am:Amb}{stack:List Env}{A:Around}{π:List Addr}{Hc:H}{s:Shared}
theorem zle (a b:Int):downTo a b=(List.range (a - b).toNat).map fun(i:Nat)=>V.int (a+(i:Int) * (-1)):=by
 unfold downTo;congr 1;funext i;rw[Int.mul_neg,Int.mul_one];rfl
theorem zjE {j k:Int}{t u v:Tok}(hh:A.handled=none) (hr:HR am stack π Hc s.heap) (hk:-1000000≤j∧j≤1000000∧-1000000≤k∧k≤1000000){E:Value→Shared→Prop} :
  wpAny am.M A (PySem.call (.type "range") [.int j t,.int k u,.int (-1) v]) (fun x s₁=>wpAny am.M A (pyIter x) (OkP am stack (ItR am stack A s.heap) π s (.ok (downTo j k,none) Hc)) E s₁) E s:=by
 refine call_range_3 (by decide) ?_ (.inl (PyProof.noPylong_small (by decide)))
 refine wpAny_pyIter_range (IsRange.new ..) (small_down (Int.le_trans (by decide) hk.1) (Int.lt_of_le_of_lt hk.2.1 (by decide)) (Int.le_trans (by decide) hk.2.2.1) (Int.lt_of_le_of_lt hk.2.2.2 (by decide))) ?_
 rw[zle];have k1:∀ b o,s.heap.get? b=some o→(s.heap.push { cls:=.type "range",data:=.fields #[.int j t,.int k u,.int (-1) v] }).get? b=some o:=fun b o q=>Heap.get?_push_of_some _ q;refine OkP.step (Step.keeps (tk:=s.toks) k1) (OkP.itLess (fun b o q=>⟨o,k1 b o q⟩) (range_at (s:={ s with heap:=s.heap.push { cls:=.type "range",data:=.fields #[.int j t,.int k u,.int (-1) v] } }) (tk:=s.toks) hh (hr.keeps k1) ?_))
 rw[rangeSize_downNat]
end
section
variable {am:Amb}{n:Nat}{F:Fn}{c:Ck}
theorem spl3 {M:Model}{A:Around}{env:Env}{y z w:Expr}{Q:List Value→Shared→Prop}{E:Value→Shared→Prop}{s:Shared}(h:wpAny M A (eval y env) (fun v s₁=>wpAny M A (eval z env) (fun u s₂=>wpAny M A (eval w env) (fun x s₃=>Q [v,u,x] s₃) E s₂) E s₁) E s):wpAny M A (spliced (zav [y,z,w] env)) Q E s :=
 Calls.spliced_cons (wpAny_mono h (fun z_ z_ h=>Calls.spliced_cons (wpAny_mono h (fun z_ z_ h=>Calls.spliced_cons (wpAny_mono h (fun z_ z_ h=>Calls.spliced_nil h) fun z_ z_ x=>x)) fun z_ z_ x=>x)) fun z_ z_ x=>x)
set_option tactic.hygienic true in
theorem zkP {e f g:PE}{y z w:Expr}{p p':Pos}(hx:c.glob "range"=true) (hs:∀ a∈[y,z,w],isStar a=false) (h:EJ am n true F c e y) (h':EJ am n true F c f z) (h'':EJ am n true F c g w):ItJ am n F c (.range3 e f g) (.Call (.Name "range" p) [y,z,w] [] p'):=fun {cx ρ A res π Hc s} B st=>by
 simp only[zof,zqY,zqX,zqM,zqW];refine JT.rule (T:=fun Q E s=>wpAny am.M A (eval y cx.env) (fun v s₁=>wpAny am.M A (eval z cx.env) (fun w' s₁=>wpAny am.M A (eval w cx.env) (fun u s₁=>wpAny am.M A (PySem.call (.type "range") [v,w',u]) (fun xv s₂=>wpAny am.M A (pyIter xv) Q E s₂) E s₁) E s₁) E s₁) E s)
  (JT.bind (fun z_=>PT.seq _ _ fun z_=>PT.seq _ _ fun z_=>PT.seq _ _ fun z_=>PT.wp _ _) (h B st) fun u v H1 π1 s1 z_ hs1 hr1 hv1=>JT.bind (fun z_=>PT.seq _ _ fun z_=>PT.seq _ _ fun z_=>PT.wp _ _) (h' B (st.step hs1 hr1)) fun u2 v2 H2 π2 s2 z_ hs2 hr2 hv2 =>
   JT.bind (fun z_=>PT.seq _ _ fun z_=>PT.wp _ _) (h'' B ((st.step hs1 hr1).step hs2 hr2)) fun u3 v3 H3 π3 s3 z_ hs3 hr3 hv3=>?_)
  fun Q E h=>zbv B st.hr hx (zdW (by kernel_rfl)) hs (spl3 h)
 have hv1':=(hv1.step hs2).step hs3;have hv2':=hv2.step hs3
 cases v with
 |int j=>cases v2 with
  |int k=>cases v3 with
   |int d =>
    simp only[VR] at hv1' hv2' hv3;obtain⟨t,rfl⟩:=hv1';obtain⟨t2,rfl⟩:=hv2';obtain⟨t3,rfl⟩:=hv3;dsimp only
    split
    ·rename_i hk
     unfold rng3
     by_cases hd:d=-1
     ·subst hd
      rw[if_pos rfl];exact .inr (wpAny_mono (zjE (Hd.quiet st.hd) hr3 hk) (fun z_ z_ h=>wpAny_mono h (fun z_ z_ h=>h.itLess ((hs1.trans hs2).trans hs3).ext.alive) fun z_ z_ h=>h) fun z_ z_ h=>h)
     ·rw[if_neg hd];exact .inl rfl
    ·exact .inl rfl
   |_=>exact .inl rfl
  |_=>exact .inl rfl
 |_=>exact .inl rfl
end
theorem zcJ (outer:List (Str × NameKind)):∀ (names:List (Str × NameKind)) (y:Str),(relab outer names).lookup y=(names.lookup y).map fun k=>if(k == .free&&outer.lookup y == some .cell)=true then .cell else k
 |[],y=>rfl
 |(n,k)::r,y=>by
  have ih:=zcJ outer r y;unfold relab at ih ⊢
  rw[List.map_cons];show List.lookup y ((if(k == NameKind.free&&outer.lookup n == some .cell)=true then(n,NameKind.cell) else(n,k))::_)=_
  by_cases hy:y=n
  ·subst hy
   by_cases hc:(k == .free&&outer.lookup y == some .cell)=true
   ·rw[if_pos hc];simp only[List.lookup_cons,beq_self_eq_true,Option.map_some];rw[if_pos hc]
   ·rw[if_neg hc];simp only[List.lookup_cons,beq_self_eq_true,Option.map_some];rw[if_neg hc]
  ·have hb:(y == n)=false:=beq_eq_false_iff_ne.mpr hy
   by_cases hc:(k == .free&&outer.lookup n == some .cell)=true
   ·rw[if_pos hc];simp only[List.lookup_cons,hb];exact ih
   ·rw[if_neg hc];simp only[List.lookup_cons,hb];exact ih
theorem za7 {α β:Type} [BEq α] [LawfulBEq α]:∀ {l:List (α × β)}{x:α}{v:β},l.lookup x=some v→(x,v)∈l
 |[],_,_,h=>by simp at h
 |(a,b)::l,x,v,h=>by
  rw[List.lookup_cons] at h
  cases hx:x == a with
  |true=>rw[hx] at h;cases h;rw[eq_of_beq hx];exact List.mem_cons_self
  |false=>rw[hx] at h;exact List.mem_cons_of_mem _ (za7 h)
theorem zcs {scope:Scope}{env:Env}(hk:env.scope.kind=.function):(relabel scope env).names=relab env.scope.names scope.names:=by
 unfold relabel relab;simp only
 congr 1
 funext p
 obtain⟨n,k⟩:=p;simp only[hk,Env.kindOf,beq_self_eq_true,Bool.and_true]
theorem zdD {env:Env}:∀ (names:List (Str × NameKind)) (acc:List (Str × Addr)),(∀ p∈names,p.2=.free→∃ c,env.cells.lookup p.1=some c)→(∀ y c,acc.lookup y=some c→env.cells.lookup y=some c) →
  ∃ cl,(forIn names acc fun(p:Str × NameKind) (cs:List (Str × Addr))=>(if p.2 == .free then do let c ← cellOf env p.1;pure (ForInStep.yield ((p.1,c)::cs)) else pure (ForInStep.yield cs):Sem (ForInStep (List (Str × Addr)))))=(pure cl:Sem (List (Str × Addr))) ∧
   (∀ y c,cl.lookup y=some c→env.cells.lookup y=some c)∧(∀ p∈names,p.2=.free→∃ c,cl.lookup p.1=some c)∧(∀ y c,acc.lookup y=some c→∃ c',cl.lookup y=some c')
 |[],acc,_,h2=>⟨acc,rfl,h2,by simp,fun y c h=>⟨c,h⟩⟩
 |p::names,acc,h1,h2=>by
  rw[List.forIn_cons]
  by_cases hp:p.2=.free
  ·obtain⟨c,hc⟩:=h1 p List.mem_cons_self hp
   have hcell:cellOf env p.1=pure c:=by unfold cellOf;rw[hc]
   have hb:(p.2 == NameKind.free)=true:=by simp[hp]
   simp only[hb,if_true,hcell,pure_bind];obtain⟨cl,e1,e2,e3,e4⟩:=zdD names ((p.1,c)::acc) (fun q hq=>h1 q (List.mem_cons_of_mem _ hq)) (fun y c' h=>by
    rw[List.lookup_cons] at h
    cases hx:y == p.1 with
    |true=>rw[hx] at h;cases h;rw[eq_of_beq hx];exact hc
    |false=>rw[hx] at h;exact h2 y c' h)
   refine⟨cl,e1,e2,fun q hq hqf=>?_,fun y c' h=>?_⟩
   ·rcases List.mem_cons.mp hq with rfl|hq
    ·exact e4 q.1 c (by simp[List.lookup_cons])
    ·exact e3 q hq hqf
   ·cases hx:y == p.1 with
    |true=>exact e4 y c (by rw[List.lookup_cons,hx])
    |false=>exact e4 y c' (by rw[List.lookup_cons,hx];exact h)
  ·have hb:(p.2 == NameKind.free)=false:=by simpa using hp
   simp only[hb,Bool.false_eq_true,if_false,pure_bind];refine hold fun z_ k_=>?_;obtain⟨cl,e1,e2,e3,e4⟩:=zdD names acc (fun q hq=>h1 q (List.mem_cons_of_mem _ hq)) h2;refine k_ ?_;refine⟨cl,e1,e2,fun q hq hqf=>?_,e4⟩
   rcases List.mem_cons.mp hq with rfl|hq
   ·exact absurd hqf hp
   ·exact e3 q hq hqf
theorem zh7 {scope:Scope}{env:Env}(h:∀ p∈scope.names,p.2=.free→∃ c,env.cells.lookup p.1=some c) :
  ∃ cl,closureFor scope env=pure cl∧(∀ y c,cl.lookup y=some c→env.cells.lookup y=some c)∧∀ p∈scope.names,p.2=.free→∃ c,cl.lookup p.1=some c:=by
 refine hold fun z_ k_=>?_;obtain⟨cl,e1,e2,e3,_⟩:=zdD scope.names [] h (by simp)
 refine k_ ?_;refine⟨cl,?_,e2,e3⟩;exact(congrArg (fun t:Sem (List (Str × Addr))=>t >>= fun cs=>pure cs) e1).trans (pure_bind _ _)
section
variable {am:Amb}{π:List Addr}{h:Heap}
theorem ExcAt.held {c:String}{a l:Addr}(e:ExcAt am h c a):ExcAt (am.hold l) h c a:=e
theorem SR.held {v:V}{x:Value}{l:Addr}(hl:h.get? l=none) (e:SR am π h v x):SR (am.hold l) π h v x:=by
 rcases e with e|⟨c,a,h1,h2,h3,h4⟩
 ·exact .inl (e.held hl)
 ·exact .inr ⟨c,a,h1,h2,h3,h4⟩
theorem ER.held {cx:Cx}{ρ:List V}{l:Addr}(hl:h.get? l=none) (e:ER am cx ρ π h):ER (am.hold l) cx ρ π h :=
 ⟨e.ns,e.locOff,e.cellOff,e.apart,fun x i v h1 h2 h3 h4=>let ⟨v',h5,h6⟩:=e.var x i v h1 h2 h3 h4;⟨v',h5,h6.held hl⟩⟩
theorem HR.freed {stack:List Env}{Hc:H}{h':Heap}{C:Addr}(hr:HR am stack π Hc h) (hC:C∈am.res) (hB:am.B.get? C=none) (hπ:C ∉ π) (p:Poke C h h') (ho:∃ o,h'.get? C=some o∧∀ us,o.data≠.fields us):HR am stack π Hc h':=by
 refine⟨fun b o e=>p b o (fun q=>by subst q;rw[hB] at e;cases e) (hr.base b o e),zbH (fun b o h1 h2=>p b o h1 h2) ho hr.frames,hr.len,hr.nodup,fun a ha=>?_,hr.off,fun i c a h1 h2=>?_⟩
 ·by_cases hq:a=C
  ·subst hq;exact ho
  ·obtain⟨o,h1,h2⟩:=hr.res a ha
   exact⟨o,p a o hq h1,h2⟩
 ·have hne:a≠C:=fun q=>hπ (q ▸ zcW h2)
  obtain⟨o,xs,e0,e1,e2,e3⟩:=hr.cell i c a h1 h2;exact⟨o,xs,p _ _ hne e0,e1,e2,e3.free fun b o hb e=>p b o (fun q=>hb (q ▸ hC)) e⟩
theorem HR.out {stack:List Env}{Hc:H}{h':Heap}{C:Addr}(hr:HR (am.hold C) stack π Hc h) (hC:C ∉ am.res) (hB:am.B.get? C=none) (hπ:C ∉ π) (hF:C ∉ Fs stack) (p:Poke C h h'):HR am stack π Hc h':=by
 have fr:∀ {st:List Env},h.FunFrames am.B st→(∀ a∈Fs st,a≠C)→h'.FunFrames am.B st:=by
  intro st
  induction st with
  |nil=>intro _ _;trivial
  |cons e st ih =>
   rintro⟨h1,⟨L,o,h2,h3,h4,h5⟩,h6⟩ hn
   refine⟨h1,⟨L,o,h2,h3,p L o (hn L ?_) h4,h5⟩,ih h6 fun a ha=>hn a ?_⟩
   ·simp[h2]
   ·simp only[Fs,List.filterMap_cons,h2,List.mem_cons];exact .inr ha
 refine⟨fun b o e=>p b o (fun q=>by subst q;have e':am.B.get? b=some o:=e;rw[hB] at e';cases e') (hr.base b o e),fr hr.frames (fun a ha q=>hF (q ▸ ha)),hr.len,hr.nodup,fun a ha=>?_,hr.off,fun i c a h1 h2=>?_⟩
 ·obtain⟨o,h1,h2⟩:=hr.res a (List.mem_cons_of_mem _ ha)
  exact⟨o,p a o (fun q=>hC (q ▸ ha)) h1,h2⟩
 ·have hne:a≠C:=fun q=>hπ (q ▸ zcW h2)
  obtain⟨o,xs,e0,e1,e2,e3⟩:=hr.cell i c a h1 h2;exact⟨o,xs,p _ _ hne e0,e1,e2,(e3.free fun b o hb e=>p b o (fun q=>hb (q ▸ List.mem_cons_self)) e).reserve.2⟩
theorem PL.at {l:Addr}{xs:List Value}{h':Heap}(pl:PL h l xs) (k:∀ o,h.get? l=some o→h'.get? l=some o):PL h' l xs:=let ⟨o,n,ho,r⟩:=pl;⟨o,n,k o ho,r⟩
theorem Ns.at {l:Addr}{m:Str→Option Value}{h':Heap}(hn:h.Ns l m) (k:∀ o,h.get? l=some o→h'.get? l=some o):h'.Ns l m:=let ⟨o,es,ep,ho,r⟩:=hn;⟨o,es,ep,k o ho,r⟩
theorem Ns.nf {l:Addr}{m:Str→Option Value}(hn:h.Ns l m):∃ o,h.get? l=some o∧∀ us,o.data≠.fields us:=let ⟨o,es,ep,ho,hd,_⟩:=hn;⟨o,ho,fun us q=>by rw[hd] at q;cases q⟩
theorem PL.nf {l:Addr}{xs:List Value}(pl:PL h l xs):∃ o,h.get? l=some o∧∀ us,o.data≠.fields us:=let ⟨o,n,ho,_,_,hd⟩:=pl;⟨o,ho,fun us q=>by rw[hd] at q;cases q⟩
theorem zoR {c:Ck}{cx:Cx}{ρ:List V}{x:Str}{i:Nat}{scope:Scope}{cl:List (Str × Addr)}{C:Addr}{m:Str→Option Value}{v:V}{v':Value}(e:ER am cx ρ π h) (hkf:cx.env.scope.kind=.function) (hnames:cx.env.scope.names=c.names) (hctx:cx.ctx=c.ctx) (hs:zcr c x scope=true)
  (hi:c.ctx.all (fun p=>p.2 != i)=true) (hcl1:∀ y d,cl.lookup y=some d→cx.env.cells.lookup y=some d) (hcl2:∀ p∈scope.names,p.2=.free→∃ d,cl.lookup p.1=some d) (hC:C ∉ π) (hn:h.Ns C m) (hm:m x=some v') (hv:VR am π h v v') :
  ER am ⟨compEnvC scope cl C cx.env,cx.stack,(x,i)::cx.ctx⟩ (ρ.set i v) π h:=by
 unfold zcr at hs;simp only[Bool.and_eq_true,List.all_eq_true,beq_iff_eq,Bool.not_eq_true',Bool.or_eq_true,bne_iff_ne,ne_eq] at hs;refine hold fun z_ k_=>?_;obtain⟨⟨⟨⟨hk,hall⟩,hx⟩,hx0⟩,h0⟩:=hs;refine k_ ?_;refine⟨⟨m,hn⟩,hC,fun y d hd=>?_,fun y z d h1 h2=>e.apart y z d (hcl1 _ _ h1) (hcl1 _ _ h2),fun y j w h1 h2 h3 h4=>?_⟩
 ·refine hold fun z_ k_=>?_
  obtain⟨a1,_,u,a3⟩:=e.cellOff y d (hcl1 y d hd);refine k_ ?_;refine⟨a1,fun q=>?_,u,a3⟩;have hq:d=C:=q;subst hq;refine hold fun z_ k_=>?_;obtain⟨o,es,ep,ho,hd',_⟩:=hn;refine k_ ?_;obtain⟨o2,ho2,hd2⟩:=a3;rw[ho] at ho2;cases ho2;rw[hd'] at hd2;cases hd2
 ·have hkind:∀ y,Env.kindOf (compEnvC scope cl C cx.env) y=(scope.names.lookup y).map fun k=>if(k == .free&&c.names.lookup y == some .cell)=true then .cell else k:=by
   intro y;show(relabel scope cx.env).names.lookup y=_;rw[zcs hkf,zcJ,hnames]
  by_cases hy:y=x
  ·subst hy
   rw[List.lookup_cons] at h1;simp only[beq_self_eq_true,Option.some.injEq] at h1;subst h1;have hlt:i < ρ.length:=by have:=(List.getElem?_eq_some_iff.mp h2).1;simpa using this
   rw[List.getElem?_set_self hlt] at h2
   cases h2
   exact⟨v',.inl ⟨by rw[hkind,hx];rfl,m,hn,hm⟩,.inl hv⟩
  ·have hb:(y == x)=false:=beq_eq_false_iff_ne.mpr hy
   have h1':c.ctx.lookup y=some j:=by rw[List.lookup_cons,hb] at h1;rw[←hctx];exact h1
   have hj:j≠i:=by
    have:=za7 h1';simp only[List.all_eq_true,bne_iff_ne,ne_eq] at hi;exact hi _ this
   rw[List.getElem?_set_ne (Ne.symm hj)] at h2;unfold Vis at h4;simp only[hkind] at h4
   cases hl:scope.names.lookup y with
   |none=>rw[hl] at h4;simp at h4
   |some k =>
    have hmem:=za7 hl;have hp:=hall _ hmem
    by_cases hkl:k=.local
    ·subst hkl
     rcases hp.1.1 with q|q
     ·exact absurd rfl q
     ·rcases q.1 with q|q
      ·exact absurd q hy
      ·simp only at q;rw[q,h0] at h1';cases h1'
    ·by_cases hkf':k=.free
     ·subst hkf'
      obtain⟨d,hd⟩:=hcl2 _ hmem rfl;have hcell:=hcl1 y d hd;have hout:cx.env.kindOf y=some .cell∨cx.env.kindOf y=some .free:=by
       unfold Env.kindOf;rw[hnames]
       rcases hp.1.2 with(q|q)|q
       ·exact absurd rfl q
       ·exact .inl q
       ·exact .inr q
      obtain⟨u,h5,h6⟩:=e.var y j w (by rw[hctx];exact h1') h2 h3 (by unfold Vis;rcases hout with q|q;exact .inr (.inl q);exact .inr (.inr q))
      refine⟨u,.inr ⟨?_,d,hd,?_⟩,h6⟩
      ·rw[hkind,hl];simp only[Option.map_some];split<;>simp
      ·rcases h5 with⟨q,_⟩|⟨_,d',h7,h8⟩
       ·rcases hout with q'|q'<;>rw[q'] at q<;>cases q
       ·rw[hcell] at h7;cases h7;exact h8
     ·rw[hl] at h4
      have hkc:k≠.cell:=hp.2;have hb2:(k == NameKind.free)=false:=by simpa using hkf'
      simp only[Option.map_some,hb2,Bool.false_and,Bool.false_eq_true,if_false,Option.some.injEq] at h4
      rcases h4 with q|q|q
      ·exact absurd q hkl
      ·exact absurd q hkc
      ·exact absurd q hkf'
end
structure LoopEnd (am:Amb) (stack:List Env) (π:List Addr) (s:Shared) (rs:List V) (Hf:H) (D C:Addr) (s':Shared):Prop where
 freshD:s.heap.get? D=none
 freshC:s.heap.get? C=none
 ne:D≠C
 resD:D ∉ am.res
 resC:C ∉ am.res
 baseD:am.B.get? D=none
 baseC:am.B.get? C=none
 fsD:D ∉ Fs stack
 fsC:C ∉ Fs stack
 rest:∃ π' xs m,Step (Fs stack) π s π' s'∧HR ((am.hold D).hold C) stack π' Hf s'.heap∧PL s'.heap D xs∧VRs ((am.hold D).hold C) π' s'.heap rs xs∧s'.heap.Ns C m∧D ∉ π'∧C ∉ π'
section
variable {am:Amb}{n:Nat}{F:Fn}{c:Ck}
noncomputable def CJ (am:Amb) (n:Nat) (F:Fn) (c:Ck) (cond:Option PE) (ifs:List Expr):Prop:=∀ {cx:Cx}{ρ:List V}{A:Around}{res π:List Addr}{Hc:H}{s:Shared},Base am n true F c cx ρ A→St (am.at res) true cx ρ π Hc A s →
 JAt (am.at res) cx.stack A (forIn ifs true fun c r=>if r=true then do let ok ← isTrue c cx.env (eval c cx.env);pure (ForInStep.yield ok) else pure (ForInStep.yield r)) (tr (evC true F ρ cond Hc)) BR π s
theorem zo4:CJ am n F c none []:=fun {cx ρ A res π Hc s} B st=>by
 simp only[zrs,zrr];exact .inr (wpAny_tests_nil (OkP.here st.hr rfl))
theorem zo3 {e:PE}{x:Expr}(h:TJ am n true F c e x):CJ am n F c (some e) [x]:=fun {cx ρ A res π Hc s} B st=>by
 simp only[zrs,zrr];exact(h B st).rule fun Q E h=>wpAny_tests_one h
theorem noErr {am:Amb}{stack:List Env}{β:Type}{π:List Addr}{s:Shared}{b:β}{Hc:H}{x:Value}{s':Shared}{P:Prop}(h:ErP am stack π s (.ok b Hc) x s'):P:=by
 obtain⟨_,_,_,_,_,_,h,_⟩:=h;cases h
theorem JAt.okAt {am:Amb}{stack:List Env}{A:Around}{α β:Type}{Rel:List Addr→Heap→β→α→Prop}{π:List Addr}{s:Shared}{m:Sem α}{r:R β}{b:β}{Hc:H}{Q:α→Shared→Prop}{E:Value→Shared→Prop}(h:JAt am stack A m r Rel π s) (hr:r=.ok b Hc)
  (k:∀ a π' s',Step (Fs stack) π s π' s'→HR am stack π' Hc s'.heap→Rel π' s'.heap b a→Q a s'):wpAny am.M A m Q E s:=by
 subst hr
 rcases h with h|h
 ·cases h
 ·refine wpAny_mono h (fun a s' h=>?_) fun e s' h=>noErr h
  refine hold fun z_ k_=>?_;obtain⟨b',H',π',h1,h2,h3,h4⟩:=h;refine k_ ?_
  cases h1
  exact k a π' s' h2 h3 h4
theorem zhQ {h:Heap}{a I:Addr}{o:Obj}{us:Array Value}(h1:∃ o,h.get? a=some o∧∀ us,o.data≠.fields us) (h2:h.get? I=some o) (h3:o.data=.fields us):a≠I:=fun q=>by
 subst q;obtain⟨o',h4,h5⟩:=h1;rw[h2] at h4;cases h4
 exact h5 us h3
theorem zjH {am:Amb}{A:Around}{s:Shared}{l:Addr}{xs:List Value}{y:Value}{Q:Value→Shared→Prop}{E:Value→Shared→Prop}(pl:PL s.heap l xs) (hz:xs.length≤1000000)
  (h:PL (s.heap.update l (Obj.mapSeq (·.push y))) l (xs++[y])→Poke l s.heap (s.heap.update l (Obj.mapSeq (·.push y)))→Q .none { s with heap:=s.heap.update l (Obj.mapSeq (·.push y)) }) :
  wpAny am.M A (PySem.call (.builtin "list.append") [.ref l,y]) Q E s:=by
 refine hold fun z_ k_=>?_;obtain⟨o,n,ho,hcl,hdi,hd⟩:=id pl;refine k_ ?_;refine wpAny_call_entry slot_list_append pl.is.typeIs entry_list_append ?_ (args_list_append _ _);show wpAny _ _ (updateSeq l (·.push y) >>= fun z_=>ret .none) _ _ s;refine wpAny_bind ?_;refine wpAny_updateSeq ho hd (wpAny_pure ⟨.none,rfl,?_⟩) (hz:=by rw[List.size_toArray];exact zbi hz)
 have pl':=pl.update (·.push y);exact h (by simpa using pl') fun b o h1 h2=>(Heap.SameBut.update ..).extBut b o h1 h2
theorem zgy {w:Watch}{fe fc:V→H→R V}{h Hf:H}{ws:List V}(e:compL w fe fc [] h=.ok ws Hf):w.ok h=true∧ws=[]∧h=Hf:=by
 simp only[zh5,zh6] at e
 split at e
 ·cases e;exact⟨by assumption,rfl,rfl⟩
 ·cases e
theorem zfg {w:Watch}{fe fc:V→H→R V}{v:V}{vs:List V}{h Hf:H}{ws:List V}(e:compL w fe fc (v::vs) h=.ok ws Hf) :
  w.ok h=true∧∃ tb h3,tr (fc v h)=.ok tb h3∧(tb=false→compL w fe fc vs h3=.ok ws Hf)∧(tb=true→∃ x h4 ws',fe v h3=.ok x h4∧compL w fe fc vs h4=.ok ws' Hf∧ws=x::ws'):=by
 simp only[zh5,zh6] at e
 split at e
 ·refine⟨by assumption,?_⟩
  cases hcd:fc v h with
  |bad=>rw[hcd] at e;cases e
  |err _ _=>rw[hcd] at e;cases e
  |ok bv h3 =>
   rw[hcd] at e;simp only[R.bind_ok] at e
   cases htb:truthy bv with
   |none=>rw[htb] at e;cases e
   |some tb =>
    rw[htb] at e;refine⟨tb,h3,by simp[tr,htb],?_⟩
    cases tb with
    |false=>exact⟨fun z_=>e,fun q=>absurd q (by simp)⟩
    |true =>
     refine⟨fun q=>absurd q (by simp),fun z_=>?_⟩
     dsimp only at e
     cases hel:fe v h3 with
     |bad=>rw[hel] at e;cases e
     |err _ _=>rw[hel] at e;cases e
     |ok x h4 =>
      rw[hel] at e;simp only[R.bind_ok] at e
      cases hrest:compL w fe fc vs h4 with
      |bad=>rw[hrest] at e;cases e
      |err _ _=>rw[hrest] at e;cases e
      |ok ws' h5=>rw[hrest] at e;simp only[R.bind_ok] at e;cases e;exact⟨x,h4,ws',rfl,hrest,rfl⟩
 ·cases e
inductive CompInv (am:Amb) (stack:List Env) (π:List Addr) (s:Shared) (Sx:Nat→List Addr→Heap→Prop) (D C:Addr) (wt:Watch) (fe fc:V→H→R V) (vs rs:List V) (Hf:H) (k:Nat) (s':Shared):Prop
 |mk (j:Nat) (π':List Addr) (H':H) (us:List V) (xsD:List Value) (m:Str→Option Value) (ws:List V) (e:k=vs.length+1 - j) (hj:j≤vs.length) (hS:Step (Fs stack) π s π' s') (hR:HR am stack π' H' s'.heap) (hX:Sx j π' s'.heap) (hP:PL s'.heap D xsD) (hV:VRs am π' s'.heap us xsD) (hN:s'.heap.Ns C m) (hD:D ∉ π') (hC:C ∉ π') (hc:compL wt fe fc (vs.drop j) H'=.ok ws Hf) (hrs:us++ws=rs)
theorem zlj {elt:PE}{i:Nat}{cond:Option PE}{e iter:Expr}{x:Str}{px pos:Pos}{ifs:List Expr}{scope:Scope}{cl:List (Str × Addr)}{cx:Cx}{ρ:List V}{A:Around}{res π π1:List Addr}{Hc H1 Hf:H}{s s1:Shared}{vs rs:List V}{wt:Watch}{itv:Value}
  {RR:Value→Addr→Result→Shared→Prop}{E:Value→Shared→Prop}
  (B:Base am n true F c cx ρ A) (st:St (am.at res) true cx ρ π Hc A s) (hs1:Step (Fs cx.stack) π s π1 s1) (hr1:HR (am.at res) cx.stack π1 H1 s1.heap) (hit:ItR (am.at res) cx.stack A s.heap π1 s1.heap (vs,wt) itv)
  (hsc:zcr c x scope=true) (hi:c.ctx.all (fun p=>p.2 != i)=true) (helt:EJ am n true F (c.inner x i scope) elt e) (hcond:CJ am n F (c.inner x i scope) cond ifs)
  (hcl1:∀ y d,cl.lookup y=some d→cx.env.cells.lookup y=some d) (hcl2:∀ p∈scope.names,p.2=.free→∃ d,cl.lookup p.1=some d)
  (hcomp:compL wt (fun v h=>evE true F (ρ.set i v) elt h) (fun v h=>evC true F (ρ.set i v) cond h) vs H1=.ok rs Hf) (hlen:rs.length≤1000000)
  (hRR:∀ D C s',LoopEnd (am.at res) cx.stack π s rs Hf D C s'→RR (.ref D) C (.ok .next) s') :
  wpAny am.M A (newList []) (fun acc s₃=>wpAny am.M A (newFunctionEnv scope cx.env.globals cl [] cx.env.qual none .none (some cx.env)) (fun cenv s₄ =>
   codeAny am.M A (.compStart (.ListComp e [⟨.Name x px,iter,ifs,0⟩] scope pos) 0 itv acc { cenv with scope:=relabel scope cx.env }) (RR acc cenv.locals) s₄) E s₃) E s1:=by
 have hsc0:=hsc;unfold zcr at hsc;simp only[Bool.and_eq_true,List.all_eq_true,beq_iff_eq,Bool.not_eq_true',Bool.or_eq_true,bne_iff_ne,ne_eq] at hsc;refine hold fun z_ k_=>?_;obtain⟨⟨⟨⟨hkind,hall⟩,hxl⟩,hx0⟩,h00⟩:=hsc;refine k_ ?_;refine hold fun z_ k_=>?_;obtain⟨I,rfl,hI0,hIB,_,hItD⟩:=hit;refine k_ ?_;have hcell:∀ y∈scope.names,y.2≠.cell:=fun y hy=>(hall y hy).2;refine wpAny_newObj_type (wpAny_newFunctionEnv hcell (by intro y hy;simp at hy) (fun h₁ hns₁ hsb₁=>?_) hkind)
 dsimp only at hns₁ hsb₁ ⊢
 generalize hH2:s1.heap.push { cls:=.type "list",dict:=none,data:=.seq ([]:List Value).toArray }=H2 at hns₁ hsb₁ ⊢
 generalize hD:s1.heap.objs.size=D at *
 generalize hC:H2.objs.size=C at *
 have hCD:C=D+1:=by rw[←hC,← hH2,Heap.size_push,hD]
 have hDC:D≠C:=by rw[hCD];exact Nat.ne_of_lt (Nat.lt_succ_self D)
 have freshD1:s1.heap.get? D=none:=by rw[←hD];exact zan _
 have freshC1:s1.heap.get? C=none:=by
  cases hq:s1.heap.get? C with
  |none=>rfl
  |some o=>have h3:C < s1.heap.objs.size:=Heap.lt_size hq;rw[hD,hCD] at h3;exact absurd h3 (Nat.not_lt.mpr (Nat.le_succ _))
 have k1:∀ b o,s1.heap.get? b=some o→h₁.get? b=some o:=fun b o hb =>
  hsb₁.extBut b o (zfu freshC1 hb) (Heap.get?_push_of_some _ (hH2 ▸ Heap.get?_push_of_some _ hb))
 have fresh0:∀ a,s1.heap.get? a=none→s.heap.get? a=none:=fun a ha=>by
  cases hq:s.heap.get? a with
  |none=>rfl
  |some o=>obtain⟨o',h6⟩:=hs1.ext.alive a o hq;rw[ha] at h6;cases h6
 have plD:PL h₁ D []:=by
  have h2:H2.get? D=some { cls:=.type "list",dict:=none,data:=.seq ([]:List Value).toArray }:=by rw[←hH2,← hD];exact Heap.get?_push_size _ rfl
  exact⟨_,0,hsb₁.extBut D _ hDC (Heap.get?_push_of_some _ h2),rfl,rfl,rfl⟩
 let am':Amb:=((am.at res).hold D).hold C
 have hr2:HR am' cx.stack π1 H1 h₁:=(hr1.held (h':=h₁) freshD1 k1 plD.nf |> fun z_=>by
  have a1:HR ((am.at res).hold D) cx.stack π1 H1 H2:=hr1.held freshD1 (fun b o hb=>hH2 ▸ Heap.get?_push_of_some _ hb) (by
   have h2:H2.get? D=some { cls:=.type "list",dict:=none,data:=.seq ([]:List Value).toArray }:=by rw[←hH2,← hD];exact Heap.get?_push_size _ rfl
   exact⟨_,h2,fun us q=>by cases q⟩)
  have hCn:H2.get? C=none:=by rw[←hC];exact zan _
  exact a1.held hCn (fun b o hb=>hsb₁.extBut b o (zfu hCn hb) (Heap.get?_push_of_some _ hb)) (Ns.nf hns₁))
 obtain⟨Sx,It,hSx⟩:=hItD (C::D::res) h₁ (fun a ha=>by
  rcases List.mem_cons.mp ha with rfl|ha
  ·exact .inr freshC1
  ·rcases List.mem_cons.mp ha with rfl|ha
   ·exact .inr freshD1
   ·exact .inl ha) k1
 refine hold fun z_ k_=>?_;obtain⟨hI1,hI2,oI,usI,hIo,hId⟩:=It.own 0 π1 h₁ hSx;refine k_ ?_;have cellsOk:∀ v,(∀ c,v≠.exc c)→Base am n true F (c.inner x i scope) ⟨compEnvC scope cl C cx.env,cx.stack,(x,i)::cx.ctx⟩ (ρ.set i v) A:=fun v hv =>
  ⟨B.ok,B.fn,⟨by show(x,i)::cx.ctx=(x,i)::c.ctx;rw[B.ck.ctx],by show(relabel scope cx.env).names=relab c.names scope.names;rw[zcs B.cxk.kind,B.ck.names],B.ck.fns,B.ck.nums⟩,
   ⟨fun y hy=>by
     have hk:Env.kindOf (compEnvC scope cl C cx.env) y=(scope.names.lookup y).map fun k=>if(k == .free&&c.names.lookup y == some .cell)=true then .cell else k:=by
      show(relabel scope cx.env).names.lookup y=_;rw[zcs B.cxk.kind,zcJ,B.ck.names]
     rw[hk] at hy
     cases hl:scope.names.lookup y with
     |none=>rw[hl] at hy;simp at hy
     |some k =>
      by_cases hf:k=.free
      ·subst hf;exact hcl2 _ (za7 hl) rfl
      ·have hb2:(k == NameKind.free)=false:=by simpa using hf
       rw[hl] at hy;simp only[Option.map_some,hb2,Bool.false_and,Bool.false_eq_true,if_false,Option.some.injEq] at hy
       rcases hy with q|q
       ·exact absurd q (hcell _ (za7 hl))
       ·exact absurd q hf,
    hkind,B.cxk.globals,B.cxk.builtins,B.cxk.top⟩,B.as,fun z_=>(B.ne rfl).set hv⟩
 have resD:D ∉ (am.at res).res:=zao hr1 freshD1;have resC:C ∉ (am.at res).res:=zao hr1 freshC1;have fsD:D ∉ Fs cx.stack:=za4 hr1 freshD1;have fsC:C ∉ Fs cx.stack:=za4 hr1 freshC1;have baseD:(am.at res).B.get? D=none:=zbS hr1 freshD1;have baseC:(am.at res).B.get? C=none:=zbS hr1 freshC1;have er0:ER am' cx ρ π s.heap:=(st.er.held (fresh0 D freshD1)).held (fresh0 C freshC1);have hxk:Env.kindOf (compEnvC scope cl C cx.env) x=some .local:=lookup_relabel_local hxl
 have hp:((compEnvC scope cl C cx.env).scope.kind == .class||((compEnvC scope cl C cx.env).scope.kind == .module&&(compEnvC scope cl C cx.env).locals != (compEnvC scope cl C cx.env).globals))=false:=by
  simp[compEnvC,relabel,hkind]
 have loop:∀ s₃:Shared,s₃={ s1 with heap:=h₁,toks:=s1.toks+([]:List (Str × Value)).length } →
   codeAny am.M A (.compLoop (.ListComp e [⟨.Name x px,iter,ifs,0⟩] scope pos) 0 (.ref I) (.ref D) (compEnvC scope cl C cx.env)) (RR (.ref D) C) s₃:=by
  rintro s₃ rfl
  refine hold fun z_ k_=>?_;obtain⟨Inv,toInv,ofInv⟩:∃ Inv:Nat→Shared→Prop,(∀ k s',CompInv am' cx.stack π s Sx D C wt (fun v h=>evE true F (ρ.set i v) elt h) (fun v h=>evC true F (ρ.set i v) cond h) vs rs Hf k s'→Inv k s')∧(∀ k s',Inv k s'→CompInv am' cx.stack π s Sx D C wt (fun v h=>evE true F (ρ.set i v) elt h) (fun v h=>evC true F (ρ.set i v) cond h) vs rs Hf k s'):=⟨_,fun z_ z_ h=>h,fun z_ z_ h=>h⟩
  refine k_ ?_;refine codeAny_compLoop_tests Inv ?_ (vs.length+1)
   (toInv _ _ ⟨0,π1,H1,[],[],_,rs,rfl,Nat.zero_le _,hs1.trans (Step.keeps k1),hr2,hSx,plD,by simp[VRs],hns₁,zat hr1 freshD1,zat hr1 freshC1,by simpa using hcomp,rfl⟩)
  intro k s' hi_;refine hold fun z_ k_=>?_;obtain⟨j,π',H',us,xsD,m,ws,rfl,hj,hS,hR,hX,hP,hV,hN,hDπ,hCπ,hc,hrs⟩:=ofInv k s' hi_;refine k_ ?_;refine hold fun z_ k_=>?_;obtain⟨i1,i2,oJ,uJ,hoJ,hdJ⟩:=It.own j π' s'.heap hX;refine k_ ?_;have hDI:D≠I:=zhQ hP.nf hoJ hdJ;have hCI:C≠I:=zhQ (Ns.nf hN) hoJ hdJ
  cases hv:vs[j]? with
  |none =>
   have hjl:vs.length≤j:=by simpa using hv
   have hj':j=vs.length:=Nat.le_antisymm hj hjl;rw[List.drop_of_length_le hjl] at hc;obtain⟨hw,rfl,rfl⟩:=zgy hc;subst hj';refine It.done π' _ s' _ _ hX hR hw fun h' tk p=>?_;refine hRR D C _ ⟨fresh0 D freshD1,fresh0 C freshC1,hDC,resD,resC,baseD,baseC,fsD,fsC,π',xsD,m,hS.poke hI0 p,hR.poke p hoJ hdJ hIB,hP.at fun o e=>p D o hDI e,?_,Ns.at hN fun o e=>p C o hCI e,hDπ,hCπ⟩;rw[←hrs,List.append_nil];exact hV.upto (p.slots hoJ hdJ)
  |some v =>
   have hjl:j < vs.length:=(List.getElem?_eq_some_iff.mp hv).1;have hdrop:vs.drop j=v::vs.drop (j+1):=by
    rw[List.drop_eq_getElem_cons hjl]
    congr 1
    exact(List.getElem?_eq_some_iff.mp hv).2
   rw[hdrop] at hc;refine hold fun z_ k_=>?_;obtain⟨hw,tb,h3,htr,hc0,hc1⟩:=zfg hc;refine k_ ?_;refine It.item j π' H' s' v _ _ hX hR hw hv fun x' h' tk p hvx hX'=>?_;dsimp only;have hN':h'.Ns C m:=Ns.at hN fun o e=>p C o hCI e;refine wpAny_assign_Name (wpAny_storeName_local hxk hN' (fun h₂ hn₂ hs₂=>?_) hp);have p2:Poke C h' h₂:=fun b o hb e=>hs₂.extBut b o hb e;have hCr:C∈am'.res:=List.mem_cons_self
   have hDr:D∈am'.res:=List.mem_cons_of_mem _ List.mem_cons_self;have f2:∀ b o,b ∉ am'.res→h'.get? b=some o→h₂.get? b=some o:=fun b o hb e=>p2 b o (fun q=>hb (q ▸ hCr)) e;have hR2:HR am' cx.stack π' H' h₂:=(hR.poke p hoJ hdJ hIB).freed hCr baseC hCπ p2 (Ns.nf hn₂);have hS2:Step (Fs cx.stack) π s π' { s' with heap:=h₂,toks:=tk+1 }:=(hS.poke (tk:=tk) hI0 p).poke (fresh0 C freshC1) p2
   have hP2:PL h₂ D xsD:=(hP.at fun o e=>p D o hDI e).at fun o e=>p2 D o hDC e;have hV2:VRs am' π' h₂ us xsD:=(hV.upto (p.slots hoJ hdJ)).free f2;have hX2:Sx (j+1) π' h₂:=It.free _ _ _ _ hX' f2;have hvx2:VR am' π' h₂ v x':=hvx.free f2;have er:ER am' ⟨compEnvC scope cl C cx.env,cx.stack,(x,i)::cx.ctx⟩ (ρ.set i v) π' h₂ :=
    zoR (er0.step hS2) B.cxk.kind B.ck.names B.ck.ctx hsc0 hi hcl1 hcl2 hCπ hn₂ (by simp) hvx2
   have stI:St am' true ⟨compEnvC scope cl C cx.env,cx.stack,(x,i)::cx.ctx⟩ (ρ.set i v) π' H' A { s' with heap:=h₂,toks:=tk+1 }:=⟨hR2,er,st.hd⟩
   have BI:=cellsOk v hvx.noexc;refine JAt.okAt (am:=am') (hcond (res:=C::D::res) BI stI) htr fun a π2 s3 hS3 hR3 hb=>?_;unfold BR at hb;subst hb;have alive2:∀ {a:Addr},(∃ o,h₂.get? a=some o∧∀ us,o.data≠.fields us)→a ∉ π'→a ∉ π2:=fun {a} ⟨o,ho,_⟩ ha=>hS3.notin (s:={ s' with heap:=h₂,toks:=tk+1 }) ho ha
   have hDπ2:=alive2 hP2.nf hDπ;have hCπ2:=alive2 (Ns.nf hn₂) hCπ;have hP3:PL s3.heap D xsD:=hP2.at fun o e=>hS3.ext.keep D o e hDπ fsD;have hN3:=Ns.at hn₂ fun o e=>hS3.ext.keep C o e hCπ fsC;have hV3:VRs am' π2 s3.heap us xsD:=hV2.step hS3;have hX3:=It.stable _ _ _ _ _ hX2 hS3
   cases tb with
   |false =>
    rw[if_neg (by simp)]
    exact⟨_,Nat.sub_lt_sub_left (Nat.lt_succ_of_lt hjl) (Nat.lt_succ_self j),toInv _ _ ⟨j+1,π2,h3,us,xsD,_,ws,rfl,hjl,hS2.trans hS3,hR3,hX3,hP3,hV3,hN3,hDπ2,hCπ2,hc0 rfl,hrs⟩⟩
   |true =>
    rw[if_pos rfl];obtain⟨w,h4,ws',hel,hrest,rfl⟩:=hc1 rfl;refine JAt.okAt (am:=am') (helt (res:=C::D::res) BI (stI.step hS3 hR3)) hel fun y π3 s4 hS4 hR4 hvy=>?_;have hP4:PL s4.heap D xsD:=hP3.at fun o e=>hS4.ext.keep D o e hDπ2 fsD;have hN4:=Ns.at hN3 fun o e=>hS4.ext.keep C o e hCπ2 fsC;have hDπ3:D ∉ π3:=by obtain⟨o,ho,_⟩:=hP3.nf;exact hS4.notin ho hDπ2
    have hCπ3:C ∉ π3:=by obtain⟨o,ho,_⟩:=Ns.nf hN3;exact hS4.notin ho hCπ2
    have hV4:VRs am' π3 s4.heap us xsD:=hV3.step hS4;have hX4:=It.stable _ _ _ _ _ hX3 hS4;have hxl2:xsD.length≤1000000:=by
     rw[hV4.len];refine Nat.le_trans ?_ hlen;rw[←hrs,List.length_append];exact Nat.le_add_right ..
    refine zjH hP4 hxl2 fun pl' p5=>?_;have f5:∀ b o,b ∉ am'.res→s4.heap.get? b=some o→(s4.heap.update D (Obj.mapSeq (·.push y))).get? b=some o:=fun b o hb e=>p5 b o (fun q=>hb (q ▸ hDr)) e;exact⟨_,Nat.sub_lt_sub_left (Nat.lt_succ_of_lt hjl) (Nat.lt_succ_self j),toInv _ _ ⟨j+1,π3,h4,us++[w],xsD++[y],_,ws',rfl,hjl,((hS2.trans hS3).trans hS4).poke (tk:=s4.toks) (fresh0 D freshD1) p5,hR4.freed hDr baseD hDπ3 p5 pl'.nf,It.free _ _ _ _ hX4 f5,pl',
     (hV4.append (.single hvy)).free f5,Ns.at hN4 fun o e=>p5 C o (Ne.symm hDC) e,hDπ3,hCπ3,hrest,by rw[←hrs];simp⟩⟩
 exact codeAny_compStart_list (loop _ rfl) (It.self 0 π1 _ _ _ hSx (loop _ rfl))
end
theorem LoopEnd.fr {am:Amb}{stack:List Env}{π:List Addr}{s:Shared}{rs:List V}{Hf:H}{D C:Addr}{s':Shared}(e:LoopEnd am stack π s rs Hf D C s') (hlen:rs.length≤1000000){h':Heap}{tk:Nat}(p:Poke C s'.heap h') :
  FrP am stack π s (.ok (.lst rs) Hf) (.ref D) { s' with heap:=h',toks:=tk }:=by
 refine hold fun z_ k_=>?_;obtain⟨π',xs,m,h1,h2,h3,h4,h5,h6,h7⟩:=e.rest;refine k_ ?_;have hCr:C∈((am.hold D).hold C).res:=List.mem_cons_self;refine⟨rs,Hf,π',D,xs,rfl,rfl,hlen,e.freshD,⟨h6,e.fsD,e.resD,e.baseD⟩,h1.poke e.freshC p,?_,h3.at fun o q=>p D o e.ne q,?_⟩
 ·refine h2.out ?_ e.baseC h7 e.fsC p
  simp only[Amb.hold,List.mem_cons,not_or];exact⟨Ne.symm e.ne,e.resC⟩
 ·exact(h4.free fun b o hb q=>p b o (fun z=>hb (z ▸ hCr)) q).reserve.2
theorem zio {iter:Expr}(h:isSet iter=false) (env:Env) (x:Value):foldedSetIterable iter env x=pure x:=by
 cases iter<;>first|rfl|exact noB h.symm
section
variable {am:Amb}{n:Nat}{q:Bool}{F:Fn}{c:Ck}
noncomputable def itemsR (F:Fn) (ρ:List V) (elt:PE) (i:Nat) (it:PIt) (cond:Option PE) (Hc:H):R (List V):=(evIt true F ρ it Hc).bind fun vs h =>
 match compL vs.2 (fun v h=>evE true F (ρ.set i v) elt h) (fun v h=>evC true F (ρ.set i v) cond h) vs.1 h with
 |.ok r h=>if r.length≤1000000 then .ok r h else .bad
 |_=>.bad
theorem zmt {ρ:List V}{elt:PE}{i:Nat}{it:PIt}{cond:Option PE}{Hc H1:H}{vs:List V}{wt:Watch}(hb:itemsR F ρ elt i it cond Hc≠.bad) (e:evIt true F ρ it Hc=.ok (vs,wt) H1) :
  ∃ rs Hf,compL wt (fun v h=>evE true F (ρ.set i v) elt h) (fun v h=>evC true F (ρ.set i v) cond h) vs H1=.ok rs Hf∧rs.length≤1000000∧itemsR F ρ elt i it cond Hc=.ok rs Hf:=by
 have sh:itemsR F ρ elt i it cond Hc=match compL wt (fun v h=>evE true F (ρ.set i v) elt h) (fun v h=>evC true F (ρ.set i v) cond h) vs H1 with
  |.ok r h=>if r.length≤1000000 then .ok r h else .bad
  |_=>.bad:=by unfold itemsR;rw[e];rfl
 rw[sh] at hb ⊢
 cases hc:compL wt (fun v h=>evE true F (ρ.set i v) elt h) (fun v h=>evC true F (ρ.set i v) cond h) vs H1 with
 |bad=>rw[hc] at hb;exact absurd rfl hb
 |err _ _=>rw[hc] at hb;exact absurd rfl hb
 |ok rs Hf =>
  rw[hc] at hb;dsimp only at *
  by_cases hl:rs.length≤1000000
  ·exact⟨rs,Hf,rfl,hl,if_pos hl⟩
  ·rw[if_neg hl] at hb;exact absurd rfl hb
theorem zcj {ρ:List V}{elt:PE}{i:Nat}{it:PIt}{cond:Option PE}{Hc:H}:evE true F ρ (.comp elt i it cond) Hc=(itemsR F ρ elt i it cond Hc).bind fun rs h=>.ok (.lst rs) h:=by
 rw[zaG,if_neg (by decide)]
 unfold itemsR
 cases evIt true F ρ it Hc with
 |ok b h =>
  rw[R.bind_ok,R.bind_ok]
  cases compL b.2 (fun v h=>evE true F (ρ.set i v) elt h) (fun v h=>evC true F (ρ.set i v) cond h) b.1 h with
  |ok r h =>
   dsimp only;unfold mkL
   by_cases hl:r.length≤1000000
   ·rw[if_pos hl,if_pos hl];rfl
   ·rw[if_neg hl,if_neg hl];rfl
  |_=>rfl
 |_=>rfl
theorem ziU {elt:PE}{i:Nat}{it:PIt}{cond:Option PE}{e iter:Expr}{x:Str}{px pos pos':Pos}{ifs:List Expr}{scope:Scope}(hset:isSet iter=false) (hsc:zcr c x scope=true) (hi:c.ctx.all (fun p=>p.2 != i)=true)
  (hit:ItJ am n F c it iter) (helt:EJ am n true F (c.inner x i scope) elt e) (hcond:CJ am n F (c.inner x i scope) cond ifs)
  {cx:Cx}{ρ:List V}{A:Around}{res π:List Addr}{Hc:H}{s:Shared}(B:Base am n true F c cx ρ A) (st:St (am.at res) true cx ρ π Hc A s) :
  itemsR F ρ elt i it cond Hc=.bad∨∀ {use:Option (Value→Sem Unit)}{Q:Value→Shared→Prop}{E:Value→Shared→Prop},
   (∀ c' H' y s',itemsR F ρ elt i it cond Hc=.err c' H'→ErP (am.at res) cx.stack π s (.err c' H':R V) y s'→E y s') →
   (∀ rs Hf D C s',itemsR F ρ elt i it cond Hc=.ok rs Hf→rs.length≤1000000→LoopEnd (am.at res) cx.stack π s rs Hf D C s'→compPost am.M A E use Q (.ref D) C (.ok .next) s') →
   wpAny am.M A (comprehension (.ListComp e [⟨.Name x px,iter,ifs,0⟩] scope pos) scope cx.env pos' (newList []) false (eval iter cx.env) use) Q E s:=by
 by_cases hb:itemsR F ρ elt i it cond Hc=.bad
 ·exact .inl hb
 refine .inr fun {use Q E} he hq=>?_;have hsc0:=hsc;unfold zcr at hsc;simp only[Bool.and_eq_true,List.all_eq_true,beq_iff_eq,Bool.not_eq_true',Bool.or_eq_true,bne_iff_ne,ne_eq] at hsc;refine hold fun z_ k_=>?_;obtain⟨⟨⟨⟨hkind,hall⟩,hxl⟩,hx0⟩,h00⟩:=hsc;obtain⟨cl,hclos,hcl1,hcl2⟩:=zh7 (scope:=scope) (env:=cx.env) (fun p hp hf=>B.cxk.clos p.1 (by
  unfold Env.kindOf;rw[B.ck.names]
  rcases(hall p hp).1.2 with(z|z)|z
  ·exact absurd hf z
  ·exact .inl z
  ·exact .inr z))
 refine k_ ?_;have hnames:∀ y∈scope.names,y.2=.local→scope.names.lookup y.1=some .local:=fun y hy hl=>by
  rcases(hall y hy).1.1 with z|z
  ·exact absurd hl z
  ·exact z.2
 have erp:∀ y s',ErP (am.at res) cx.stack π s (evIt true F ρ it Hc) y s'→E y s':=fun y s' h=>by
  obtain⟨c',H'',π',e',C,fl,hh,r2,r3,r4,r5,r6⟩:=h;exact he c' H'' y s' (by unfold itemsR;rw[hh];rfl) ⟨c',H'',π',e',C,fl,rfl,r2,r3,r4,r5,r6⟩
 rcases hit B st with hI|hI
 ·exact absurd (by unfold itemsR;rw[hI];rfl) hb
 refine wpAny_comprehension_free (use:=use) rfl (zio hset cx.env) hclos hkind hnames (wpAny_mono hI (fun xv s₁ h₁=>wpAny_mono h₁ (fun itv s₂ h₂=>?_) erp) erp);refine hold fun z_ k_=>?_;obtain⟨⟨vs,wt⟩,H1,π1,e1,e2,e3,e4⟩:=h₂;obtain⟨rs,Hf,e5,e6,e7⟩:=zmt hb e1;refine k_ ?_;exact zlj (RR:=fun acc C=>compPost am.M A E use Q acc C) B st e2 e3 e4 hsc0 hi helt hcond hcl1 hcl2 e5 e6 fun D C s' le=>hq rs Hf D C s' e7 e6 le
theorem zoQ {elt:PE}{i:Nat}{it:PIt}{cond:Option PE}{e iter:Expr}{x:Str}{px pos:Pos}{ifs:List Expr}{scope:Scope}(hset:isSet iter=false) (hsc:zcr c x scope=true) (hi:c.ctx.all (fun p=>p.2 != i)=true)
  (hit:q=true→ItJ am n F c it iter) (helt:q=true→EJ am n true F (c.inner x i scope) elt e) (hcond:q=true→CJ am n F (c.inner x i scope) cond ifs) :
  FJ am n q F c (.comp elt i it cond) (.ListComp e [⟨.Name x px,iter,ifs,0⟩] scope pos):=fun {cx ρ A res π Hc s} B st=>by
 cases q with
 |false=>exact .inl (by rw[zaG,if_pos (by decide)])
 |true =>
  rcases ziU (px:=px) (pos:=pos) (pos':=firstIterPos [⟨.Name x px,iter,ifs,0⟩] pos) hset hsc hi (fun B st=>hit rfl B st) (fun B st=>helt rfl B st) (fun B st=>hcond rfl B st) B st with h|h
  ·exact .inl (by rw[zcj,h];rfl)
  ·refine .inr (h (use:=none) (fun c' H' y s' e z=>by rw[zcj,e];exact z) fun rs Hf D C s' e hl le=>?_)
   refine hold fun z_ k_=>?_;obtain⟨π',xs,m,_,_,_,_,h5,_⟩:=le.rest;refine k_ ?_;refine⟨m,h5,fun h' sb=>?_⟩;rw[zcj,e];exact le.fr hl (tk:=s'.toks) fun b o hb q=>sb.extBut b o hb q
theorem zhJ {h h':Heap}{C:Addr}(e:zdK h C) (k:∀ b o,h.get? b=some o→h'.get? b=some o):zdK h' C:=by
 refine hold fun z_ k_=>?_;obtain⟨nm,qn,N,bs,bm,hdct,sn,sub,ab,col,dd,k0,k1,k2,k3,k5,mN,r1,r2,r3,r4⟩:=e;refine k_ ?_;exact⟨nm,qn,N,bs,bm,hdct,sn,sub,ab,col,dd,k0,k1,k2,k3,k5,mN,k _ _ r1,zdl k r2,r3,r4.keeps k⟩
theorem zk6 {prog:Program}{w:World}{A:Around}{E:Value→Shared→Prop}{Q:Option Value→Shared→Prop}{s:Shared}{K:Frag}{x D:Addr}{ox:Obj}(X:K.In s.heap) (I:InstAt s.heap x ox D none) (R:zdK s.heap D)
  (hga:findIn K (.ref D) "__getattribute__"=some (some (.builtin "BaseException.__getattribute__"))) (hgh:findIn K (.ref D) "__getattr__"=some none)
  (hf:findObj K D none "__class__"=some (.bind (.builtin "getset_descriptor.__get__") (.builtin "object.__class__"))) (hm:mroIn K D (.type "object")=some true)
  (h:Q (some (.ref D)) { s with toks:=s.toks+1 }):wpAny (model prog w) A (getAttr? (.ref x) "__class__") Q E s:=by
 refine hold fun z_ k_=>?_;obtain⟨hh,g,d,t,os⟩:=s;refine k_ ?_;refine hold fun z_ k_=>?_;obtain⟨nm,qn,N,bs,bm,hdct,sn,sub,ab,col,dd,k0,k1,k2,k3,k5,mN,r1,r2,r3,r4⟩:=R;refine k_ ?_;have L0:=I.type (M:=model prog w);have L1:=looks_findIn (M:=model prog w) X hga;have L2:=looks_findIn (M:=model prog w) X hgh;have L3:=looks_find (M:=model prog w) X I hf;have f3:=F.attrBase_ValueError.ga.bind (.ref x);unfold getAttr? getAttrBy? getAttrBy
 refine wpAny_bind (wpAny_mkText (wpAny_bind (wpAny_attempt (wpAny_holding (wpAny_bind (L0.at (wpAny_bind (L1.at ?_))))))));have hx2:(Value.builtin "BaseException.__getattribute__" == Value.builtin "object.__getattribute__")=false:=by decide +kernel
 dsimp only;rw[if_neg (by rw[hx2];simp)]
 unfold getAttrByItsOwn hookBefore;refine wpAny_bind ?_;rw[if_pos (show onTheHeap (Value.ref D)=true from rfl)];refine L2.at ?_;refine wpAny_bind (wpAny_attempt (wpAny_holding ?_));unfold callGetattribute;rw[if_neg (by simp)]
 unfold boundAndCalled;rw[f3];refine wpAny_bind (wpAny_pure ?_);refine wpAny_call (codeAny_call_builtin F.attrBase_ValueError.ga.plain F.entry_bexc_ga (wpAny_check_ga_own F.attrBase_ValueError r1 r4 I.1 I.2 ?_));unfold Builtin.«object.__getattribute__»
 refine wpAny_bind (wpAny_of_eq (a:=(.ref x,[.str (Str.ofString "__class__") t])) rfl ?_);dsimp only;refine wpAny_bind (wpAny_of_eq (a:=Str.ofString "__class__") rfl ?_);refine wpAny_bind (L0.at (wpAny_bind (L3.at ?_)));dsimp only;unfold Builtin.ObjectAttr.bindTo;dsimp only;refine wpAny_bind (wpAny_holding (wpAny_call (class_get (s:=⟨hh,g,d,t+1,os⟩) (ox:=ox) (od:=none) X I hm ?_)));refine wpAny_pure ?_
 exact handed_on rfl (wpAny_pure h)
set_option tactic.hygienic true in
theorem zfD {K:Frag}{D:Addr}(hc:(clsIn K D).isSome=true):∃ c d cd sl,K.lookup D=some ⟨c,d,.cls cd,sl⟩:=by
 unfold clsIn at hc
 split at hc
 ·rename_i ho;exact⟨_,_,_,_,ho⟩
 ·cases hc
theorem zmo {K:Frag}{x D:Addr}{ox:Obj}(hg:findIn K (.ref D) "__getattribute__"=some (some (.builtin "BaseException.__getattribute__"))∧findIn K (.ref D) "__getattr__"=some none) (hc:(clsIn K D).isSome=true) (ha:findIn K (.ref D) "__class__"=some (some (.builtin "object.__class__")))
  (hn:specialIn K (.builtin "object.__class__") "__get__"=some (some (.builtin "getset_descriptor.__get__"))) (htk:takesIn K (.builtin "object.__class__")=some true) (hm:mroIn K D (.type "object")=some true) :
  KitX K (.ref x) (.ref D) (fun h=>InstAt h x ox D none∧zdK h D) where
 ty:=fun z_ z_ z_ I=>I.1.type
 it:=fun z_ z_ X z_=>by
  obtain⟨_,_,_,_,ho⟩:=zfD hc;intro A' Q' E' s' k q;unfold isType loadHead;exact wpAny_bind (wpAny_loadPart (k _ _ (X _ _ ho)) (wpAny_pure q))
 ne:=fun h tp dd its n sl X htp=>by
  refine Bool.eq_false_iff.mpr fun q=>?_;have e:D=tp:=Value.ref.inj (beq_iff_eq.mp q);subst e;obtain⟨_,_,_,_,ho⟩:=zfD hc;have z:=(X _ _ ho).symm.trans htp
  cases z
 ca:=fun {prog w A E Q s} X I k=>by
  have hf:findObj K D none "__class__"=some (.bind (.builtin "getset_descriptor.__get__") (.builtin "object.__class__")):=by
   obtain⟨cd,hc⟩:=Option.isSome_iff_exists.mp hc;unfold findObj;rw[hc,Option.bind_some,ha,Option.bind_some];show((specialIn K (.builtin "object.__class__") "__get__").bind _)=_;rw[hn,Option.bind_some];show((takesIn K (.builtin "object.__class__")).bind _)=_;rw[htk];rfl
  exact zk6 X I.1 I.2 hg.1 hg.2 hf hm k
set_option tactic.hygienic true in
theorem zmK {i:Nat}{t:Ty}{x:Str}{y:Expr}{p p' p2:Pos}(hx:c.glob "isinstance"=true) (hv:c.var x i=true) (hk:ckTy c t y=true) :
  EJ am n q F c (.isexc i t) (.Call (.Name "isinstance" p) [.Name x p2,y] [] p'):=fun {cx ρ A res π Hc s} B st=>by
 simp only[zcd,zcc,zb7,zb6,zb5,zb4,zbF,zcb,zb3,za1,zaK,za0,zal,zaS,zaw,zaJ,zaZ,zar,zaz,zaI,zaH,zaY,zaX,zaR,zaW,zaG,zaq,zaF,zaV,zaE,zaU,zaQ,zaP,qE_34,zaD,zaC,zaO,zaB]
 cases hρ:ρ[i]? with
 |none=>exact .inl rfl
 |some v =>
  cases v with
  |exc d =>
   simp only
   cases hb:isExc d t with
   |none=>exact .inl rfl
   |some b =>
    refine .inr (zbv (v:=.builtin "isinstance") B st.hr hx (zdW (by kernel_rfl)) (by
     intro z hz;rcases List.mem_cons.mp hz with rfl|hz
     ·rfl
     ·exact zd0 (c:=c) (ts:=[t]) (xs:=[y]) (Bool.and_eq_true_iff.2 ⟨hk,rfl⟩) z hz) (spl2 (zjD B st hv hρ (by simp) fun v' hs=>?_)))
    rcases hs with hs|⟨d',a,h1,rfl,h3,C,o,vs,h4,h5,h6,h7,h8,h9⟩
    ·exact hs.elim
    cases h1
    unfold isExc at hb
    split at hb
    ·rename_i hd
     have hdm:d∈zag:=by simpa using hd
     obtain⟨C',X⟩:=B.ok.exc d hdm;have hCC:C'=C:=by have:=X.name.symm.trans h4;cases this;rfl
     subst hCC;have Z:=zmo (x:=a) (ox:=o) X.get X.cls X.find X.spec X.takes X.mro;have I:InstAt s.heap a o C' none∧zdK s.heap C':=⟨⟨h5,h6.1,by unfold notCls;rw[h7],by rw[h6.2];trivial⟩,zhJ (B.ok.rs d hdm C' X.name) st.hr.base⟩
     obtain⟨pz,rfl,hk'⟩:=zgz hk
     clear hk
     have hk:=hk'
     cases t with
     |valueError =>
      cases hb
      exact znI B st.hr hk (zdW (by kernel_rfl)) (kia_one Z (B.ok.K.keeps st.hr.base) I X.val (by simp) fun tk=>OkP.tok st.hr rfl)
     |own d2 =>
      simp only at hb
      split at hb
      ·rename_i hd2
       cases hb
       have hdm2:d2∈zag:=by simpa using hd2
       obtain⟨D,Y⟩:=B.ok.exc d2 hdm2;exact zdu B st.hr hk Y.name (kia_one Z (B.ok.K.keeps st.hr.base) I (B.ok.sub d hdm d2 hdm2 C' D X.name Y.name) (by simp) fun tk=>OkP.tok st.hr rfl)
      ·cases hb
     |_=>cases hb
    ·cases hb
  |_=>exact .inl rfl
theorem ziO {f:String}{i:Nat}{x:Str}{p p' p2:Pos}(hx:c.glob (Str.ofString f)=true) (hf:f∈c.fns) (hv:c.var x i=true) :
  EJ am n q F c (.callX f i) (.Call (.Name (Str.ofString f) p) [.Name x p2] [] p'):=fun {cx ρ A res π Hc s} B st=>by
 simp only[zcd,zcc,zb7,zb6,zb5,zb4,zbF,zcb,zb3,za1,zaK,za0,zal,zaS,zaw,zaJ,zaZ,zar,zaz,zaI,zaH,zaY,zaX,zaR,zaW,zaG,zaq,zaF,zaV,zaE,zaU,zaQ,zaP,qE_34,zaD,zaC,zaO,zaB]
 cases hρ:ρ[i]? with
 |none=>exact .inl rfl
 |some v =>
  cases v with
  |exc d =>
   obtain⟨a,fa⟩:=B.ck.fns f hf;refine hold fun z_ k_=>?_;obtain⟨ga,o,fd,ho,hd⟩:=id fa;refine k_ ?_;have hq:q=false:=by
    cases q with
    |false=>rfl
    |true=>exact absurd rfl ((B.ne rfl) _ (List.mem_of_getElem? hρ) d)
   simp only;have J:∀ v',SR (am.at res) π s.heap (.exc d) v'→JAt (am.at res) cx.stack A (PySem.call (.ref a) [v'] []) (Mine.pcall Hc (F q f [.exc d] Hc)) (VR (am.at res)) π s:=fun v' hs=>by
    rcases hs with hs|⟨d',b,h1,rfl,h3,h4⟩
    ·exact hs.elim
    cases h1
    exact JAt.pcall st.hr (B.fn.call res q f a _ _ cx.stack A π Hc s fa B.as st.hr st.hd (.inr ⟨hq,d,b,rfl,rfl,h3,h4⟩))
   by_cases hbad:Mine.pcall Hc (F q f [.exc d] Hc)=.bad
   ·exact .inl hbad
   ·refine .inr (wpAny_Call_Name_kw (zdu B st.hr hx ga ?_))
    rw[zac _ (fun z hz=>by rw[List.mem_singleton.mp hz];rfl)]
    refine Calls.callWith_function (o:=o) (fd:=fd) (Calls.evalArgs_plain (spl1 (zjD B st hv hρ (by simp) fun v' hs=>⟨⟨st.hr.base a o ho,hd⟩,?_⟩)))
    rcases J v' hs with h|h
    ·exact absurd h hbad
    ·exact h
  |_=>exact .inl rfl
end
section
variable {am:Amb}{n:Nat}{F:Fn}
noncomputable def PJ (am:Amb) (n:Nat) (q:Bool) (F:Fn) (c:Ck) (e:PE) (x:Expr):Prop:=EJ am n q F c e x∧TJ am n q F c e x
theorem EJ.both {q:Bool}{c:Ck}{e:PE}{x:Expr}(h:EJ am n q F c e x) (hp:zdj x=true):PJ am n q F c e x:=⟨h,h.test hp⟩
noncomputable def OJ (am:Amb) (n:Nat) (q:Bool) (F:Fn) (c:Ck) (e:PE) (x:Expr):Prop:=freshE e=true→EJ am n q F c (.own e) x∧zdj x=true
theorem zmD {f:Bf}{a:PE}(h:freshE (.bf f a)=true):f=.list∨f=.listRev:=by
 cases f<;>first|exact .inl rfl|exact .inr rfl|exact noB h
noncomputable def XJ (am:Amb) (n:Nat) (q:Bool) (F:Fn) (c:Ck) (e:PE) (x:Expr):Prop:=PJ am n q F c e x∧OJ am n q F c e x
theorem zp2 {q:Bool}{c:Ck}  {x:Expr}  (h:ckE c (.none) x=true):XJ am n q F c (.none) x:=by
 refine zci (G:=XJ am n q F c (.none)) h fun k p z_=>?_;exact⟨EJ.both zoT rfl,fun z=>by cases z⟩
theorem zp8 {q:Bool}{c:Ck}{b:Bool}{x:Expr}  (h:ckE c (.bool b) x=true):XJ am n q F c (.bool b) x:=by
 refine zci (G:=XJ am n q F c (.bool b)) h fun k p z_=>?_;exact⟨EJ.both zoX rfl,fun z=>by cases z⟩
theorem zrh {q:Bool}{c:Ck}{i:Int}{x:Expr}  (h:ckE c (.int i) x=true):XJ am n q F c (.int i) x:=by
 refine zci (G:=XJ am n q F c (.int i)) h fun k p z_=>?_;exact⟨EJ.both znv rfl,fun z=>by cases z⟩
theorem zrc {q:Bool}{c:Ck}{t:String}{x:Expr}  (h:ckE c (.str t) x=true):XJ am n q F c (.str t) x:=by
 refine zci (G:=XJ am n q F c (.str t)) h fun k p z_=>?_;exact⟨EJ.both zqm rfl,fun z=>by cases z⟩
theorem zra {q:Bool}{c:Ck}{i:Nat}{x:Expr}  (h:ckE c (.var i) x=true):XJ am n q F c (.var i) x:=by
 refine zcu (G:=XJ am n q F c (.var i)) h fun y p hh=>?_;exact⟨EJ.both (zqk hh) rfl,fun z=>by cases z⟩
theorem zp4 {q:Bool}{c:Ck}{g:String}{i:Int}{x:Expr}  (h:ckE c (.glob g i) x=true):XJ am n q F c (.glob g i) x:=by
 refine zcg (G:=XJ am n q F c (.glob g i)) (al h) fun p z_=>?_;exact⟨EJ.both (zoU (al (ar h)) (by simpa using ar (ar h))) rfl,fun z=>by cases z⟩
theorem zrl {q:Bool}{c:Ck}{op:Bop}{a b:PE}{x:Expr}(Ia:∀ y,ckE c a y=true→XJ am n q F c a y) (Ib:∀ y,ckE c b y=true→XJ am n q F c b y) (h:ckE c (.bin op a b) x=true):XJ am n q F c (.bin op a b) x:=by
 refine zo8 (G:=XJ am n q F c (.bin op a b)) h fun l r p hh=>?_;have ha:=(Ia _ (al hh)).1;have hb:=(Ib _ (ar hh)).1;refine⟨EJ.both (zqu (decide_eq_true rfl) ha.1 hb.1) rfl,fun z=>?_⟩
 cases op with
 |add=>exact⟨zol ha.1 hb.1,rfl⟩
 |_=>cases z
theorem zrg {q:Bool}{c:Ck}{i:Int}{x:Expr}  (h:ckE c (.neg i) x=true):XJ am n q F c (.neg i) x:=by
 refine zna (G:=XJ am n q F c (.neg i)) h fun y p hh=>?_;refine zci (G:=fun y=>XJ am n q F c (.neg i) (.UnaryOp .USub y p)) hh fun k p' z_=>?_;exact⟨EJ.both zqq rfl,fun z=>by cases z⟩
theorem zrf {q:Bool}{c:Ck}{a:PE}{x:Expr}(Ia:∀ y,ckE c a y=true→XJ am n q F c a y) (h:ckE c (.not a) x=true):XJ am n q F c (.not a) x:=by
 refine zna (G:=XJ am n q F c (.not a)) h fun y p hh=>?_;have ha:=(Ia _ hh).1;exact⟨⟨zqp ha.1,zpo ha.2⟩,fun z=>by cases z⟩
theorem zrm {q:Bool}{c:Ck}{es:List PE}{x:Expr}(Ies:∀ ys,ckEs c es ys=true→AllJ am n q F c es ys) (h:ckE c (.and es) x=true):XJ am n q F c (.and es) x:=by
 refine ziX (G:=XJ am n q F c (.and es)) h fun ys p hh=>?_;have ha:=Ies _ hh;exact⟨⟨znw ha,znb ha⟩,fun z=>by cases z⟩
theorem zrw {q:Bool}{c:Ck}{es:List PE}{x:Expr}(Ies:∀ ys,ckEs c es ys=true→AllJ am n q F c es ys) (h:ckE c (.or es) x=true):XJ am n q F c (.or es) x:=by
 refine ziX (G:=XJ am n q F c (.or es)) h fun ys p hh=>?_;have ha:=Ies _ hh;exact⟨⟨zqo ha,zpn ha⟩,fun z=>by cases z⟩
theorem zrk {q:Bool}{c:Ck}{op:Cop}{a b:PE}{x:Expr}(Ia:∀ y,ckE c a y=true→XJ am n q F c a y) (Ib:∀ y,ckE c b y=true→XJ am n q F c b y) (h:ckE c (.cmp op a b) x=true):XJ am n q F c (.cmp op a b) x:=by
 refine zll (G:=XJ am n q F c (.cmp op a b)) h fun l os rs p hh=>?_;refine zax (G:=fun os=>XJ am n q F c (.cmp op a b) (.Compare l os rs p)) hh fun o hh=>?_;refine zax (G:=fun rs=>XJ am n q F c (.cmp op a b) (.Compare l [o] rs p)) hh fun r hh=>?_;have ha:=(Ia _ (al (ar hh))).1;have hb:=(Ib _ (al (ar (ar hh)))).1;have hs:=nt (ar (ar (ar hh)));exact⟨⟨zqt (al hh) hs ha.1 hb.1,zpp (al hh) hs ha.1 hb.1⟩,fun z=>by cases z⟩
theorem zp6 {q:Bool}{c:Ck}{o1 o2:Cop}{a b d:PE}{x:Expr}(Ia:∀ y,ckE c a y=true→XJ am n q F c a y) (Ib:∀ y,ckE c b y=true→XJ am n q F c b y) (Id:∀ y,ckE c d y=true→XJ am n q F c d y) (h:ckE c (.cmp2 o1 o2 a b d) x=true):XJ am n q F c (.cmp2 o1 o2 a b d) x:=by
 refine zll (G:=XJ am n q F c (.cmp2 o1 o2 a b d)) h fun l os rs p hh=>?_;refine zc3 (G:=fun os=>XJ am n q F c (.cmp2 o1 o2 a b d) (.Compare l os rs p)) hh fun u1 u2 hh=>?_;refine zc3 (G:=fun rs=>XJ am n q F c (.cmp2 o1 o2 a b d) (.Compare l [u1,u2] rs p)) hh fun r1 r2 hh=>?_;have g1:=al hh;have hh:=ar hh;have g2:=al hh;have hh:=ar hh;have ha:=(Ia _ (al hh)).1;have hh:=ar hh;have hb:=(Ib _ (al hh)).1
 have hh:=ar hh;have hd:=(Id _ (al hh)).1;have hs:=nt (ar hh);exact⟨⟨zoV g1 g2 hs ha.1 hb.1 hd.1,znR g1 g2 hs ha.1 hb.1 hd.1⟩,fun z=>by cases z⟩
theorem zp3 {q:Bool}{c:Ck}{es:List PE}{x:Expr}(Ies:∀ ys,ckEs c es ys=true→AllJ am n q F c es ys) (h:ckE c (.list es) x=true):XJ am n q F c (.list es) x:=by
 refine zmk (G:=XJ am n q F c (.list es)) h fun xs p hh=>?_;have ha:=Ies _ hh;exact⟨EJ.both (FJ.ej (zk4 ha)) rfl,fun z_=>⟨FJ.own (zk4 ha),rfl⟩⟩
theorem zrb {q:Bool}{c:Ck}{es:List PE}{x:Expr}(Ies:∀ ys,ckEs c es ys=true→AllJ am n q F c es ys) (h:ckE c (.tup es) x=true):XJ am n q F c (.tup es) x:=by
 refine zjV (G:=XJ am n q F c (.tup es)) h fun xs k p hh=>?_;exact⟨EJ.both (zql (Ies _ hh)) rfl,fun z=>by cases z⟩
theorem zoC {q:Bool}{c:Ck}  {x:Expr}  (h:ckE c (.dict0) x=true):XJ am n q F c (.dict0) x:=by
 refine zgw (G:=XJ am n q F c (.dict0)) h fun ks vs p hh=>?_;refine zbj (G:=fun ks=>XJ am n q F c .dict0 (.Dict ks vs p)) (al hh) ?_;refine zbj (G:=fun vs=>XJ am n q F c .dict0 (.Dict [] vs p)) (ar hh) ?_;exact⟨EJ.both zmM rfl,fun z=>by cases z⟩
theorem zri {q:Bool}{c:Ck}{a i:PE}{x:Expr}(Ia:∀ y,ckE c a y=true→XJ am n q F c a y) (Ii:∀ y,ckE c i y=true→XJ am n q F c i y) (h:ckE c (.idx a i) x=true):XJ am n q F c (.idx a i) x:=by
 refine zfQ (G:=XJ am n q F c (.idx a i)) h fun v s p hh=>?_;exact⟨EJ.both (zqr (Ia _ (al hh)).1.1 (Ii _ (ar hh)).1.1) rfl,fun z=>by cases z⟩
theorem zrd {q:Bool}{c:Ck}{a:PE}{x:Expr}(Ia:∀ y,ckE c a y=true→XJ am n q F c a y) (h:ckE c (.rev a) x=true):XJ am n q F c (.rev a) x:=by
 refine zfQ (G:=XJ am n q F c (.rev a)) h fun v s p hh=>?_;refine zgL (G:=fun s=>XJ am n q F c (.rev a) (.Subscript v s p)) hh fun l u d p' hh=>?_;refine zdn (G:=fun d=>XJ am n q F c (.rev a) (.Subscript v (.Slice l u d p') p)) (al hh) ?_;refine zdn (G:=fun u=>XJ am n q F c (.rev a) (.Subscript v (.Slice l u none p') p)) (al (ar hh)) ?_;refine zbX (G:=fun l=>XJ am n q F c (.rev a) (.Subscript v (.Slice l none none p') p)) (ar (ar (ar hh))) fun e he=>?_
 refine zci (G:=fun e=>XJ am n q F c (.rev a) (.Subscript v (.Slice (some e) none none p') p)) he fun k pc z_=>?_;exact⟨EJ.both (zoS (Ia _ (al (ar (ar hh)))).1.1) rfl,fun z=>by cases z⟩
theorem zoy {q:Bool}{c:Ck}{a:PE}{lo hi:Option PE}{x:Expr}(Ia:∀ y,ckE c a y=true→XJ am n q F c a y) (Ilo:∀ y,ckO c lo y=true→OptJ am n q F c lo y) (Ihi:∀ y,ckO c hi y=true→OptJ am n q F c hi y) (h:ckE c (.slice a lo hi) x=true):XJ am n q F c (.slice a lo hi) x:=by
 refine zfQ (G:=XJ am n q F c (.slice a lo hi)) h fun v s p hh=>?_;refine zgL (G:=fun s=>XJ am n q F c (.slice a lo hi) (.Subscript v s p)) hh fun l u d p' hh=>?_;refine zdn (G:=fun d=>XJ am n q F c (.slice a lo hi) (.Subscript v (.Slice l u d p') p)) (al hh) ?_;have ha:=(Ia _ (al (ar hh))).1;have hl:=Ilo _ (al (ar (ar hh)));have hu:=Ihi _ (ar (ar (ar hh)));exact⟨EJ.both (FJ.ej (ziH ha.1 hl hu)) rfl,fun z_=>⟨FJ.own (ziH ha.1 hl hu),rfl⟩⟩
theorem zmr {q:Bool}{c:Ck}{a:PE}{ts:List Ty}{x:Expr}(Ia:∀ y,ckE c a y=true→XJ am n q F c a y) (h:ckE c (.isinst a ts) x=true):XJ am n q F c (.isinst a ts) x:=by
 refine zbr (G:=XJ am n q F c (.isinst a ts)) h fun xs p p' hh=>?_;refine zc3 (G:=fun xs=>XJ am n q F c (.isinst a ts) (.Call (.Name "isinstance" p) xs [] p')) hh fun y t hh=>?_;have h1:=al hh;have h2:=al (ar hh);have ha:=(Ia _ h2).1;have h3:=al (ar (ar hh));refine⟨EJ.both ?_ rfl,fun z=>by cases z⟩
 refine zax (G:=fun ts=>ts.all tyPl=true→EJ am n q F c (.isinst a ts) (.Call (.Name "isinstance" p) [y,t] [] p')) (ar (ar (ar hh))) (fun u h4 h3=>?_) h3;exact zlb h1 (al h3) h4 (zbR h2) ha.1
theorem zoA {q:Bool}{c:Ck}{i:Nat}{t:Ty}{x:Expr}  (h:ckE c (.isexc i t) x=true):XJ am n q F c (.isexc i t) x:=by
 refine zbr (G:=XJ am n q F c (.isexc i t)) h fun xs p p' hh=>?_;refine zc3 (G:=fun xs=>XJ am n q F c (.isexc i t) (.Call (.Name "isinstance" p) xs [] p')) hh fun y t' hh=>?_;refine zcu (G:=fun y=>XJ am n q F c (.isexc i t) (.Call (.Name "isinstance" p) [y,t'] [] p')) (al (ar hh)) fun z p2 h2=>?_;exact⟨EJ.both (zmK (al hh) h2 (ar (ar hh))) rfl,fun z=>by cases z⟩
theorem zoE {q:Bool}{c:Ck}{f:String}{i:Nat}{x:Expr}  (h:ckE c (.callX f i) x=true):XJ am n q F c (.callX f i) x:=by
 refine zbr (G:=XJ am n q F c (.callX f i)) h fun xs p p' hh=>?_;refine zax (G:=fun xs=>XJ am n q F c (.callX f i) (.Call (.Name (Str.ofString f) p) xs [] p')) hh fun y hh=>?_;refine zcu (G:=fun y=>XJ am n q F c (.callX f i) (.Call (.Name (Str.ofString f) p) [y] [] p')) (ar (ar hh)) fun z p2 h3=>?_;exact⟨EJ.both (ziO (al hh) (List.contains_iff_mem.mp (al (ar hh))) h3) rfl,fun z=>by cases z⟩
theorem zrx {q:Bool}{c:Ck}{f:Bf}{a:PE}{x:Expr}(Ia:∀ y,ckE c a y=true→XJ am n q F c a y) (h:ckE c (.bf f a) x=true):XJ am n q F c (.bf f a) x:=by
 refine zbr (G:=XJ am n q F c (.bf f a)) h fun xs p p' hh=>?_;refine zax (G:=fun xs=>XJ am n q F c (.bf f a) (.Call (.Name (bfName f) p) xs [] p')) hh fun y hh=>?_;have h1:=al hh;have h2:=ar hh
 by_cases hr:f=.listRev
 ·subst hr
  cases h2
 ·have h2':ckE c a y=true:=by cases f<;>first|exact h2|(exact absurd rfl hr)|(cases h2)
  have ha:=(Ia _ h2').1;refine⟨EJ.both (zrp hr h1 (zbR h2') ha.1) rfl,fun z=>?_⟩
  rcases zmD z with hf|hf
  ·subst hf
   exact⟨FJ.own (zk5 h1 (zbR h2') ha.1),rfl⟩
  ·exact(hr hf).elim
theorem zp5 {q:Bool}{c:Ck}{elt:PE}{i:Nat}{it:PIt}{cond:Option PE}{x:Expr}(Ielt:∀ c y,ckE c elt y=true→XJ am n true F c elt y) (Iit:∀ y,ckIt c it y=true→ItJ am n F c it y) (Icond:∀ c ys,ckC c cond ys=true→CJ am n F c cond ys) (h:ckE c (.comp elt i it cond) x=true):XJ am n q F c (.comp elt i it cond) x:=by
 refine znn (G:=XJ am n q F c (.comp elt i it cond)) h fun e gs sc p hh=>?_;refine zkY (G:=fun gs=>XJ am n q F c (.comp elt i it cond) (.ListComp e gs sc p)) hh fun y iter ifs p' hh=>?_;have f:FJ am n q F c (.comp elt i it cond) (.ListComp e [⟨.Name y p',iter,ifs,0⟩] sc p):=fun {cx ρ A res π Hc s}=>by
  have h1:=al hh;have hh:=ar hh;have h2:=nt (al hh);have hh:=ar hh;have h3:=al hh;have hh:=ar hh;have h4:=al hh;have hh:=ar hh;exact zoQ (q:=q) h2 h3 h4 (fun z_=>Iit _ h1) (fun z_=>(Ielt _ _ (al hh)).1.1) (fun z_=>Icond _ _ (ar hh))
 exact⟨EJ.both (FJ.ej (fun {cx ρ A res π Hc s}=>f)) rfl,fun z_=>⟨FJ.own (fun {cx ρ A res π Hc s}=>f),rfl⟩⟩
theorem zp7 {q:Bool}{c:Ck}{k:Bool}{f:String}{args:List PE}{x:Expr}(Iargs:∀ ys,ckEs c args ys=true→AllJ am n q F c args ys) (h:ckE c (.call k f args) x=true):XJ am n q F c (.call k f args) x:=by
 refine zbr (G:=XJ am n q F c (.call k f args)) h fun xs p p' hh=>?_;have ha:=Iargs _ (al (ar (ar hh)))
 cases xs with
 |nil=>cases args with
  |nil=>exact noB (ar (ar (ar hh)))
  |cons _ _=>exact ha.elim
 |cons y ys=>exact⟨EJ.both (zoW (al hh) (List.contains_iff_mem.mp (al (ar hh))) ha) rfl,fun z=>by cases z⟩
theorem zms {q:Bool}{c:Ck}{o a:PE}{x:Expr}(Io:∀ y,ckE c o y=true→XJ am n q F c o y) (Ia:∀ y,ckE c a y=true→XJ am n q F c a y) (h:ckE c (.append o a) x=true):XJ am n q F c (.append o a) x:=by
 refine zcw (G:=XJ am n q F c (.append o a)) h fun v xs p p' h2 hh=>?_;refine zax (G:=fun xs=>XJ am n q F c (.append o a) (.Call (.Attribute v "append" p) xs [] p')) hh fun y hh=>?_;exact⟨EJ.both (zlc (al hh) h2 (nt (ar (ar (ar hh)))) (Io _ (al (ar hh))).1.1 (Ia _ (al (ar (ar hh)))).1.1) rfl,fun z=>by cases z⟩
theorem zmq {q:Bool}{c:Ck}{o a:PE}{x:Expr}(Io:∀ y,ckE c o y=true→XJ am n q F c o y) (Ia:∀ y,ckE c a y=true→XJ am n q F c a y) (h:ckE c (.remove o a) x=true):XJ am n q F c (.remove o a) x:=by
 refine zcw (G:=XJ am n q F c (.remove o a)) h fun v xs p p' h2 hh=>?_;refine zax (G:=fun xs=>XJ am n q F c (.remove o a) (.Call (.Attribute v "remove" p) xs [] p')) hh fun y hh=>?_;have h3:=ar hh;exact⟨EJ.both (zla (al hh) h2 (nt (ar (ar h3))) (Io _ (al h3)).1.1 (Ia _ (al (ar h3))).1.1) rfl,fun z=>by cases z⟩
theorem zoD {q:Bool}{c:Ck}{o:PE}{x:Expr}(Io:∀ y,ckE c o y=true→XJ am n q F c o y) (h:ckE c (.clear o) x=true):XJ am n q F c (.clear o) x:=by
 refine zcw (G:=XJ am n q F c (.clear o)) h fun v xs p p' h2 hh=>?_;refine zbj (G:=fun xs=>XJ am n q F c (.clear o) (.Call (.Attribute v "clear" p) xs [] p')) (ar (ar hh)) ?_;exact⟨EJ.both (zmN (al hh) h2 (Io _ (al (ar hh))).1.1) rfl,fun z=>by cases z⟩
theorem zoz {q:Bool}{c:Ck}{o a:PE}{x:Expr}(Io:∀ y,ckE c o y=true→XJ am n q F c o y) (Ia:∀ y,ckE c a y=true→XJ am n q F c a y) (h:ckE c (.popAt o a) x=true):XJ am n q F c (.popAt o a) x:=by
 refine zcw (G:=XJ am n q F c (.popAt o a)) h fun v xs p p' h2 hh=>?_;refine zax (G:=fun xs=>XJ am n q F c (.popAt o a) (.Call (.Attribute v "pop" p) xs [] p')) hh fun y hh=>?_;exact⟨EJ.both (zmJ (al hh) h2 (nt (ar (ar (ar hh)))) (Io _ (al (ar hh))).1.1 (Ia _ (al (ar (ar hh)))).1.1) rfl,fun z=>by cases z⟩
theorem zmp {q:Bool}{c:Ck}{o a d:PE}{x:Expr}(Io:∀ y,ckE c o y=true→XJ am n q F c o y) (Ia:∀ y,ckE c a y=true→XJ am n q F c a y) (Id:∀ y,ckE c d y=true→XJ am n q F c d y) (h:ckE c (.setdef o a d) x=true):XJ am n q F c (.setdef o a d) x:=by
 refine zcw (G:=XJ am n q F c (.setdef o a d)) h fun v xs p p' h2 hh=>?_;refine zc3 (G:=fun xs=>XJ am n q F c (.setdef o a d) (.Call (.Attribute v "setdefault" p) xs [] p')) hh fun y z hh=>?_;exact⟨EJ.both (zk9 (al hh) h2 (nt (al (ar (ar (ar (ar hh)))))) (nt (ar (ar (ar (ar (ar hh)))))) (Io _ (al (ar hh))).1.1 (Ia _ (al (ar (ar hh)))).1.1 (Id _ (al (ar (ar (ar hh))))).1.1) rfl,fun z=>by cases z⟩
theorem zre {q:Bool}{c:Ck}{o:PE}{x:Expr}(Io:∀ y,ckE c o y=true→XJ am n q F c o y) (h:ckE c (.pop o) x=true):XJ am n q F c (.pop o) x:=by
 refine zcw (G:=XJ am n q F c (.pop o)) h fun v xs p p' h2 hh=>?_;refine zbj (G:=fun xs=>XJ am n q F c (.pop o) (.Call (.Attribute v "pop" p) xs [] p')) (ar (ar hh)) ?_;exact⟨EJ.both (zqn (al hh) h2 (Io _ (al (ar hh))).1.1) rfl,fun z=>by cases z⟩
theorem zrj {q:Bool}{c:Ck}{o a d:PE}{x:Expr}(Io:∀ y,ckE c o y=true→XJ am n q F c o y) (Ia:∀ y,ckE c a y=true→XJ am n q F c a y) (Id:∀ y,ckE c d y=true→XJ am n q F c d y) (h:ckE c (.get o a d) x=true):XJ am n q F c (.get o a d) x:=by
 refine zcw (G:=XJ am n q F c (.get o a d)) h fun v xs p p' h2 hh=>?_;refine zc3 (G:=fun xs=>XJ am n q F c (.get o a d) (.Call (.Attribute v "get" p) xs [] p')) hh fun y z hh=>?_;exact⟨EJ.both (zqs (al hh) h2 (nt (al (ar (ar (ar (ar hh)))))) (nt (ar (ar (ar (ar (ar hh)))))) (Io _ (al (ar hh))).1.1 (Ia _ (al (ar (ar hh)))).1.1 (Id _ (al (ar (ar (ar hh))))).1.1) rfl,fun z=>by cases z⟩
theorem zoB {q:Bool}{c:Ck}{a b:PE}{x:Expr}(Ia:∀ y,ckE c a y=true→XJ am n q F c a y) (Ib:∀ y,ckE c b y=true→XJ am n q F c b y) (h:ckE c (.dict1 a b) x=true):XJ am n q F c (.dict1 a b) x:=by
 refine zgw (G:=XJ am n q F c (.dict1 a b)) h fun ks vs p hh=>?_;refine zax (G:=fun ks=>XJ am n q F c (.dict1 a b) (.Dict ks vs p)) hh fun k hh=>?_;refine zbX (G:=fun k=>XJ am n q F c (.dict1 a b) (.Dict [k] vs p)) hh fun k hh=>?_;refine zax (G:=fun vs=>XJ am n q F c (.dict1 a b) (.Dict [some k] vs p)) hh fun v hh=>?_;exact⟨EJ.both (zmL (Ia _ (al hh)).1.1 (Ib _ (ar hh)).1.1) rfl,fun z=>by cases z⟩
theorem zkM {q:Bool}{c:Ck}{es:List (PE × PE)}{x:Expr}(h:ckE c (.newDict es) x=true):XJ am n q F c (.newDict es) x:=by
 refine zgw (G:=XJ am n q F c (.newDict es)) h fun ks vs p hh=>?_;refine zbj (G:=fun ks=>XJ am n q F c (.newDict es) (.Dict ks vs p)) (al hh) ?_;refine zbj (G:=fun vs=>XJ am n q F c (.newDict es) (.Dict [] vs p)) (al (ar hh)) ?_;refine zbj (G:=fun es=>XJ am n q F c (.newDict es) (.Dict [] [] p)) (ar (ar hh)) ?_;exact⟨EJ.both zjq rfl,fun z=>by cases z⟩
mutual
theorem zad (q:Bool):∀ (c:Ck) (e:PE) (x:Expr),ckE c e x=true→XJ am n q F c e x
 |c,.none,x,h=>zp2  h
 |c,.bool b,x,h=>zp8  h
 |c,.int i,x,h=>zrh  h
 |c,.str t,x,h=>zrc  h
 |c,.var i,x,h=>zra  h
 |c,.glob g i,x,h=>zp4  h
 |c,.bin op a b,x,h=>zrl (zad q c a) (zad q c b) h
 |c,.neg i,x,h=>zrg  h
 |c,.not a,x,h=>zrf (zad q c a) h
 |c,.and es,x,h=>zrm (zdF q c es) h
 |c,.or es,x,h=>zrw (zdF q c es) h
 |c,.ite ..,x,h=>by cases h
 |c,.cmp op a b,x,h=>zrk (zad q c a) (zad q c b) h
 |c,.cmp2 o1 o2 a b d,x,h=>zp6 (zad q c a) (zad q c b) (zad q c d) h
 |c,.list es,x,h=>zp3 (zdF q c es) h
 |c,.tup es,x,h=>zrb (zdF q c es) h
 |c,.dict0,x,h=>zoC  h
 |c,.idx a i,x,h=>zri (zad q c a) (zad q c i) h
 |c,.slice a lo hi,x,h=>zoy (zad q c a) (znA q c lo) (znA q c hi) h
 |c,.rev a,x,h=>zrd (zad q c a) h
 |c,.isinst a ts,x,h=>zmr (zad q c a) h
 |c,.isexc i t,x,h=>zoA  h
 |c,.callX f i,x,h=>zoE  h
 |c,.bf f a,x,h=>zrx (zad q c a) h
 |c,.join0 ..,x,h=>by cases h
 |c,.comp elt i it cond,x,h=>zp5 (fun c=>zad true c elt) (zh8 c it) (fun c=>znB c cond) h
 |c,.call k f args,x,h=>zp7 (zdF q c args) h
 |c,.own a,x,h=>by
  obtain⟨h0,h⟩:=Bool.and_eq_true_iff.mp h;obtain⟨h1,h2⟩:=(zad q c a x h).2 h0;exact⟨h1.both h2,fun z=>by cases z⟩
 |c,.newDict es,x,h=>zkM h
 |c,.append o a,x,h=>zms (zad q c o) (zad q c a) h
 |c,.extend ..,x,h=>by cases h
 |c,.clear o,x,h=>zoD (zad q c o) h
 |c,.remove o a,x,h=>zmq (zad q c o) (zad q c a) h
 |c,.pop o,x,h=>zre (zad q c o) h
 |c,.popAt o a,x,h=>zoz (zad q c o) (zad q c a) h
 |c,.get o a d,x,h=>zrj (zad q c o) (zad q c a) (zad q c d) h
 |c,.setdef o a d,x,h=>zmp (zad q c o) (zad q c a) (zad q c d) h
 |c,.dict1 a b,x,h=>zoB (zad q c a) (zad q c b) h
theorem zdF (q:Bool):∀ (c:Ck) (es:List PE) (xs:List Expr),ckEs c es xs=true→AllJ am n q F c es xs
 |c,[],xs,h=>zbj (G:=fun xs=>AllJ am n q F c [] xs) h trivial
 |c,e::es,xs,h=>by
  cases xs with
  |nil=>cases h
  |cons x xs =>
   have h:(!isStar x&&(ckE c e x&&ckEs c es xs))=true:=h;exact⟨⟨nt (al h),(zad q c e x (al (ar h))).1⟩,zdF q c es xs (ar (ar h))⟩
theorem znA (q:Bool):∀ (c:Ck) (e:Option PE) (x:Option Expr),ckO c e x=true→OptJ am n q F c e x
 |c,none,x,h=>zdn (G:=fun x=>OptJ am n q F c none x) h trivial
 |c,some e,x,h=>zbX (G:=fun x=>OptJ am n q F c (some e) x) h fun x h=>show EJ am n q F c e x from fun {cx ρ A res π Hc s}=>(zad q c e x h).1.1
theorem znB:∀ (c:Ck) (e:Option PE) (xs:List Expr),ckC c e xs=true→CJ am n F c e xs
 |c,none,xs,h=>zbj (G:=fun xs=>CJ am n F c none xs) h zo4
 |c,some e,xs,h=>zax (G:=fun xs=>CJ am n F c (some e) xs) h fun y h=>zo3 (zad true c e _ h).1.2
theorem zh8:∀ (c:Ck) (it:PIt) (x:Expr),ckIt c it x=true→ItJ am n F c it x
 |c,.seq e,x,h=>by
  have hp:=(zad true c e _ h).1;exact zp9 hp.1
 |c,.range1 a,x,h=>by
  refine zbr (G:=ItJ am n F c (.range1 a)) h fun xs p p' hh=>?_;refine zax (G:=fun xs=>ItJ am n F c (.range1 a) (.Call (.Name "range" p) xs [] p')) hh fun y hh=>?_;have hp:=(zad true c a _ (ar hh)).1;exact fun {cx ρ A res π Hc s}=>zkQ (al hh) (zbR (ar hh)) hp.1
 |c,.range2 ..,x,h=>by cases h
 |c,.range3 a b d,x,h=>by
  refine zbr (G:=ItJ am n F c (.range3 a b d)) h fun xs p p' hh=>?_;refine zjY (G:=fun xs=>ItJ am n F c (.range3 a b d) (.Call (.Name "range" p) xs [] p')) hh fun y z w hh=>?_;have ha:=(zad true c a _ (al (ar hh))).1;have hb:=(zad true c b _ (al (ar (ar hh)))).1;have hd:=(zad true c d _ (ar (ar (ar hh)))).1;have hs:∀ e∈[y,z,w],isStar e=false:=List.forall_mem_cons.mpr ⟨zbR (al (ar hh)),List.forall_mem_cons.mpr ⟨zbR (al (ar (ar hh))),List.forall_mem_cons.mpr ⟨zbR (ar (ar (ar hh))),fun z_ h=>by cases h⟩⟩⟩
  exact fun {cx ρ A res π Hc s}=>zkP (al hh) hs ha.1 hb.1 hd.1
 |c,.enum ..,x,h=>by cases h
end
end
structure Frm (am:Amb) (cx:Cx) (outer:List Env) (s₀:Shared):Prop where
 top:cx.stack=cx.env::outer∧cx.env.frame=some cx.env.locals
 res:cx.env.locals∈am.res
 base:am.B.get? cx.env.locals=none
 fresh:s₀.heap.get? cx.env.locals=none
 cell:∀ y c,cx.env.cells.lookup y=some c→c∈am.res∧am.B.get? c=none∧s₀.heap.get? c=none
theorem Frm.fs {am:Amb}{cx:Cx}{outer:List Env}{s₀:Shared}(f:Frm am cx outer s₀):Fs cx.stack=cx.env.locals::Fs outer:=by
 obtain⟨h1,h2⟩:=f.top;rw[h1];simp[Fs,h2]
theorem Step.inn {am:Amb}{cx:Cx}{outer:List Env}{s₀:Shared}(f:Frm am cx outer s₀){π₀ π π':List Addr}{s s':Shared}(x:Step (Fs outer) π₀ s₀ π s) (y:Step (Fs cx.stack) π s π' s'):Step (Fs outer) π₀ s₀ π' s':=by
 rw[f.fs] at y;refine⟨?_,⟨fun a o e h1 h2=>?_,fun a o e h1=>?_,fun a o e=>?_⟩,?_⟩
 ·obtain⟨h',tk,e⟩:=x.same
  obtain⟨h'',tk',e'⟩:=y.same;exact⟨h'',tk',by rw[e',e]⟩
 ·refine y.ext.keep a o (x.ext.keep a o e h1 h2) (x.notin e h1) ?_
  rw[List.mem_cons,not_or];exact⟨(fun q=>by subst q;rw[f.fresh] at e;cases e),h2⟩
 ·obtain⟨sl,h3⟩:=x.ext.slots a o e h1
  obtain⟨sl',h4⟩:=y.ext.slots a _ h3 (x.notin e h1);exact⟨sl',h4⟩
 ·obtain⟨o',h3⟩:=x.ext.alive a o e
  exact y.ext.alive a o' h3
 ·obtain⟨δ,rfl,hδ⟩:=x.grow
  obtain⟨δ',rfl,hδ'⟩:=y.grow;refine⟨δ++δ',by simp,fun a ha=>?_⟩
  rcases List.mem_append.mp ha with h1|h1
  ·exact hδ a h1
  ·cases hq:s₀.heap.get? a with
   |none=>rfl
   |some o =>
    obtain⟨o',h3⟩:=x.ext.alive a o hq;have:=hδ' a h1;rw[h3] at this;cases this
theorem zcP {am:Amb}{cx:Cx}{outer:List Env}{s₀:Shared}(f:Frm am cx outer s₀){π₀ π:List Addr}{s:Shared}(x:Step (Fs outer) π₀ s₀ π s):(ground outer π₀ s₀.heap).StaysIn (ground cx.stack π s.heap):=by
 intro b o e;have h1:=of_hideAll _ e;have hn:b ∉ π₀++Fs outer:=fun hm=>by rw[hideAll_none _ hm] at e;cases e
 rw[List.mem_append,not_or] at hn;refine hideAll_get _ (x.ext.keep b o h1 hn.1 hn.2) ?_;rw[List.mem_append,not_or,f.fs,List.mem_cons,not_or];exact⟨x.notin h1 hn.1,(fun q=>by subst q;rw[f.fresh] at h1;cases h1),hn.2⟩
noncomputable def FlR (am:Amb) (π:List Addr) (h:Heap):Fl→Flow→Prop
 |.next,f=>f=.next
 |.ret v,f=>∃ x,f=.ret x∧VR am π h v x
inductive SOk (am:Amb) (cx:Cx) (outer:List Env) (q:Bool) (A:Around) (π₀:List Addr) (s₀:Shared) (G:List Addr→Shared→Prop) (r:RS) (f:Flow) (s':Shared):Prop
 |mk (fl:Fl) (ρ':List V) (H':H) (π':List Addr) (h1:r=.ok fl ρ' H') (h2:Step (Fs outer) π₀ s₀ π' s') (h3:St am q cx ρ' π' H' A s') (h4:q=true→NoExc ρ') (h5:FlR am π' s'.heap fl f) (h6:G π' s')
inductive SEr (am:Amb) (cx:Cx) (outer:List Env) (q:Bool) (A:Around) (π₀:List Addr) (s₀:Shared) (r:RS) (x:Value) (s':Shared):Prop
 |mk (c:String) (ρ':List V) (H':H) (π':List Addr) (e C:Addr) (fl:Option Value) (h1:r=.err c ρ' H') (h2:x=.ref e) (h3:am.mg (Str.ofString c)=some (.ref C)) (h4:Step (Fs outer) π₀ s₀ π' s') (h5:St am q cx ρ' π' H' A s') (h6:q=true→NoExc ρ') (h7:XAt (ground outer π₀ s₀.heap) s'.heap e (.ref C) fl)
noncomputable def SP (am:Amb) (cx:Cx) (outer:List Env) (q:Bool) (A:Around) (π₀:List Addr) (s₀:Shared) (G:List Addr→Shared→Prop) (T:PT Flow) (r:RS) (s:Shared):Prop :=
 r=.bad∨T (SOk am cx outer q A π₀ s₀ G r) (SEr am cx outer q A π₀ s₀ r) s
section
variable {am:Amb}{n:Nat}{q:Bool}{F:Fn}{c:Ck}{cx:Cx}{ρ:List V}{A:Around}{res:List Addr}{outer:List Env}{π₀:List Addr}{s₀:Shared}{G:List Addr→Shared→Prop}{π:List Addr}{Hc:H}{s:Shared}
structure Stm (am:Amb) (n:Nat) (q:Bool) (F:Fn) (c:Ck) (cx:Cx) (A:Around) (res:List Addr) (outer:List Env) (π₀:List Addr) (s₀:Shared) (G:List Addr→Shared→Prop) (ρ:List V) (π:List Addr) (Hc:H) (s:Shared):Prop where
 b:Base am n q F c cx ρ A
 f:Frm (am.at res) cx outer s₀
 go:Step (Fs outer) π₀ s₀ π s
 st:St (am.at res) q cx ρ π Hc A s
 low:am.B.StaysIn (ground outer π₀ s₀.heap)
 g:G π s
 gk:∀ π s π' s',G π s→Mv res (Fs cx.stack) π s π' s'→G π' s'
theorem Base.set {ρ':List V}(b:Base am n q F c cx ρ A) (h:q=true→NoExc ρ'):Base am n q F c cx ρ' A:=⟨b.ok,b.fn,b.ck,b.cxk,b.as,h⟩
theorem Stm.step (x:Stm am n q F c cx A res outer π₀ s₀ G ρ π Hc s){π':List Addr}{H':H}{s':Shared}(y:Step (Fs cx.stack) π s π' s') (hr:HR (am.at res) cx.stack π' H' s'.heap):Stm am n q F c cx A res outer π₀ s₀ G ρ π' H' s' :=
 ⟨x.b,x.f,x.go.inn x.f y,x.st.step y hr,x.low,x.gk _ _ _ _ x.g (.of y),x.gk⟩
theorem sbindT {α β:Type}{T0:PT α}(hT0:PT.Mono T0){r:R β}{Rel:List Addr→Heap→β→α→Prop}{g:β→H→RS}{T:α→PT Flow}(x:Stm am n q F c cx A res outer π₀ s₀ G ρ π Hc s) (h1:JT (am.at res) cx.stack T0 r Rel π s)
  (h2:∀ a b H' π' s',r=.ok b H'→Stm am n q F c cx A res outer π₀ s₀ G ρ π' H' s'→Rel π' s'.heap b a→SP (am.at res) cx outer q A π₀ s₀ G (T a) (g b H') s') :
  SP (am.at res) cx outer q A π₀ s₀ G (fun Q E s=>T0 (fun a s₁=>T a Q E s₁) E s) (r.st ρ g) s:=by
 rcases h1 with rfl|h1
 ·exact .inl rfl
 ·cases r with
  |bad=>exact .inl rfl
  |err d H' =>
   refine .inr (hT0 _ _ _ _ _ (fun a s' h=>?_) (fun e s' h=>?_) h1)
   ·obtain⟨_,_,_,h,_⟩:=h;cases h
   ·refine hold fun z_ k_=>?_
    obtain⟨c',H'',π',e',C,fl,h,h2,h3,h4,h5,h6⟩:=h;refine k_ ?_
    cases h
    have y:=x.step h4 h5;exact⟨d,ρ,H',π',e',C,fl,rfl,h2,h3,y.go,y.st,x.b.ne,h6.mono (zcP x.f x.go)⟩
  |ok b H' =>
   by_cases hb:g b H'=.bad
   ·exact .inl hb
   ·refine .inr (hT0 _ _ _ _ _ (fun a s' h=>?_) (fun e s' h=>?_) h1)
    ·refine hold fun z_ k_=>?_
     obtain⟨b',H'',π',h,h3,h4,h5⟩:=h;refine k_ ?_
     cases h
     rcases h2 a b H' π' s' rfl (x.step h3 h4) h5 with h6|h6
     ·exact absurd h6 hb
     ·exact h6
    ·obtain⟨_,_,_,_,_,_,h,_⟩:=h;cases h
theorem sbind {α β:Type}{m:Sem α}{r:R β}{Rel:List Addr→Heap→β→α→Prop}{g:β→H→RS}{T:α→PT Flow}(x:Stm am n q F c cx A res outer π₀ s₀ G ρ π Hc s) (h1:JAt (am.at res) cx.stack A m r Rel π s)
  (h2:∀ a b H' π' s',r=.ok b H'→Stm am n q F c cx A res outer π₀ s₀ G ρ π' H' s'→Rel π' s'.heap b a→SP (am.at res) cx outer q A π₀ s₀ G (T a) (g b H') s') :
  SP (am.at res) cx outer q A π₀ s₀ G (fun Q E s=>wpAny am.M A m (fun a s₁=>T a Q E s₁) E s) (r.st ρ g) s :=
 sbindT (PT.wp _ _) x h1 h2
theorem SP.rule {T T':PT Flow}{r:RS}{am:Amb}(h:SP am cx outer q A π₀ s₀ G T r s) (k:∀ Q E,T Q E s→T' Q E s):SP am cx outer q A π₀ s₀ G T' r s:=by
 rcases h with h|h
 ·exact .inl h
 ·exact .inr (k _ _ h)
theorem ER.setLocal {am:Amb}{cx:Cx}{ρ:List V}{π:List Addr}{h h':Heap}{v:Str}{i:Nat}{w:V}{xo:Option Value}{m:Str→Option Value}(er:ER am cx ρ π h) (hm:h.Ns cx.env.locals m) (hn':h'.Ns cx.env.locals (fun y=>if y=v then xo else m y)) (p:Poke cx.env.locals h h') (hres:cx.env.locals∈am.res)
  (hv:cx.ctx.lookup v=some i) (hkl:cx.env.kindOf v=some .local) (uniq:∀ z,cx.ctx.lookup z=some i→z=v) (hw:w≠.undef→∃ xv,xo=some xv∧SR am π h' w xv):ER am cx (ρ.set i w) π h':=by
 have hlt:∀ u,(ρ.set i w)[i]?=some u→u=w:=fun u hu=>by
  have hl:i < ρ.length:=by have:=(List.getElem?_eq_some_iff.mp hu).1;simpa using this
  rw[List.getElem?_set_self hl] at hu;cases hu;rfl
 refine⟨⟨_,hn'⟩,er.locOff,fun z d hd=>?_,er.apart,fun z j u e1 e2 e3 e4=>?_⟩
 ·refine hold fun z_ k_=>?_
  obtain⟨a1,a2,u,o,ho,r⟩:=er.cellOff z d hd;refine k_ ?_;exact⟨a1,a2,u,o,p d o a2 ho,r⟩
 ·by_cases hj:j=i
  ·subst hj
   have:=uniq z e1;subst this;have:=hlt u e2;subst this;obtain⟨xv,rfl,hs⟩:=hw e3;exact⟨xv,.inl ⟨hkl,_,hn',by simp⟩,hs⟩
  ·have hz:z≠v:=fun q=>by subst q;rw[hv] at e1;cases e1;exact hj rfl
   rw[List.getElem?_set_ne (Ne.symm hj)] at e2;obtain⟨x',e5,e6⟩:=er.var z j u e1 e2 e3 e4;refine⟨x',?_,?_⟩
   ·rcases e5 with⟨k,m',e7,e8⟩|⟨k,d,e7,o,ho,r⟩
    ·refine .inl ⟨k,_,hn',?_⟩
     have hmm:m z=m' z:=by
      refine hold fun z_ k_=>?_;obtain⟨o1,es1,ep1,a1,a2,a3,a4⟩:=hm;refine k_ ?_;refine hold fun z_ k_=>?_;obtain⟨o2,es2,ep2,b1,b2,b3,b4⟩:=e7;refine k_ ?_;rw[a1] at b1;cases b1;rw[a2] at b2;cases b2
      rw[←a4 z,← b4 z]
     simp only[hz,if_false];rw[hmm];exact e8
    ·exact .inr ⟨k,d,e7,o,p d o (er.cellOff z d e7).2.1 ho,r⟩
   ·rcases e6 with e6|⟨d,a,f1,f2,f3,C',o,vs,g1,g2,g3,g4,g5⟩
    ·exact .inl (e6.free fun b o hb z=>p b o (fun q=>hb (q ▸ hres)) z)
    ·exact .inr ⟨d,a,f1,f2,f3,C',o,vs,g1,p a o (fun q=>(zhQ (Ns.nf hm) g2 g4) q.symm) g2,g3,g4,g5⟩
theorem ziv {c:Ck}{cx:Cx}{v:Str}{i:Nat}(ck:CkR am c cx) (h1:c.ctx.lookup v=some i) (hinj:(c.ctx.map (·.2)).Nodup):∀ z,cx.ctx.lookup z=some i→z=v:=by
 intro z hz;rw[ck.ctx] at hz;have a1:=za7 hz;have a2:=za7 h1;have:∀ (l:List (Str × Nat)),(l.map (·.2)).Nodup→(z,i)∈l→(v,i)∈l→z=v:=by
  intro l
  induction l with
  |nil=>intro _ h _;simp at h
  |cons p l ih =>
   intro hn hz hy;rw[List.map_cons,List.nodup_cons] at hn
   rcases List.mem_cons.mp hz with hz1|hz2
   ·rcases List.mem_cons.mp hy with hy1|hy2
    ·rw[←hz1] at hy1;cases hy1;rfl
    ·exact absurd (List.mem_map.mpr ⟨(v,i),hy2,by rw[←hz1]⟩:p.2∈l.map (·.2)) hn.1
   ·rcases List.mem_cons.mp hy with hy1|hy2
    ·exact absurd (List.mem_map.mpr ⟨(z,i),hz2,by rw[←hy1]⟩:p.2∈l.map (·.2)) hn.1
    ·exact ih hn.2 hz2 hy2
 exact this _ hinj a1 a2
set_option tactic.hygienic true in
theorem zds (x:Stm am n q F c cx A res outer π₀ s₀ G ρ π Hc s){y:Str}{i:Nat}{v:V}{xv:Value}(hv:VR (am.at res) π s.heap v xv) (hy:c.var y i=true) (hk:c.names.lookup y≠some .free) (hinj:(c.ctx.map (·.2)).Nodup){Q:Unit→Shared→Prop}{E:Value→Shared→Prop}
  (h:∀ s',Stm am n q F c cx A res outer π₀ s₀ G (ρ.set i v) π Hc s'→(∀ C,s₀.heap.get? C=none→C≠cx.env.locals→(∀ z d,cx.env.cells.lookup z=some d→d≠C)→∀ o,s.heap.get? C=some o→s'.heap.get? C=some o)→(∀ b o,b ∉ (am.at res).res→s.heap.get? b=some o→s'.heap.get? b=some o)→Q () s') :
  wpAny am.M A (storeName cx.env y xv) Q E s:=by
 unfold Ck.var at hy;simp only[Bool.and_eq_true,beq_iff_eq,Bool.not_eq_true'] at hy;refine hold fun z_ k_=>?_;obtain⟨⟨⟨h1,h2⟩,h3⟩,h4⟩:=hy;refine k_ ?_;have ne':q=true→NoExc (ρ.set i v):=fun hq=>(x.b.ne hq).set hv.noexc;have uniq:=ziv x.b.ck h1 hinj;have excOff:∀ {d:String}{a C:Addr}{h':Heap},ExcAt (am.at res) s.heap d a→(∃ o,s.heap.get? C=some o∧∀ us,o.data≠.fields us)→Poke C s.heap h'→ExcAt (am.at res) h' d a:=by
  intro d a C h' e hC p;refine hold fun z_ k_=>?_;obtain⟨C',o,vs,e1,e2,e3,e4,e5,e6⟩:=e;refine k_ ?_;exact⟨C',o,vs,e1,p a o (fun q=>(zhQ hC e2 e4) q.symm) e2,e3,e4,e5,e6⟩
 have hdOff:∀ {C:Addr}{h':Heap},(∃ o,s.heap.get? C=some o∧∀ us,o.data≠.fields us)→Poke C s.heap h'→Hd q A π (Fs cx.stack) h':=by
  intro C h' hC p;have e:=x.st.hd;unfold Hd at e ⊢
  split
  ·rename_i hq;rw[if_pos hq] at e;exact e
  ·rename_i hq
   rw[if_neg hq] at e;refine hold fun z_ k_=>?_;obtain⟨he,o,vs,e1,e2,e3,e4,e5,e6⟩:=e;refine k_ ?_;exact⟨he,o,vs,e1,e2,e3,p he o (fun q=>(zhQ hC e4 e5) q.symm) e4,e5,e6⟩
 have main:∀ (C:Addr) (h':Heap) (tk:Nat),C∈(am.at res).res→(am.at res).B.get? C=none→C ∉ π→s₀.heap.get? C=none→(∃ o,s.heap.get? C=some o∧∀ us,o.data≠.fields us)→(∃ o,h'.get? C=some o∧∀ us,o.data≠.fields us)→Poke C s.heap h' →
   ER (am.at res) cx (ρ.set i v) π h'→Stm am n q F c cx A res outer π₀ s₀ G (ρ.set i v) π Hc { s with heap:=h',toks:=tk }:=by
  intro C h' tk c1 c2 c3 c4 c5 c6 p er;exact⟨x.b.set ne',x.f,x.go.poke c4 p,⟨x.st.hr.freed c1 c2 c3 p c6,er,hdOff c5 p⟩,x.low,x.gk _ _ _ _ x.g (Mv.poke (.of (Step.refl _ _ _)) (.inl ⟨c1,let ⟨o,ho,_⟩:=c6;⟨o,ho⟩⟩) p),x.gk⟩
 have srOff:∀ {C:Addr}{h':Heap}{w:V}{u:Value},C∈(am.at res).res→(∃ o,s.heap.get? C=some o∧∀ us,o.data≠.fields us)→Poke C s.heap h'→SR (am.at res) π s.heap w u→SR (am.at res) π h' w u:=by
  intro C h' w u c1 c5 p e
  rcases e with e|⟨d,a,e1,e2,e3,e4⟩
  ·exact .inl (e.free fun b o hb z=>p b o (fun q=>hb (q ▸ c1)) z)
  ·exact .inr ⟨d,a,e1,e2,e3,excOff e4 c5 p⟩
 have hvis:cx.env.kindOf y=some .local∨cx.env.kindOf y=some .cell:=by
  rw[zeH x.b.ck];unfold zhu at h2;simp only[Bool.or_eq_true,beq_iff_eq] at h2
  rcases h2 with(h2|h2)|h2
  ·exact .inl h2
  ·exact .inr h2
  ·exact absurd h2 hk
 have hlt:∀ w,(ρ.set i v)[i]?=some w→w=v:=fun w hw=>by
  have hl:i < ρ.length:=by have:=(List.getElem?_eq_some_iff.mp hw).1;simpa using this
  rw[List.getElem?_set_self hl] at hw;cases hw;rfl
 have er:=x.st.er
 rcases hvis with hkl|hkc
 ·obtain⟨m,hm⟩:=er.ns
  refine wpAny_storeName_local hkl hm (fun h' hn' sb=>?_) (by simp[x.b.cxk.kind])
  have p:Poke cx.env.locals s.heap h':=fun b o hb e=>sb.extBut b o hb e;exact h _ (main cx.env.locals h' (s.toks+1) x.f.res x.f.base er.locOff x.f.fresh (Ns.nf hm) (Ns.nf hn') p (ER.setLocal (am:=am.at res) er hm hn' p x.f.res (by rw[x.b.ck.ctx];exact h1) hkl uniq fun z_=>⟨xv,rfl,.inl (hv.free fun b o hb z=>p b o (fun q=>hb (q ▸ x.f.res)) z)⟩)) (fun C z_ hC z_ o ho=>p C o hC ho) (fun b o hb e=>p b o (fun q=>hb (q ▸ x.f.res)) e)
 ·obtain⟨d,hd⟩:=x.b.cxk.clos y (.inl hkc)
  refine hold fun z_ k_=>?_;obtain⟨a1,a2,u,hcell⟩:=er.cellOff y d hd;refine k_ ?_;obtain⟨f1,f2,f3⟩:=x.f.cell y d hd;have nfc:∀ {h:Heap}{u:Option Value},h.IsCell d u→∃ o,h.get? d=some o∧∀ us,o.data≠.fields us:=fun {h u} hc=>let ⟨o,ho,hdd⟩:=hc;⟨o,ho,fun us q=>by rw[hdd] at q;cases q⟩
  refine wpAny_storeName_cell x.b.cxk.kind hkc hd hcell fun h' hc' sb=>?_;have p:Poke d s.heap h':=fun b o hb e=>sb.extBut b o hb e;refine h _ (main d h' s.toks f1 f2 a1 f3 (nfc hcell) (nfc hc') p ?_) (fun C z_ z_ hC o ho=>p C o (fun q=>hC y d hd q.symm) ho) (fun b o hb e=>p b o (fun q=>hb (q ▸ f1)) e);obtain⟨m,hm⟩:=er.ns;refine⟨⟨m,Ns.at hm fun o e=>p _ o (Ne.symm a2) e⟩,er.locOff,fun z d' hd'=>?_,er.apart,fun z j w e1 e2 e3 e4=>?_⟩
  ·refine hold fun z_ k_=>?_
   obtain⟨b1,b2,u',o,ho,r⟩:=er.cellOff z d' hd';refine k_ ?_
   by_cases hdd:d'=d
   ·subst hdd;exact⟨b1,b2,_,hc'⟩
   ·exact⟨b1,b2,u',o,p d' o hdd ho,r⟩
  ·by_cases hj:j=i
   ·subst hj
    have:=uniq z e1;subst this;have:=hlt w e2;subst this;exact⟨xv,.inr ⟨.inl hkc,d,hd,hc'⟩,.inl (hv.free fun b o hb z=>p b o (fun q=>hb (q ▸ f1)) z)⟩
   ·have hz:z≠y:=fun q=>by
     subst q;rw[x.b.ck.ctx,h1] at e1;cases e1;exact hj rfl
    rw[List.getElem?_set_ne (Ne.symm hj)] at e2;obtain⟨u',e5,e6⟩:=er.var z j w e1 e2 e3 e4;refine⟨u',?_,srOff f1 (nfc hcell) p e6⟩
    rcases e5 with⟨k,m',e7,e8⟩|⟨k,d',e7,o,ho,r⟩
    ·exact .inl ⟨k,m',Ns.at e7 fun o e=>p _ o (Ne.symm a2) e,e8⟩
    ·have hdd:d'≠d:=fun q=>hz (er.apart z y d (q ▸ e7) hd)
     exact .inr ⟨k,d',e7,o,p d' o hdd ho,r⟩
end
theorem zjN {am am':Amb}(k:∀ a,a∈am'.res→a∈am.res){π:List Addr}{h:Heap}:Via am am' π π h h:=⟨fun a o ho z_ h1 h2=>⟨⟨o.slots,ho⟩,h1,fun q=>h2 (k a q)⟩,fun z_ z_ e=>e⟩
theorem VR.sub {am am':Amb}(k:∀ a,a∈am'.res→a∈am.res){π:List Addr}{h:Heap}{v:V}{y:Value}(e:VR am π h v y):VR am' π h v y:=e.via (zjN k)
theorem VRs.sub {am am':Amb}(k:∀ a,a∈am'.res→a∈am.res){π:List Addr}{h:Heap}{vs:List V}{ys:List Value}(e:VRs am π h vs ys):VRs am' π h vs ys:=e.via (zjN k)
theorem HR.sub {am:Amb}{r r':List Addr}(k:∀ a,a∈r'→a∈r){stack:List Env}{π:List Addr}{Hc:H}{h:Heap}(x:HR (am.at r) stack π Hc h):HR (am.at r') stack π Hc h :=
 ⟨x.base,x.frames,x.len,x.nodup,fun a ha=>x.res a (k a ha),x.off,fun i c a h1 h2=>by
  obtain⟨o,xs,e0,e1,e2,e3⟩:=x.cell i c a h1 h2;exact⟨o,xs,e0,e1,e2,e3.sub k⟩⟩
section
variable {am:Amb}{n:Nat}{q:Bool}{F:Fn}{c:Ck}
noncomputable def SJ (am:Amb) (n:Nat) (q:Bool) (F:Fn) (c:Ck) (p:PS) (x:Stmt):Prop:=∀ ⦃cx:Cx⦄ ⦃ρ:List V⦄ ⦃A:Around⦄ ⦃res:List Addr⦄ ⦃outer:List Env⦄ ⦃π₀:List Addr⦄ ⦃s₀:Shared⦄ ⦃G:List Addr→Shared→Prop⦄ ⦃π:List Addr⦄ ⦃Hc:H⦄ ⦃s:Shared⦄,
 Stm am n q F c cx A res outer π₀ s₀ G ρ π Hc s→SP (am.at res) cx outer q A π₀ s₀ G (fun Q E s=>wpAny am.M A (exec x cx.env) Q E s) (exS q F p ρ Hc) s
noncomputable def SsJ (am:Amb) (n:Nat) (q:Bool) (F:Fn) (c:Ck) (ps:List PS) (xs:List Stmt):Prop:=∀ ⦃cx:Cx⦄ ⦃ρ:List V⦄ ⦃A:Around⦄ ⦃res:List Addr⦄ ⦃outer:List Env⦄ ⦃π₀:List Addr⦄ ⦃s₀:Shared⦄ ⦃G:List Addr→Shared→Prop⦄ ⦃π:List Addr⦄ ⦃Hc:H⦄ ⦃s:Shared⦄,
 Stm am n q F c cx A res outer π₀ s₀ G ρ π Hc s→SP (am.at res) cx outer q A π₀ s₀ G (fun Q E s=>wpAny am.M A (execs xs cx.env) Q E s) (exSs q F ps ρ Hc) s
theorem SOk.here {cx:Cx}{ρ:List V}{A:Around}{res:List Addr}{outer:List Env}{π₀:List Addr}{s₀:Shared}{G:List Addr→Shared→Prop}{π:List Addr}{Hc:H}{s:Shared}(x:Stm am n q F c cx A res outer π₀ s₀ G ρ π Hc s):SOk (am.at res) cx outer q A π₀ s₀ G (.ok .next ρ Hc) .next s :=
 ⟨.next,ρ,Hc,π,rfl,x.go,x.st,x.b.ne,rfl,x.g⟩
theorem znc:SsJ am n q F c [] []:=fun cx ρ A res outer π₀ s₀ G π Hc s x=>by
 simp only[zpB,zod];exact .inr (wpAny_execs_nil (SOk.here x))
theorem zj6 {p:PS}{ps:List PS}{y:Stmt}{ys:List Stmt}{cx:Cx}{ρ:List V}{A:Around}{res:List Addr}{outer:List Env}{π₀:List Addr}{s₀:Shared}{G:List Addr→Shared→Prop}{π:List Addr}{Hc:H}{s:Shared}(x:Stm am n q F c cx A res outer π₀ s₀ G ρ π Hc s)
  (h1:SP (am.at res) cx outer q A π₀ s₀ G (fun Q E s=>wpAny am.M A (exec y cx.env) Q E s) (exS q F p ρ Hc) s)
  (h2:∀ ρ' π' H' s',Stm am n q F c cx A res outer π₀ s₀ G ρ' π' H' s'→SP (am.at res) cx outer q A π₀ s₀ G (fun Q E s=>wpAny am.M A (execs ys cx.env) Q E s) (exSs q F ps ρ' H') s') :
  SP (am.at res) cx outer q A π₀ s₀ G (fun Q E s=>wpAny am.M A (execs (y::ys) cx.env) Q E s) (exSs q F (p::ps) ρ Hc) s:=by
 rw[zod]
 rcases h1 with h|h
 ·exact .inl (by rw[h];rfl)
 ·cases hr:exS q F p ρ Hc with
  |bad=>exact .inl rfl
  |err d ρ' H' =>
   rw[hr] at h;refine .inr (wpAny_execs_cons (wpAny_mono h (fun f s' z=>?_) fun e s' z=>z));obtain⟨_,_,_,_,z,_⟩:=z;cases z
  |ok fl ρ' H' =>
   rw[hr] at h
   cases fl with
   |ret v =>
    refine .inr (wpAny_execs_cons (wpAny_mono h (fun f s' z=>?_) fun e s' z=>z));refine hold fun z_ k_=>?_;obtain⟨fl,ρ2,H2,π2,z1,z2,z3,z4,z5,zg⟩:=z;refine k_ ?_
    cases z1
    obtain⟨xv,rfl,z6⟩:=z5;exact⟨_,_,_,_,rfl,z2,z3,z4,⟨xv,rfl,z6⟩,zg⟩
   |next =>
    rw[RS.then_next]
    by_cases hb:exSs q F ps ρ' H'=.bad
    ·exact .inl hb
    ·refine .inr (wpAny_execs_cons (wpAny_mono h (fun f s' z=>?_) fun e s' z=>?_))
     ·refine hold fun z_ k_=>?_
      obtain⟨fl,ρ2,H2,π2,z1,z2,z3,z4,z5,zg⟩:=z;refine k_ ?_
      cases z1
      cases z5
      rcases h2 ρ' π2 H' s' ⟨x.b.set z4,x.f,z2,z3,x.low,zg,x.gk⟩ with h3|h3
      ·exact absurd h3 hb
      ·exact h3
     ·obtain⟨_,_,_,_,_,_,_,z,_⟩:=z;cases z
theorem znV {p:PS}{ps:List PS}{y:Stmt}{ys:List Stmt}(h1:SJ am n q F c p y) (h2:SsJ am n q F c ps ys):SsJ am n q F c (p::ps) (y::ys):=fun cx ρ A res outer π₀ s₀ G π Hc s x=>zj6 x (h1 x) fun z_ z_ z_ z_ x'=>h2 x'
theorem zpu {p:Pos}:SJ am n q F c .pass (.Pass p):=fun cx ρ A res outer π₀ s₀ G π Hc s x=>by
 simp only[zl4,zkg,zl3,zjA,zl2,zjz,zl1,zl0,zlZ,zdY,zfZ,zev,zfY,zfX];exact .inr (wpAny_Pass (SOk.here x))
theorem zqU {e:PE}{y:Expr}{p:Pos}(h:EJ am n q F c e y):SJ am n q F c (.ret e) (.Return (some y) p):=fun cx ρ A res outer π₀ s₀ G π Hc s x=>by
 simp only[zl4,zkg,zl3,zjA,zl2,zjz,zl1,zl0,zlZ,zdY,zfZ,zev,zfY,zfX];refine SP.rule (T:=fun Q E s=>wpAny am.M A (eval y cx.env) (fun v s₁=>Q (.ret v) s₁) E s) (sbind x (h x.b x.st) fun a b H' π' s' z_ x' hv=>.inr ⟨.ret b,ρ,H',π',rfl,x'.go,x'.st,x'.b.ne,⟨a,rfl,hv⟩,x'.g⟩) fun Q E h=>wpAny_Return_some h
theorem zrt {t:PE}{a b:List PS}{y:Expr}{ys zs:List Stmt}{p:Pos}(ht:TJ am n q F c t y) (ha:SsJ am n q F c a ys) (hb:SsJ am n q F c b zs):SJ am n q F c (.ifs t a b) (.If y ys zs p):=fun cx ρ A res outer π₀ s₀ G π Hc s x=>by
 have e:exS q F (.ifs t a b) ρ Hc=(tr (evE q F ρ t Hc)).st ρ fun v h=>if v then exSs q F a ρ h else exSs q F b ρ h:=by
  simp only[zl4,zkg,zl3,zjA,zl2,zjz,zl1,zl0,zlZ,zdY,zfZ,zev,zfY,zfX]
  cases evE q F ρ t Hc with
  |ok v h =>
   simp only[tr,R.bind_ok,R.st_ok]
   cases truthy v with
   |none=>rfl
   |some u=>cases u<;>rfl
  |_=>rfl
 rw[e];refine SP.rule (T:=fun Q E s=>wpAny am.M A (isTrue y cx.env (eval y cx.env)) (fun v s₁=>if v then wpAny am.M A (execs ys cx.env) Q E s₁ else wpAny am.M A (execs zs cx.env) Q E s₁) E s) (sbind x (ht x.b x.st) fun v b' H' π' s' z_ x' hv=>?_) fun Q E h=>wpAny_If h;unfold BR at hv;subst hv
 cases b' with
 |true=>exact ha x'
 |false=>exact hb x'
theorem zez {cx:Cx}(h:CxOK cx):interactive cx.env=false:=by
 unfold interactive;simp[h.kind]
noncomputable def isCall (e:Expr):Bool:=@Expr.casesOn (fun z_=>Bool) e (fun z_ z_ z_=>false) (fun z_ z_ z_=>false) (fun z_ z_ z_ z_=>false) (fun z_ z_ z_=>false) (fun z_ z_ z_ z_=>false) (fun z_ z_ z_ z_=>false) (fun z_ z_ z_=>false) (fun z_ z_ z_=>false) (fun z_ z_ z_ z_=>false) (fun z_ z_ z_ z_=>false) (fun z_ z_ z_ z_ z_=>false) (fun z_ z_ z_ z_=>false) (fun z_ z_=>false) (fun z_ z_=>false) (fun z_ z_=>false) (fun z_ z_ z_ z_=>false) (fun z_ z_ z_ z_=>true) (fun z_ z_ z_ z_=>false) (fun z_ z_=>false) (fun z_ z_ z_=>false) (fun z_ z_ z_=>false) (fun z_ z_ z_=>false) (fun z_ z_=>false) (fun z_ z_=>false) (fun z_ z_=>false) (fun z_ z_ z_=>false) (fun z_ z_ z_ z_=>false)
theorem zpw {e:PE}{y:Expr}{p:Pos}(hc:isCall y=true) (h:EJ am n q F c e y):SJ am n q F c (.expr e) (.Expr y p):=fun cx ρ A res outer π₀ s₀ G π Hc s x=>by
 simp only[zl4,zkg,zl3,zjA,zl2,zjz,zl1,zl0,zlZ,zdY,zfZ,zev,zfY,zfX];exact SP.rule (T:=fun Q E s=>wpAny am.M A (eval y cx.env) (fun z_ s₁=>Q .next s₁) E s) (sbind x (h x.b x.st) fun a b H' π' s' z_ x' hv=>.inr (SOk.here x')) fun Q E h=>wpAny_Expr_any h (zez x.b.cxk) (by cases y<;>first|rfl|exact noB hc)
noncomputable def isComp (e:Expr):Bool:=@Expr.casesOn (fun z_=>Bool) e (fun z_ z_ z_=>false) (fun z_ z_ z_=>false) (fun z_ z_ z_ z_=>false) (fun z_ z_ z_=>false) (fun z_ z_ z_ z_=>false) (fun z_ z_ z_ z_=>false) (fun z_ z_ z_=>false) (fun z_ z_ z_=>false) (fun z_ z_ z_ z_=>true) (fun z_ z_ z_ z_=>true) (fun z_ z_ z_ z_ z_=>true) (fun z_ z_ z_ z_=>false) (fun z_ z_=>false) (fun z_ z_=>false) (fun z_ z_=>false) (fun z_ z_ z_ z_=>false) (fun z_ z_ z_ z_=>false) (fun z_ z_ z_ z_=>false) (fun z_ z_=>false) (fun z_ z_ z_=>false) (fun z_ z_ z_=>false) (fun z_ z_ z_=>false) (fun z_ z_=>false) (fun z_ z_=>false) (fun z_ z_=>false) (fun z_ z_ z_=>false) (fun z_ z_ z_ z_=>false)
theorem zc4 {y:Expr}(h:isComp y=false) (t:Option Expr) (l:Nat) (env:Env):swapsWith y t l env=pure false:=by
 cases y<;>first|rfl|exact noB h.symm
theorem zet {i:Nat}{e:PE}{y:Expr}{v:Str}{p p':Pos}(hv:c.var v i=true) (hk:c.names.lookup v≠some .free) (hinj:(c.ctx.map (·.2)).Nodup) (h:EJ am n q F c e y)
  {cx:Cx}{ρ:List V}{A:Around}{res:List Addr}{outer:List Env}{π₀:List Addr}{s₀:Shared}{G:List Addr→Shared→Prop}{π:List Addr}{Hc:H}{s:Shared}(x:Stm am n q F c cx A res outer π₀ s₀ G ρ π Hc s) (hs:swapsWith y (some (.Name v p')) p.line cx.env=pure false) :
  SP (am.at res) cx outer q A π₀ s₀ G (fun Q E s=>wpAny am.M A (exec (.Assign [.Name v p'] y p) cx.env) Q E s) (exS q F (.asg i e) ρ Hc) s:=by
 simp only[zl4,zkg,zl3,zjA,zl2,zjz,zl1,zl0,zlZ,zdY,zfZ,zev,zfY,zfX];refine SP.rule (T:=fun Q E s=>wpAny am.M A (eval y cx.env) (fun w s₁=>wpAny am.M A (storeName cx.env v w) (fun z_=>Q .next) E s₁) E s) (sbind x (h x.b x.st) fun a b H' π' s' z_ x' hw=>?_) fun Q E h=>wpAny_Assign_Name h hs;exact .inr (zds x' hw hv hk hinj fun s'' x'' z_ z_=>SOk.here x'')
end
section
variable {am:Amb}{A:Around}{s:Shared}
theorem zlQ {l:Addr}{xs:List Value}{k:Int}{t:Tok}{j:Nat}{v:Value}{Q:Unit→Shared→Prop}{E:Value→Shared→Prop}(pl:PL s.heap l xs) (hz:xs.length≤1000000) (hj:place xs.length k=some j)
  (h:Q () { s with heap:=s.heap.update l (Obj.mapSeq (·.setIfInBounds j v)) }):wpAny am.M A (setItem (.ref l) (.int k t) v) Q E s:=by
 refine hold fun z_ k_=>?_;obtain⟨o,n,ho,_,_,hd⟩:=id pl;obtain⟨h1,h2⟩:=zd2 hj;refine k_ ?_;have hl:=pl.is.typeIs;have hx:(List.toArray xs)[j]?=some xs[j]:=by simp[h1]
 unfold setItem;refine wpAny_holding ?_;refine wpAny_bind (wpAny_sequenceKey hl (by decide) ?_)
 refine wpAny_bind (wpAny_callSpecial?_slot (name:=Str.ofString "__setitem__") hl slot_list_setitem
  (wpAny_call_entry slot_list_setitem hl entry_list_setitem ?_ (args_list_setitem _ _ _)))
 show wpAny _ _ (Builtin.List.listSubscript? (.int k t) >>= _) _ _ s;refine wpAny_bind (wpAny_listSubscript_int (by unfold Builtin.List.listFitsIndex;simp only[Bool.and_eq_true,decide_eq_true_eq];omega) ?_)
 rcases h2 with rfl|⟨h2,h3,h4⟩
 ·show wpAny _ _ ((seqItemAt l j >>= fun r=>pure (r.map (j,·))) >>= _) _ _ s
  refine wpAny_bind (wpAny_bind (wpAny_seqItemAt ho hd (wpAny_pure ?_)));rw[hx];exact wpAny_bind (wpAny_setSeqItemAt ho hd (wpAny_pure ⟨.none,rfl,wpAny_pure h⟩))
 ·have hidx:seqIndex? k xs.length=some j:=by rw[seqIndex_neg h2 h4,h3]
  obtain⟨i,rfl⟩:∃ i:Nat,k=Int.negSucc i:=by
   cases k with
   |ofNat n=>exact absurd h2 (Int.not_lt.mpr (Int.natCast_nonneg n))
   |negSucc n=>exact⟨n,rfl⟩
  show wpAny _ _ ((Builtin.List.listItems (.ref l) >>= fun xs=>pure ((seqIndex? (Int.negSucc i) xs.size).bind fun i=>xs[i]?.map (i,·))) >>= _) _ _ s;refine wpAny_bind (wpAny_bind ?_);show wpAny _ _ (seqItems? (.ref l) >>= _) _ _ s;refine wpAny_bind (wpAny_seqItems ho hd (wpAny_pure (wpAny_pure ?_)));rw[List.size_toArray,hidx,Option.bind_some,hx];exact wpAny_bind (wpAny_setSeqItemAt ho hd (wpAny_pure ⟨.none,rfl,wpAny_pure h⟩))
theorem znG {stack:List Env}{π:List Addr}{Hc:H}{a b c:V}{x y w:Value}{H':H}{Q:Unit→Shared→Prop}{E:Value→Shared→Prop}(hr:HR am stack π Hc s.heap) (ha:VR am π s.heap a x) (hb:VR am π s.heap b y) (hc:VR am π s.heap c w) (he:lcell Hc a=true) (hs:seti Hc a b c=some H')
  (h:∀ s',Step (Fs stack) π s π s'→HR am stack π H' s'.heap→Q () s'):wpAny am.M A (setItem x y w) Q E s:=by
 refine hold fun z_ k_=>?_;obtain⟨i,l,vs,xs,rfl,rfl,hi,hH,pl,hz,hv⟩:=zbZ hr ha he;refine k_ ?_;simp only[seti,hH] at hs
 cases b with
 |int k =>
  simp only at hs;obtain⟨j,hj,rfl⟩:=Option.map_eq_some_iff.mp hs;simp only[VR] at hb;obtain⟨t,rfl⟩:=hb;have e:=hv.len;refine zlQ pl (by omega) (by rw[e];exact hj) ?_
  have pl':=pl.update (·.setIfInBounds j w);have hp:=HR.put (tk:=s.toks) hr hi (vs:=vs.set j c) (by simpa using hz) (xs:=xs.set j w) (h':=s.heap.update l (Obj.mapSeq (·.setIfInBounds j w))) (fun b o h1 h2=>(Heap.SameBut.update ..).extBut b o h1 h2) (by simpa using pl') (hv.set j hc)
  exact h _ hp.1 hp.2
 |_=>cases hs
theorem zi6 {h:H}{a b c:V}(hc:lcell h a=false) (hd:dcell h a=false):seti h a b c=Option.none:=by
 cases a with
 |ref r =>
  simp only[lcell] at hc;simp only[dcell] at hd;simp only[seti]
  cases hq:h[r]? with
  |none=>rfl
  |some k =>
   rw[hq] at hc
   cases k with
   |list vs=>cases hc
   |dict es=>rw[hq] at hd;cases hd
 |_=>rfl
end
section
variable {am:Amb}{n:Nat}{q:Bool}{F:Fn}{c:Ck}
theorem PT.wpv {α γ:Type}{A:Around}(M:Model) (m:Sem α) (f:α→γ):PT.Mono (fun(Q:γ→Shared→Prop) E s=>wpAny M A m (fun a s₁=>Q (f a) s₁) E s):=fun z_ z_ z_ z_ z_ h1 h2 h=>wpAny_mono h (fun a s x=>h1 _ _ x) h2
theorem zlR {o i e:PE}{yo yi y:Expr}{p tp:Pos}(hc:isComp y=false) (ho:EJ am n q F c o yo) (hi:EJ am n q F c i yi) (he:EJ am n q F c e y):SJ am n q F c (.setIdx o i e) (.Assign [.Subscript yo yi tp] y p):=fun cx ρ A res outer π₀ s₀ G π Hc s x=>by
 have shape:exS q F (.setIdx o i e) ρ Hc=((evE q F ρ e Hc).bind fun v h=>(evE q F ρ o h).bind fun x h=>(evE q F ρ i h).bind fun y h=>R.ok (v,x,y) h).st ρ fun t h=>match seti h t.2.1 t.2.2 t.1 with
   |some h=>.ok .next ρ h
   |Option.none=>.bad:=by
  rw[zjA]
  cases evE q F ρ e Hc with
  |ok v h =>
   simp only[R.st_ok,R.bind_ok]
   cases evE q F ρ o h with
   |ok v h =>
    simp only[R.st_ok,R.bind_ok]
    cases evE q F ρ i h<;>rfl
   |_=>rfl
  |_=>rfl
 rw[shape];refine SP.rule (T:=fun Q E s=>wpAny am.M A (eval y cx.env) (fun v s₁=>wpAny am.M A (eval yo cx.env) (fun ov s₂=>wpAny am.M A (eval yi cx.env) (fun iv s₃=>wpAny am.M A (setItem ov iv v) (fun z_=>Q .next) E s₃) E s₂) E s₁) E s)
  (sbindT (T0:=fun Q E s=>wpAny am.M A (eval y cx.env) (fun v s₁=>wpAny am.M A (eval yo cx.env) (fun ov s₂=>wpAny am.M A (eval yi cx.env) (fun iv s₃=>Q (v,ov,iv) s₃) E s₂) E s₁) E s) (T:=fun t Q E s=>wpAny am.M A (setItem t.2.1 t.2.2 t.1) (fun z_=>Q .next) E s) (PT.seq _ _ fun z_=>PT.seq _ _ fun z_=>PT.wpv _ _ _) x
   (Rel:=fun π h (b:V × V × V) (t:Value × Value × Value)=>VR (am.at res) π h b.1 t.1∧VR (am.at res) π h b.2.1 t.2.1∧VR (am.at res) π h b.2.2 t.2.2)
   (JT.bind (fun z_=>PT.seq _ _ fun z_=>PT.wpv _ _ _) (he x.b x.st) fun v b H1 π1 s1 z_ hs1 hr1 hv1=>JT.bind (fun z_=>PT.wpv _ _ _) (ho x.b (x.st.step hs1 hr1)) fun ov b2 H2 π2 s2 z_ hs2 hr2 hv2 =>
    JT.bind (T:=fun iv Q E s=>Q (v,ov,iv) s) (fun z_ z_ z_ z_ z_ z_ h z_ y=>h _ _ y) (hi x.b ((x.st.step hs1 hr1).step hs2 hr2)) fun iv b3 H3 π3 s3 z_ hs3 hr3 hv3 =>
    .inr (OkP.here hr3 ⟨(hv1.step hs2).step hs3,hv2.step hs3,hv3⟩)) fun t b H' π' s' z_ x' hw=>?_) fun Q E h=>wpAny_Assign_Subscript h (zc4 hc _ _ _)
 obtain⟨h1,h2,h3⟩:=hw
 cases hl:lcell H' b.2.1 with
 |false =>
  cases hd:dcell H' b.2.1 with
  |false=>rw[zi6 hl hd];exact .inl rfl
  |true =>
   cases hs:seti H' b.2.1 b.2.2 b.1 with
   |none=>exact .inl rfl
   |some H2=>exact .inr (znH (am:=am.at res) x'.b.as x'.st.hr h2 h3 h1 hd hs fun s2 hs2 hr2=>SOk.here (x'.step hs2 hr2))
 |true =>
  cases hs:seti H' b.2.1 b.2.2 b.1 with
  |none=>exact .inl rfl
  |some H2=>exact .inr (znG (am:=am.at res) x'.st.hr h2 h3 h1 hl hs fun s2 hs2 hr2=>SOk.here (x'.step hs2 hr2))
end
noncomputable def ckTg (c:Ck):List Nat→List Expr→Bool
 |[],ts=>ts.isEmpty
 |i::is,ts=>(match ts with|t::ts=>(xName t fun v=>c.var v i&&c.names.lookup v != some .free)&&ckTg c is ts|[]=>false)
section
variable {am:Amb}{n:Nat}{q:Bool}{F:Fn}{c:Ck}
theorem zjZ {i:Nat}{is:List Nat}{ts:List Expr}(h:ckTg c (i::is) ts=true):∃ v p ts',ts=.Name v p::ts'∧c.var v i=true∧c.names.lookup v≠some .free∧ckTg c is ts'=true:=by
 cases ts with
 |nil=>cases h
 |cons t ts =>
  have h:((xName t fun v=>c.var v i&&c.names.lookup v != some .free)&&ckTg c is ts)=true:=h;exact zcu (G:=fun t=>∃ v p ts',t::ts=.Name v p::ts'∧c.var v i=true∧c.names.lookup v≠some .free∧ckTg c is ts'=true) (al h) fun v p h1=>⟨v,p,ts,rfl,al h1,bne_iff_ne.mp (ar h1),ar h⟩
theorem zhC {env:Env}:∀ {is:List Nat}{ts:List Expr},ckTg c is ts=true→(assignEach ts env).length=is.length∧(assignEach ts env).findIdx? (·.1)=none
 |[],ts,h=>by
  cases ts with
  |nil=>exact⟨rfl,rfl⟩
  |cons _ _=>cases h
 |i::is,ts,h=>by
  obtain⟨v,p,ts',rfl,_,_,h4⟩:=zjZ h;obtain⟨a,b⟩:=zhC (env:=env) h4;refine⟨congrArg (·+1) a,?_⟩;show List.findIdx? (·.1) ((false,assign (.Name v p) env)::assignEach ts' env)=none;rw[List.findIdx?_cons,b];rfl
theorem zfp:∀ {is:List Nat}{vs ρ ρ':List V},setAll ρ is vs=some ρ'→is.length=vs.length
 |[],[],_,_,_=>rfl
 |_::is,_::vs,ρ,_,h=>congrArg (·+1) (zfp (is:=is) (vs:=vs) h)
variable {cx:Cx}{A:Around}{res:List Addr}{outer:List Env}{π₀:List Addr}{s₀:Shared}{G:List Addr→Shared→Prop}{π:List Addr}{Hc:H}
theorem zfF (hinj:(c.ctx.map (·.2)).Nodup){Q:Unit→Shared→Prop}{E:Value→Shared→Prop}{ρ':List V}(hQ:∀ s',Stm am n q F c cx A res outer π₀ s₀ G ρ' π Hc s'→Q () s') :
  ∀ {is:List Nat}{ts:List Expr}{vs:List V}{xs:List Value}{ρ:List V}{s:Shared},ckTg c is ts=true→Stm am n q F c cx A res outer π₀ s₀ G ρ π Hc s→VRs (am.at res) π s.heap vs xs→setAll ρ is vs=some ρ' →
   wpAny am.M A (assignInOrder ((assignEach ts cx.env).map (·.2)) xs) Q E s
 |[],ts,vs,xs,ρ,s,h,X,hv,hs=>by
  cases vs with
  |cons _ _=>cases hs
  |nil =>
   cases hs
   cases ts with
   |nil=>exact wpAny_pure (hQ s X)
   |cons _ _=>cases h
 |i::is,ts,vs,xs,ρ,s,h,X,hv,hs=>by
  cases vs with
  |nil=>cases hs
  |cons v vs =>
   obtain⟨x,xs',rfl,hx,hr⟩:=hv;obtain⟨y,p,ts',rfl,h1,h2,h3⟩:=zjZ h;show wpAny am.M A (do holding xs' (assign (.Name y p) cx.env x);assignInOrder ((assignEach ts' cx.env).map (·.2)) xs') Q E s
   refine wpAny_bind (wpAny_holding (wpAny_assign_Name (zds X hx h1 h2 hinj fun s' X' z_ hk=>?_)));exact zfF hinj hQ h3 X' (hr.free hk) hs
theorem zpx {is:List Nat}{e:PE}{y:Expr}{ts:List Expr}{k:Nat}{tp p:Pos}(hc:isComp y=false) (ht:y.ctorIdx≠25) (hts:ckTg c is ts=true) (hinj:(c.ctx.map (·.2)).Nodup) (h:EJ am n true F c e y) :
  SJ am n true F c (.asgT is e) (.Assign [.Tuple ts k tp] y p):=fun cx ρ A res outer π₀ s₀ G π Hc s x=>by
 have hs:swapsWithSole [.Tuple ts k tp] y p.line cx.env=pure false:=(rfl:_=swapsWith y (some (.Tuple ts k tp)) p.line cx.env).trans (zc4 hc _ _ _);have hw:swappedStores [.Tuple ts k tp] y cx.env=pure none:=by
  cases y<;>first|rfl|exact absurd rfl ht
 refine SP.rule (T:=fun Q E s=>wpAny am.M A (eval y cx.env) (fun w s₁=>wpAny am.M A (assign (.Tuple ts k tp) cx.env w) (fun z_=>Q .next) E s₁) E s)
  (r:=(evE true F ρ e Hc).st ρ fun v h=>match v with
   |.tup vs=>(match setAll ρ is vs with
    |some ρ=>.ok .next ρ h
    |Option.none=>.bad)
   |_=>.bad) (sbind x (h x.b x.st) fun a b H' π' s' z_ x' hw=>?_) fun Q E h=>Assign_Tuple h hs hw
 cases b with
 |tup vs =>
  dsimp only
  cases hse:setAll ρ is vs with
  |none=>exact .inl rfl
  |some ρ' =>
   obtain⟨t,xs,rfl,_,htu,_,hvr⟩:=hw;refine .inr (wpAny_assign_Tuple x'.st.hd htu ?_ (zhC hts).2 fun h' hb=>?_)
   ·rw[(zhC hts).1,zfp hse,List.size_toArray,hvr.len]
   ·have kk:∀ b o,s'.heap.get? b=some o→h'.get? b=some o:=fun b o e=>hb b o (Nat.ne_of_lt (Heap.lt_size e)) e
    have y:=x'.step (s':={ s' with heap:=h' }) (Step.keeps kk) (x'.st.hr.keeps kk)
    exact zfF hinj (fun s'' z=>SOk.here z) hts y (hvr.step (s':={ s' with heap:=h' }) (Step.keeps (Fs:=Fs cx.stack) kk)) hse
 |_=>exact .inl rfl
end
section
variable {am:Amb}{n:Nat}{q:Bool}{F:Fn}{c:Ck}
theorem SR.sub {am am':Amb}(k:∀ a,a∈am'.res→a∈am.res) (hmg:am'.mg=am.mg) (hB:am'.B=am.B){π:List Addr}{h:Heap}{v:V}{x:Value}(e:SR am π h v x):SR am' π h v x:=by
 rcases e with e|⟨d,a,h1,h2,h3,C,o,vs,e1,e2⟩
 ·exact .inl (e.sub k)
 ·exact .inr ⟨d,a,h1,h2,h3,C,o,vs,by rw[hmg];exact e1,by rw[hB];exact e2⟩
theorem ER.sub {am:Amb}{r r':List Addr}(k:∀ a,a∈r'→a∈r){cx:Cx}{ρ:List V}{π:List Addr}{h:Heap}(e:ER (am.at r) cx ρ π h):ER (am.at r') cx ρ π h :=
 ⟨e.ns,e.locOff,e.cellOff,e.apart,fun x i v h1 h2 h3 h4=>let ⟨v',h5,h6⟩:=e.var x i v h1 h2 h3 h4;⟨v',h5,SR.sub (am:=am.at r) (am':=am.at r') k rfl rfl h6⟩⟩
theorem ER.poke {am:Amb}{cx:Cx}{ρ:List V}{π:List Addr}{h h':Heap}{C:Addr}(e:ER am cx ρ π h) (hC:C∈am.res) (p:Poke C h h') (hnf:∃ o,h.get? C=some o∧∀ us,o.data≠.fields us) (hl:cx.env.locals≠C) (hc:∀ z d,cx.env.cells.lookup z=some d→d≠C):ER am cx ρ π h':=by
 obtain⟨m,hm⟩:=e.ns;refine⟨⟨m,Ns.at hm fun o z=>p _ o hl z⟩,e.locOff,fun z d hd=>?_,e.apart,fun z j w e1 e2 e3 e4=>?_⟩
 ·refine hold fun z_ k_=>?_
  obtain⟨a1,a2,u,o,ho,r⟩:=e.cellOff z d hd;refine k_ ?_;exact⟨a1,a2,u,o,p d o (hc z d hd) ho,r⟩
 ·obtain⟨u,e5,e6⟩:=e.var z j w e1 e2 e3 e4
  refine⟨u,?_,?_⟩
  ·rcases e5 with⟨k,m',e7,e8⟩|⟨k,d,e7,o,ho,r⟩
   ·exact .inl ⟨k,m',Ns.at e7 fun o z=>p _ o hl z,e8⟩
   ·exact .inr ⟨k,d,e7,o,p d o (hc z d e7) ho,r⟩
  ·rcases e6 with e6|⟨d,a,f1,f2,f3,C',o,vs,g1,g2,g3,g4,g5⟩
   ·exact .inl (e6.free fun b o hb z=>p b o (fun q=>hb (q ▸ hC)) z)
   ·exact .inr ⟨d,a,f1,f2,f3,C',o,vs,g1,p a o (fun q=>(zhQ hnf g2 g4) q.symm) g2,g3,g4,g5⟩
theorem Mv.unhold {R Fs π π':List Addr}{s s':Shared}{C:Addr}(x:Mv (C::R) Fs π s π' s') (hC:s.heap.get? C=none):Mv R Fs π s π' s':=by
 have ne:∀ {b o},s.heap.get? b=some o→b ∉ R→b ∉ C::R:=fun {b o} e hb q=>by
  rcases List.mem_cons.mp q with rfl|h
  ·rw[hC] at e;cases e
  ·exact hb h
 exact⟨x.same,fun a o e h1 h2 h3=>x.keep a o e h1 h2 (ne e h3),fun a o e h1 h3=>x.slots a o e h1 (ne e h3),x.alive,x.grow⟩
theorem zo5 {am:Amb}{stack:List Env}{π π1:List Addr}{s s':Shared}{vs:List V}{H1:H}{l:Addr}{xs:List Value}(h3:vs.length≤1000000) (h4:s.heap.get? l=none) (h5:l ∉ π1∧l ∉ Fs stack∧am.B.get? l=none) (h6:Step (Fs stack) π s π1 s') (h7:HR (am.hold l) stack π1 H1 s'.heap)
  (h8:PL s'.heap l xs) (h9:VRs (am.hold l) π1 s'.heap vs xs):Step (Fs stack) π s (π1++[l]) s'∧HR am stack (π1++[l]) (H1++[.list vs]) s'.heap∧VR am (π1++[l]) s'.heap (.ref H1.length) (.ref l):=by
 refine⟨⟨h6.same,h6.ext,?_⟩,⟨h7.base,h7.frames,by simp[h7.len],?_,h7.unhold.res,?_,?_⟩,?_⟩
 ·obtain⟨δ,rfl,hδ⟩:=h6.grow
  refine⟨δ++[l],by simp,fun a ha=>?_⟩
  rcases List.mem_append.mp ha with ha|ha
  ·exact hδ a ha
  ·rw[List.mem_singleton.mp ha];exact h4
 ·rw[List.nodup_append]
  exact⟨h7.nodup,by simp,fun a ha b hb=>by rw[List.mem_singleton.mp hb];exact fun q=>h5.1 (q ▸ ha)⟩
 ·intro a ha
  rcases List.mem_append.mp ha with ha|ha
  ·exact h7.off a ha
  ·rw[List.mem_singleton.mp ha];exact⟨h5.2.2,h5.2.1⟩
 ·intro i c a hi ha
  by_cases hlt:i < H1.length
  ·rw[List.getElem?_append_left hlt] at hi
   rw[List.getElem?_append_left (by rw[h7.len];exact hlt)] at ha
   obtain⟨o,ys,q0,q1,q2,q3⟩:=h7.cell i c a hi ha;exact⟨o,ys,q0,q1,q2,q3.reserve.1⟩
  ·have hi':i=H1.length:=zk8 (by have:=(List.getElem?_eq_some_iff.mp hi).1;rw[List.length_append] at this;exact this) hlt
   subst hi';simp only[List.getElem?_concat_length,Option.some.injEq] at hi;rw[←h7.len] at ha;simp only[List.getElem?_concat_length,Option.some.injEq] at ha;subst hi ha;exact .ofList h8 h3 h9.reserve.1
 ·simp only[VR]
  exact⟨l,rfl,by rw[←h7.len];simp⟩
noncomputable def asgFin (own:Bool) (i:Nat) (ρ:List V) (rs:List V) (Hf:H):RS:=if own then .ok .next (ρ.set i (.ref Hf.length)) (Hf++[.list rs]) else .ok .next (ρ.set i (.lst rs)) Hf
theorem zlr {F:Fn}{own:Bool}{i j:Nat}{elt:PE}{it:PIt}{cond:Option PE}{ρ:List V}{Hc:H}:exS true F (.asg i (if own then .own (.comp elt j it cond) else .comp elt j it cond)) ρ Hc=(itemsR F ρ elt j it cond Hc).st ρ fun rs h=>asgFin own i ρ rs h:=by
 cases own with
 |false =>
  show exS true F (.asg i (.comp elt j it cond)) ρ Hc=_;rw[zkg,zcj]
  cases itemsR F ρ elt j it cond Hc<;>rfl
 |true =>
  show exS true F (.asg i (.own (.comp elt j it cond))) ρ Hc=_;rw[zkg,zaF,zcj]
  cases itemsR F ρ elt j it cond Hc<;>rfl
theorem zi7 {i:Nat}{elt:PE}{j:Nat}{it:PIt}{cond:Option PE}{own:Bool}{e iter:Expr}{x:Str}{px pos p p':Pos}{ifs:List Expr}{scope:Scope}{v:Str}(hset:isSet iter=false) (hsc:zcr c x scope=true) (hi:c.ctx.all (fun p=>p.2 != j)=true)
  (hit:ItJ am n F c it iter) (helt:EJ am n true F (c.inner x j scope) elt e) (hcond:CJ am n F (c.inner x j scope) cond ifs)
  (hv:c.var v i=true) (hk:c.names.lookup v≠some .free) (hinj:(c.ctx.map (·.2)).Nodup)
  {cx:Cx}{ρ:List V}{A:Around}{res:List Addr}{outer:List Env}{π₀:List Addr}{s₀:Shared}{G:List Addr→Shared→Prop}{π:List Addr}{Hc:H}{s:Shared}(X:Stm am n true F c cx A res outer π₀ s₀ G ρ π Hc s)
  (hs:swapsWith (.ListComp e [⟨.Name x px,iter,ifs,0⟩] scope pos) (some (.Name v p')) p.line cx.env=pure true) :
  SP (am.at res) cx outer true A π₀ s₀ G (fun Q E s=>wpAny am.M A (exec (.Assign [.Name v p'] (.ListComp e [⟨.Name x px,iter,ifs,0⟩] scope pos) p) cx.env) Q E s) (exS true F (.asg i (if own then .own (.comp elt j it cond) else .comp elt j it cond)) ρ Hc) s:=by
 have B:=X.b;rw[zlr]
 rcases ziU (px:=px) (pos:=pos) (pos':=firstIterPos [⟨.Name x px,iter,ifs,0⟩] pos) hset hsc hi hit helt hcond B X.st with h|h
 ·exact .inl (by rw[h];rfl)
 ·refine .inr (zfj fun Q' E' kq ke=>?_)
  rw[exec_Assign_Name_used _ _ _ _ hs,arm_evalThenUse_ListComp];refine wpAny_bind (wpAny_standAt (wpAny_bind (wpAny_bind ?_)));refine h (Q:=fun z_ s'=>wpAny am.M A (pure ():Sem Unit) (fun z_ s'=>wpAny am.M A (pure Flow.next:Sem Flow) Q' E' s') E' s') (use:=some (assign (.Name v p') cx.env)) (fun c' H' y s' ee z=>?_) fun rs Hf D C s' e7 e6 le=>?_
  ·refine ke y s' ?_
   refine hold fun z_ k_=>?_;obtain⟨c',H'',π',e',C,fl,hh,g2,g3,g4,g5,g6⟩:=z;refine k_ ?_
   cases hh
   have Y:=X.step g4 g5;exact⟨c',ρ,H',π',e',C,fl,by rw[ee];rfl,g2,g3,Y.go,Y.st,X.b.ne,g6.mono (zcP X.f X.go)⟩
  ·generalize hr:R.st (itemsR F ρ elt j it cond Hc) ρ (fun rs h=>asgFin own i ρ rs h)=r at kq ke
   have e7:r=asgFin own i ρ rs Hf:=by rw[←hr,e7];rfl
   refine hold fun z_ k_=>?_;obtain⟨π',xs,m,l1,l2,l3,l4,l5,l6,l7⟩:=le.rest;refine k_ ?_;show wpAny am.M A (assign (.Name v p') cx.env (.ref D)) _ _ s';have hs0C:s₀.heap.get? C=none:=by
    cases hq:s₀.heap.get? C with
    |none=>rfl
    |some o=>obtain⟨o',z⟩:=X.go.ext.alive C o hq;rw[le.freshC] at z;cases z
   have hDC:D ∉ (am.at (C::res)).res:=by simp only[Amb.at,List.mem_cons,not_or];exact⟨le.ne,le.resD⟩
   have hR:HR (am.at (D::C::res)) cx.stack π' Hf s'.heap:=HR.sub (am:=am) (r:=C::D::res) (r':=D::C::res) (by intro a ha;simp only[List.mem_cons] at ha ⊢;rcases ha with ha|ha|ha<;>simp[ha]) l2
   have hV:VRs ((am.at (C::res)).hold D) π' s'.heap rs xs:=VRs.sub (am':=(am.at (C::res)).hold D) (by intro a ha;simp only[Amb.hold,Amb.at,List.mem_cons] at ha ⊢;rcases ha with ha|ha|ha<;>simp[ha]) l4
   have hok:∃ w H2 π2,r=.ok .next (ρ.set i w) H2∧Step (Fs cx.stack) π s π2 s'∧HR (am.at (C::res)) cx.stack π2 H2 s'.heap∧VR (am.at (C::res)) π2 s'.heap w (.ref D)∧C ∉ π2:=by
    cases own with
    |false =>
     refine⟨.lst rs,Hf,π',by rw[e7];rfl,l1,HR.unhold (am:=am.at (C::res)) hR,?_,l7⟩
     simp only[VR];exact⟨D,xs,rfl,⟨l6,hDC⟩,l3.is,e6,hV.reserve.2⟩
    |true =>
     have z:=zo5 (am:=am.at (C::res)) (s:=s) e6 le.freshD ⟨l6,le.fsD,le.baseD⟩ l1 hR l3 hV;refine⟨_,_,π'++[D],by rw[e7];rfl,z.1,z.2.1,z.2.2,?_⟩
     rw[List.mem_append,not_or,List.mem_singleton];exact⟨l7,Ne.symm le.ne⟩
   refine hold fun z_ k_=>?_;obtain⟨w,H2,π2,k2,k3,k4,k5,k6⟩:=hok;refine k_ ?_;have erC:ER (am.at (C::res)) cx ρ π2 s'.heap:=(X.st.er.held (l:=C) le.freshC).step k3;have Y:Stm am n true F c cx A (C::res) outer π₀ s₀ (fun π' s'=>Mv (C::res) (Fs cx.stack) π s π' s') ρ π2 H2 s' :=
    ⟨X.b,⟨X.f.top,List.mem_cons_of_mem _ X.f.res,X.f.base,X.f.fresh,fun z d hd=>let ⟨a1,a2,a3⟩:=X.f.cell z d hd;⟨List.mem_cons_of_mem _ a1,a2,a3⟩⟩,X.go.inn X.f k3,⟨k4,erC,X.st.hd.step k3⟩,X.low,.of k3,fun z_ z_ z_ z_ h m=>h.trans m⟩
   have hlC:cx.env.locals≠C:=fun q=>by
    obtain⟨m0,hm0⟩:=X.st.er.ns;obtain⟨o,ho⟩:=Heap.Ns.exist hm0;rw[q,le.freshC] at ho;cases ho
   have hcC:∀ z d,cx.env.cells.lookup z=some d→d≠C:=fun z d hd q=>by
    refine hold fun z_ k_=>?_;obtain⟨_,_,u,hu⟩:=X.st.er.cellOff z d hd;refine k_ ?_;obtain⟨o,ho⟩:=Heap.IsCell.exist hu;rw[q,le.freshC] at ho;cases ho
   refine wpAny_assign_Name (zds Y k5 hv hk hinj fun s'' Z hkeep z_=>?_);refine⟨m,Ns.at l5 fun o ho=>hkeep C hs0C (Ne.symm hlC) hcC o ho,fun h' sb=>?_⟩;have p':Poke C s''.heap h':=fun b o hb e=>sb.extBut b o hb e;have l5':s''.heap.Ns C m:=Ns.at l5 fun o ho=>hkeep C hs0C (Ne.symm hlC) hcC o ho;refine wpAny_pure (wpAny_pure ?_);subst k2;refine kq _ _ ⟨.next,_,_,π2,rfl,Z.go.poke (tk:=s''.toks) hs0C p',⟨HR.out (am:=am.at res) Z.st.hr le.resC le.baseC k6 le.fsC p',?_,?_⟩,Z.b.ne,rfl,?_⟩
   ·exact ER.sub (am:=am) (r:=C::res) (fun a ha=>List.mem_cons_of_mem _ ha) (Z.st.er.poke (am:=am.at (C::res)) List.mem_cons_self p' (Ns.nf l5') hlC hcC)
   ·exact Z.st.hd
   ·refine X.gk _ _ _ _ X.g (Mv.poke (tk:=s''.toks) (Mv.unhold Z.g le.freshC) (.inr le.freshC) p')
end
section
variable {am:Amb}{n:Nat}{q:Bool}{F:Fn}{c:Ck}
theorem zdA {am:Amb}{cx:Cx}{outer:List Env}{π₀ π:List Addr}{s₀:Shared}{Hc:H}{h:Heap}(f:Frm am cx outer s₀) (hr:HR am cx.stack π Hc h):h.FunFrames (ground outer π₀ s₀.heap) cx.stack:=by
 have go:∀ l:List Env,(∀ a∈Fs l,(ground outer π₀ s₀.heap).get? a=none)→h.FunFrames am.B l→h.FunFrames (ground outer π₀ s₀.heap) l:=by
  intro l
  induction l with
  |nil=>intro _ _;trivial
  |cons e l ih =>
   intro hn ⟨h1,⟨L,o,h2,_,h4,h5⟩,h6⟩;refine⟨h1,⟨L,o,h2,hn L (by simp[Fs,h2]),h4,h5⟩,ih (fun a ha=>hn a ?_) h6⟩
   simp only[Fs,List.filterMap_cons,h2,List.mem_cons];exact .inr ha
 refine go _ (fun a ha=>?_) hr.frames;rw[f.fs] at ha
 rcases List.mem_cons.mp ha with rfl|ha
 ·cases hq:(ground outer π₀ s₀.heap).get? cx.env.locals with
  |none=>rfl
  |some o=>have:=of_hideAll _ hq;rw[f.fresh] at this;cases this
 ·exact hideAll_none _ (List.mem_append.mpr (.inr ha))
theorem Step.touch {am:Amb}{cx:Cx}{outer:List Env}{s₀ s:Shared}{π₀ π:List Addr}{Hc:H}(f:Frm am cx outer s₀) (x:Step (Fs outer) π₀ s₀ π s) (hr:HR am cx.stack π Hc s.heap){h':Heap}(t:Touch (ground outer π₀ s₀.heap) s.heap h'):Step (Fs outer) π₀ s₀ π { s with heap:=h' }:=by
 have frm:∀ a∈Fs outer,∃ o,s.heap.get? a=some o∧∀ us,o.data≠.fields us:=fun a ha=>(hr.frames.mem (show a∈Fs cx.stack by rw[f.fs];exact List.mem_cons_of_mem _ ha)).2
 have cel:∀ a∈π₀,∃ o,s.heap.get? a=some o∧∀ us,o.data≠.fields us:=fun a ha=>by
  obtain⟨δ,e,_⟩:=x.grow;obtain⟨i,hi,e1⟩:=List.getElem_of_mem (show a∈π by rw[e];exact List.mem_append.mpr (.inl ha))
  have h1:π[i]?=some a:=by rw[List.getElem?_eq_getElem hi,e1]
  have h2:i < Hc.length:=by rw[←hr.len];exact hi
  exact(hr.cell i Hc[i] a (by simp[h2]) h1).obj
 have keep:∀ a o,s₀.heap.get? a=some o→a ∉ π₀→a ∉ Fs outer→h'.get? a=some o:=fun a o e h1 h2=>t.stays a o (hideAll_get _ e (by rw[List.mem_append,not_or];exact⟨h1,h2⟩))
 obtain⟨hh,tk,rfl⟩:=x.same;refine⟨⟨h',tk,rfl⟩,⟨keep,fun a o e h1=>?_,fun a o e=>?_⟩,x.grow⟩
 ·by_cases h2:a∈Fs outer
  ·obtain⟨sl,h3⟩:=x.ext.slots a o e h1
   obtain⟨o',h4,h5⟩:=frm a h2;rw[h3] at h4;cases h4
   obtain⟨sl',h6⟩:=t.slots a _ h3 h5;exact⟨sl',h6⟩
  ·exact⟨o.slots,keep a o e h1 h2⟩
 ·by_cases h1:a∈π₀
  ·obtain⟨o',h4,h5⟩:=cel a h1
   obtain⟨sl',h6⟩:=t.slots a _ h4 h5;exact⟨_,h6⟩
  ·by_cases h2:a∈Fs outer
   ·obtain⟨o',h4,h5⟩:=frm a h2
    obtain⟨sl',h6⟩:=t.slots a _ h4 h5;exact⟨_,h6⟩
   ·exact⟨o,keep a o e h1 h2⟩
theorem St.touch {am:Amb}{cx:Cx}{ρ:List V}{A:Around}{base:Heap}{s:Shared}{π:List Addr}{Hc:H}(x:St am true cx ρ π Hc A s) (ne:NoExc ρ) (low:am.B.StaysIn base){h':Heap}(t:Touch base s.heap h'):St am true cx ρ π Hc A { s with heap:=h' } :=
 ⟨x.hr.upto t.slots fun b o e=>t.stays b o (low b o e),x.er.upto t.slots ne,x.hd⟩
theorem SEr.back {am:Amb}{cx:Cx}{outer:List Env}{A:Around}{π₀:List Addr}{s₀:Shared}{r:RS}{y:Value}{s':Shared}(f:Frm am cx outer s₀) (fr:A.frames=some cx.stack) (low:am.B.StaysIn (ground outer π₀ s₀.heap)) (h:SEr am cx outer true A π₀ s₀ r y s'){E':Value→Shared→Prop}(ke:∀ y s,SEr am cx outer true A π₀ s₀ r y s→E' y s) :
  notedBy am.M A cx.env (cameBackBy am.M A cx.env E') y s':=by
 refine hold fun z_ k_=>?_;obtain⟨d,ρ',H',π',e,C,fl,h1,rfl,h3,h4,h5,h6,h7⟩:=h;refine k_ ?_;rw[f.top.1] at fr;have fl':=zdA (π₀:=π₀) f h5.hr;rw[f.top.1] at fl';unfold notedBy;refine zjB fr fl' f.top.2 h7 fun h₁ x₁ t₁=>?_;have g1:=h4.touch f h5.hr t₁;have g2:=h5.touch (h6 rfl) low t₁;unfold cameBackBy;refine hold fun z_ k_=>?_;obtain⟨_,_,oe,vs,w1,w2,w3,w4,T,oT,ts,w5,w6,w7,w8,w9,w10⟩:=id x₁;refine k_ ?_
 refine wpAny_bind (wpAny_field w1 w3 w5 ?_);rw[if_neg (by simp)]
 refine zdZ (fr:=cx.env.frame) x₁ fun h₂ x₂ t₂=>?_;exact ke _ _ ⟨d,ρ',H',π',e,C,_,h1,rfl,h3,g1.touch f g2.hr t₂,g2.touch (h6 rfl) low t₂,h6,x₂⟩
theorem zmE {w:Watch}{b:List V→V→Option (List V)}{body:List V→H→RS}{ρ:List V}{h:H}:forL w b body [] ρ h=if w.ok h then .ok .next ρ h else .bad:=rfl
theorem zk2 {w:Watch}{b:List V→V→Option (List V)}{body:List V→H→RS}{v:V}{vs ρ:List V}{h:H}:forL w b body (v::vs) ρ h=if w.ok h then(match b ρ v with
   |some ρ'=>(body ρ' h).then fun ρ h=>forL w b body vs ρ h
   |none=>.bad) else .bad:=rfl
inductive ForInv (am:Amb) (cx:Cx) (outer:List Env) (A:Around) (π₀:List Addr) (s₀:Shared) (res π:List Addr) (s:Shared) (Sx:Nat→List Addr→Heap→Prop) (wt:Watch) (bi:List V→V→Option (List V)) (fb:List V→H→RS) (vs:List V) (r:RS) (k:Nat) (s':Shared):Prop
 |mk (j:Nat) (ρ':List V) (H':H) (π':List Addr) (e:k=vs.length - j) (hj:j≤vs.length) (ne:NoExc ρ') (g1:Step (Fs outer) π₀ s₀ π' s') (g2:St am true cx ρ' π' H' A s') (g3:Mv res (Fs cx.stack) π s π' s') (g4:Sx j π' s'.heap) (g5:forL wt bi fb (vs.drop j) ρ' H'=r)
theorem zpv {i:Nat}{it:PIt}{body:List PS}{iter:Expr}{v:Str}{p p':Pos}{ys:List Stmt}(hset:isSet iter=false) (hit:ItJ am n F c it iter) (hbody:SsJ am n true F c body ys)
  (hv:c.var v i=true) (hk:c.names.lookup v≠some .free) (hinj:(c.ctx.map (·.2)).Nodup):SJ am n true F c (.for1 i it body) (.For (.Name v p') iter ys [] p):=fun cx ρ A res outer π₀ s₀ G π Hc s X=>by
 have B:=X.b;have shape:exS true F (.for1 i it body) ρ Hc=(evIt true F ρ it Hc).st ρ fun vs h=>forL vs.2 (bind1 i) (fun ρ h=>exSs true F body ρ h) vs.1 ρ h:=by
  simp only[zl4,zkg,zl3,zjA,zl2,zjz,zl1,zl0,zlZ,zdY,zfZ,zev,zfY,zfX];rw[if_neg (by simp)]
 rw[shape];have hI:=hit B X.st;have key:∀ (r:RS),r≠.bad→(∀ vs wt H1,evIt true F ρ it Hc=.ok (vs,wt) H1→forL wt (bind1 i) (fun ρ h=>exSs true F body ρ h) vs ρ H1=r) →
   (∀ c' H',evIt true F ρ it Hc=.err c' H'→r=.err c' ρ H')→evIt true F ρ it Hc≠.bad →
   SP (am.at res) cx outer true A π₀ s₀ G (fun Q E s=>wpAny am.M A (exec (.For (.Name v p') iter ys [] p) cx.env) Q E s) r s:=by
  intro r hrb h1 h2 h3
  rcases hI with hI|hI
  ·exact absurd hI h3
  ·refine .inr ?_
   have erp:∀ y s',ErP (am.at res) cx.stack π s (evIt true F ρ it Hc) y s'→SEr (am.at res) cx outer true A π₀ s₀ r y s':=fun y s' h=>by
    refine hold fun z_ k_=>?_;obtain⟨c',H'',π',e',C,fl,hh,g2,g3,g4,g5,g6⟩:=h;refine k_ ?_;have Y:=X.step g4 g5;exact⟨c',ρ,H'',π',e',C,fl,h2 c' H'' hh,g2,g3,Y.go,Y.st,X.b.ne,g6.mono (zcP X.f X.go)⟩
   refine zfj fun Q' E' kq ke=>?_
   replace erp:=fun y s' h=>ke y s' (erp y s' h)
   refine wpAny_For (wpAny_mono hI (fun xv s₁ h₁=>wpAny_mono h₁ (fun itv s₂ h₂=>?_) erp) erp) (zio hset cx.env);refine hold fun z_ k_=>?_;obtain⟨⟨vs,wt⟩,H1,π1,e1,e2,e3,I,rfl,e5,e6,⟨Sx,IT,e7⟩,_⟩:=h₂;refine k_ ?_;have e0:=h1 vs wt H1 e1;have fr:A.frames=some cx.stack:=B.as.frames;have back:∀ y s',SEr (am.at res) cx outer true A π₀ s₀ r y s'→notedBy am.M A cx.env (cameBackBy am.M A cx.env E') y s':=fun y s' h=>SEr.back X.f fr X.low h ke
   have hs0I:s₀.heap.get? I=none:=by
    cases hq:s₀.heap.get? I with
    |none=>rfl
    |some o=>obtain⟨o',z⟩:=X.go.ext.alive I o hq;rw[e5] at z;cases z
   have poke:∀ {ρ':List V}{π':List Addr}{H':H}{s':Shared}{h':Heap}{tk k:Nat},NoExc ρ'→Step (Fs outer) π₀ s₀ π' s'→St (am.at res) true cx ρ' π' H' A s'→Mv res (Fs cx.stack) π s π' s'→Sx k π' s'.heap→Poke I s'.heap h' →
     Step (Fs outer) π₀ s₀ π' { s' with heap:=h',toks:=tk }∧St (am.at res) true cx ρ' π' H' A { s' with heap:=h',toks:=tk }∧Mv res (Fs cx.stack) π s π' { s' with heap:=h',toks:=tk }:=by
    intro ρ' π' H' s' h' tk k ne g1 g2 g3 g4 pk;refine hold fun z_ k_=>?_;obtain⟨_,_,o,us,ho,hd⟩:=IT.own k π' _ g4;refine k_ ?_;exact⟨g1.poke hs0I pk,⟨g2.hr.poke pk ho hd e6,g2.er.upto (pk.slots ho hd) ne,g2.hd⟩,g3.poke (.inr e5) pk⟩
   refine hold fun z_ k_=>?_;obtain⟨Inv,toInv,ofInv⟩:∃ Inv:Nat→Shared→Prop,(∀ k s',ForInv (am.at res) cx outer A π₀ s₀ res π s Sx wt (bind1 i) (fun ρ h=>exSs true F body ρ h) vs r k s'→Inv k s')∧(∀ k s',Inv k s'→ForInv (am.at res) cx outer A π₀ s₀ res π s Sx wt (bind1 i) (fun ρ h=>exSs true F body ρ h) vs r k s'):=⟨_,fun z_ z_ h=>h,fun z_ z_ h=>h⟩;refine k_ ?_;refine codeAny_forLoop_any Inv
    (fun k s' hk'=>?_) vs.length (toInv _ _ ⟨0,ρ,H1,π1,rfl,Nat.zero_le _,B.ne rfl,X.go.inn X.f e2,X.st.step e2 e3,.of e2,e7,by simpa using e0⟩)
   refine hold fun z_ k_=>?_;obtain⟨j,ρ',H',π',rfl,hj,ne,g1,g2,g3,g4,g5⟩:=ofInv _ _ hk';refine k_ ?_
   rcases Nat.lt_or_ge j vs.length with hlt|hge
   ·have hdrop:vs.drop j=vs[j]::vs.drop (j+1):=List.drop_eq_getElem_cons hlt
    rw[hdrop,zk2] at g5
    by_cases hw:wt.ok H'=true
    ·rw[if_pos hw] at g5
     simp only[bind1] at g5;refine IT.item j π' H' s' vs[j] _ _ g4 g2.hr hw (by simp[hlt]) fun x h' tk pk hx hs'=>?_
     obtain⟨k1,k2,k3⟩:=poke (tk:=tk) ne g1 g2 g3 g4 pk;show wpAny am.M A (letOwnedTupleGo (.Name v p') (.ref I) x) _ _ _;refine wpAny_of_eq (a:=()) rfl ?_
     let G':List Addr→Shared→Prop:=fun π' s'=>Mv res (Fs cx.stack) π s π' s'∧Sx (j+1) π' s'.heap
     have Y:Stm am n true F c cx A res outer π₀ s₀ G' ρ' π' H' { s' with heap:=h',toks:=tk } :=
      ⟨B.set fun z_=>ne,X.f,k1,k2,X.low,⟨k3,hs'⟩,fun z_ z_ z_ z_ h m=>⟨h.1.trans m,IT.move _ _ _ _ _ h.2 m⟩⟩
     refine wpAny_assign_Name (zds Y hx hv hk hinj fun s'' Z z_ z_=>?_)
     rcases hbody Z with hb|hb
     ·rw[hb] at g5;exact absurd g5.symm hrb
     ·refine wpAny_mono hb (fun fl s3 hs3=>?_) fun y s3 hs3=>?_
      ·refine hold fun z_ k_=>?_
       obtain⟨f',ρ2,H2,π2,z1,z2,z3,z4,z5,z6⟩:=hs3;refine k_ ?_;rw[z1] at g5
       cases f' with
       |next =>
        cases z5
        exact⟨vs.length - (j+1),Nat.sub_lt_sub_left hlt (Nat.lt_succ_self j),toInv _ _ ⟨j+1,ρ2,H2,π2,rfl,hlt,z4 rfl,z2,z3,z6.1,z6.2,by simpa using g5⟩⟩
       |ret w =>
        obtain⟨xv,rfl,hxv⟩:=z5;exact kq _ _ ⟨.ret w,ρ2,H2,π2,g5.symm,z2,z3,z4,⟨xv,rfl,hxv⟩,X.gk _ _ _ _ X.g z6.1⟩
      ·refine hold fun z_ k_=>?_
       obtain⟨d,ρ2,H2,π2,e',C,fl,z1,z2,z3,z4,z5,z6,z7⟩:=hs3;refine k_ ?_;rw[z1] at g5;exact back y s3 ⟨d,ρ2,H2,π2,e',C,fl,g5.symm,z2,z3,z4,z5,z6,z7⟩
    ·rw[if_neg hw] at g5;exact absurd g5.symm hrb
   ·have hje:j=vs.length:=Nat.le_antisymm hj hge
    subst hje;rw[List.drop_length,zmE] at g5
    by_cases hw:wt.ok H'=true
    ·rw[if_pos hw] at g5
     refine IT.done π' H' s' _ _ g4 g2.hr hw fun h' tk pk=>?_;obtain⟨k1,k2,k3⟩:=poke (tk:=tk) ne g1 g2 g3 g4 pk;refine wpAny_execs_nil ?_;exact kq _ _ ⟨.next,ρ',H',π',g5.symm,k1,k2,fun z_=>ne,rfl,X.gk _ _ _ _ X.g k3⟩
    ·rw[if_neg hw] at g5;exact absurd g5.symm hrb
 cases hev:evIt true F ρ it Hc with
 |bad=>exact .inl rfl
 |err c' H'=>exact key _ (by simp[R.st]) (fun z_ z_ z_ z=>by rw[hev] at z;cases z) (fun z_ z_ z=>by rw[hev] at z;cases z;rfl) (by rw[hev];simp)
 |ok b H1 =>
  obtain⟨vs,wt⟩:=b;simp only[R.st_ok]
  by_cases hb:forL wt (bind1 i) (fun ρ h=>exSs true F body ρ h) vs ρ H1=.bad
  ·exact .inl hb
  ·refine key _ hb (fun vs' wt' H1' z=>?_) (fun z_ z_ z=>by rw[hev] at z;cases z) (by rw[hev];simp)
   rw[hev] at z;cases z;rfl
end
section
variable {am:Amb}{n:Nat}{F:Fn}{c:Ck}
inductive WhInv (am:Amb) (cx:Cx) (outer:List Env) (A:Around) (π₀:List Addr) (s₀:Shared) (res π:List Addr) (s:Shared) (f:Nat→List V→H→RS) (r:RS) (k:Nat) (s':Shared):Prop
 |mk (ρ':List V) (H':H) (π':List Addr) (ne:NoExc ρ') (g1:Step (Fs outer) π₀ s₀ π' s') (g2:St am true cx ρ' π' H' A s') (g3:Mv res (Fs cx.stack) π s π' s') (g5:f k ρ' H'=r)
theorem zht (t:PE) (body:List PS) (k:Nat) (ρ:List V) (h:H):whileL (fun ρ h=>evE true F ρ t h) (fun ρ h=>exSs true F body ρ h) (k+1) ρ h =
  (tr (evE true F ρ t h)).st ρ fun b h=>if b then(exSs true F body ρ h).then fun ρ h=>whileL (fun ρ h=>evE true F ρ t h) (fun ρ h=>exSs true F body ρ h) k ρ h else .ok .next ρ h:=by
 rw[zlC]
 cases evE true F ρ t h with
 |ok v h =>
  simp only[tr,R.bind_ok,R.st_ok]
  cases truthy v with
  |none=>rfl
  |some u=>cases u<;>rfl
 |_=>rfl
theorem zn2 {t:PE}{body:List PS}{y:Expr}{ys:List Stmt}{p:Pos}(ht:TJ am n true F c t y) (hbody:SsJ am n true F c body ys):SJ am n true F c (.while t body) (.While y ys [] p):=fun cx ρ A res outer π₀ s₀ G π Hc s X=>by
 have B:=X.b;have shape:exS true F (.while t body) ρ Hc=whileL (fun ρ h=>evE true F ρ t h) (fun ρ h=>exSs true F body ρ h) turns ρ Hc:=by
  rw[zdY,if_neg (by decide)]
 rw[shape];generalize hr:whileL (fun ρ h=>evE true F ρ t h) (fun ρ h=>exSs true F body ρ h) turns ρ Hc=r
 by_cases hrb:r=.bad
 ·exact .inl hrb
 refine .inr (zfj fun Q' E' kq ke=>?_);have fr:A.frames=some cx.stack:=B.as.frames;have back:∀ y s',SEr (am.at res) cx outer true A π₀ s₀ r y s'→notedBy am.M A cx.env (cameBackBy am.M A cx.env E') y s':=fun y s' h=>SEr.back X.f fr X.low h ke;refine hold fun z_ k_=>?_;obtain⟨Inv,toInv,ofInv⟩:∃ Inv:Nat→Shared→Prop,(∀ k s',WhInv (am.at res) cx outer A π₀ s₀ res π s (whileL (fun ρ h=>evE true F ρ t h) (fun ρ h=>exSs true F body ρ h)) r k s'→Inv k s')∧(∀ k s',Inv k s'→WhInv (am.at res) cx outer A π₀ s₀ res π s (whileL (fun ρ h=>evE true F ρ t h) (fun ρ h=>exSs true F body ρ h)) r k s'):=⟨_,fun z_ z_ h=>h,fun z_ z_ h=>h⟩
 refine k_ ?_;refine wpAny_While (codeAny_whileLoop Inv (fun k s' hk=>?_) turns (toInv _ _ ⟨ρ,Hc,π,B.ne rfl,X.go,X.st,.of (Step.refl _ _ _),hr⟩));refine hold fun z_ k_=>?_;obtain⟨ρ',H',π',ne,g1,g2,g3,g5⟩:=ofInv _ _ hk;refine k_ ?_
 cases k with
 |zero=>exact absurd g5.symm hrb
 |succ k =>
  rw[zht] at g5;have Y:Stm am n true F c cx A res outer π₀ s₀ (fun π' s'=>Mv res (Fs cx.stack) π s π' s') ρ' π' H' s':=⟨B.set fun z_=>ne,X.f,g1,g2,X.low,g3,fun z_ z_ z_ z_ h m=>h.trans m⟩
  rcases ht Y.b Y.st with hb|hb
  ·rw[hb] at g5;exact absurd g5.symm hrb
  ·refine wpAny_mono hb (fun b s2 h2=>?_) fun e s2 h2=>?_
   ·refine hold fun z_ k_=>?_
    obtain⟨b',H2,π2,e1,e2,e3,e4⟩:=h2;refine k_ ?_;unfold BR at e4;subst e4;rw[e1,R.st_ok] at g5;have Z:=Y.step e2 e3
    cases b' with
    |false =>
     rw[if_neg (by simp)] at g5 ⊢
     exact wpAny_execs_nil (kq _ _ ⟨.next,ρ',H2,π2,g5.symm,Z.go,Z.st,fun z_=>ne,rfl,X.gk _ _ _ _ X.g Z.g⟩)
    |true =>
     rw[if_pos rfl] at g5 ⊢
     rcases hbody Z with hb|hb
     ·rw[hb] at g5;exact absurd g5.symm hrb
     ·refine wpAny_mono hb (fun fl s3 hs3=>?_) fun y s3 hs3=>?_
      ·refine hold fun z_ k_=>?_
       obtain⟨f',ρ2,H2,π2,z1,z2,z3,z4,z5,z6⟩:=hs3;refine k_ ?_;rw[z1] at g5
       cases f' with
       |next =>
        cases z5
        exact⟨k,Nat.lt_succ_self k,toInv _ _ ⟨ρ2,H2,π2,z4 rfl,z2,z3,z6,g5⟩⟩
       |ret w =>
        obtain⟨xv,rfl,hxv⟩:=z5;exact kq _ _ ⟨.ret w,ρ2,H2,π2,g5.symm,z2,z3,z4,⟨xv,rfl,hxv⟩,X.gk _ _ _ _ X.g z6⟩
      ·refine hold fun z_ k_=>?_
       obtain⟨d,ρ2,H2,π2,e',C,fl,z1,z2,z3,z4,z5,z6,z7⟩:=hs3;refine k_ ?_;rw[z1] at g5;exact back y s3 ⟨d,ρ2,H2,π2,e',C,fl,g5.symm,z2,z3,z4,z5,z6,z7⟩
   ·refine hold fun z_ k_=>?_
    obtain⟨c',H2,π2,e',C,fl,e1,e2,e3,e4,e5,e6⟩:=h2;refine k_ ?_;rw[e1] at g5;have Z:=Y.step e4 e5;exact back e s2 ⟨c',ρ',H2,π2,e',C,fl,g5.symm,e2,e3,Z.go,Z.st,fun z_=>ne,e6.mono (zcP X.f g1)⟩
end
theorem zi3 {h h':Heap}{bmB tl:List Value}(T:OwnTail h bmB tl) (hk:∀ b o,h.get? b=some o→h'.get? b=some o):OwnTail h' bmB tl:=by
 induction T with
 |base=>exact .base
 |own h1 h2 h3 _ ih=>exact .own (hk _ _ h1) (zdl hk h2) h3 ih
section
variable {am:Amb}{n:Nat}{q:Bool}{F:Fn}{c:Ck}
theorem zn3 {d:String}{t:Str}{k:Nat}{np cpos pos p:Pos}(hd:d∈zag) (hg:c.glob (Str.ofString d)=true) :
  SJ am n q F c (.raise d) (.Raise (some (.Call (.Name (Str.ofString d) np) [.Constant (.str t) k p] [] cpos)) none pos):=fun cx ρ A res outer π₀ s₀ G π Hc s x=>by
 simp only[zl4,zkg,zl3,zjA,zl2,zjz,zl1,zl0,zlZ,zdY,zfZ,zev,zfY,zfX]
 cases q with
 |false=>exact .inl rfl
 |true =>
  rw[if_neg (by simp)]
  obtain⟨C,X⟩:=x.b.ok.exc d hd;refine hold fun z_ k_=>?_;obtain⟨nm,qn,N,bs,bm,hdct,sn,sub,ab,col,dd,k0,k1,k2,k3,k5,mN,r1,r2,r3,r4⟩:=x.b.ok.rs d hd C X.name;refine k_ ?_;have hpl:backTo cpos (starEach [.Constant (.str t) k p] cx.env)=zav [.Constant (.str t) k p] cx.env:=zac _ (fun z hz=>by rw[List.mem_singleton.mp hz];rfl) _
  have kb:=x.st.hr.base;refine .inr (wpAny_Raise_call_subT (C:=C) (nm:=nm) (q:=qn) (N:=N) (bs:=bs) (bm:=bm) (hdct:=hdct) (sn:=sn) (sub:=sub) (ab:=ab) (col:=col) (dd:=dd) (k0:=k0) (k1:=k1) (k2:=k2) (k3:=k3) (k5:=k5) _root_.PySem.F.excBase_ValueError (r4.tail.hasType (by decide)) x.st.hd (by rw[hpl];rfl) (r3 _ (.head _)) (zdu x.b x.st.hr hg X.name ⟨rfl,?_⟩))
  rw[hpl];refine Calls.evalArgs_plain (spl1 (wpAny_Constant_str ⟨rfl,by simp;decide,kb _ _ r1,zdl kb r2,zi3 r4.tail kb,fun h' e hm=>?_⟩))
  have y:Step (Fs cx.stack) π s π { s with heap:=h',toks:=s.toks+1 }:=.keeps hm.keeps
  have Y:=x.step y (x.st.hr.keeps hm.keeps);refine hold fun z_ k_=>?_;obtain⟨t',e1,e2,e3⟩:=hm.there;refine k_ ?_;have low:(ground outer π₀ s₀.heap).StaysIn s.heap:=fun b o e=>of_hideAll _ (zcP x.f x.go b o e);exact⟨d,ρ,Hc,π,e,C,none,rfl,rfl,X.name,Y.go,Y.st,x.b.ne,⟨fun b o e=>hm.keeps b o (low b o e),zas low hm.new,_,_,e1,⟨rfl,rfl⟩,rfl,rfl,rfl⟩⟩
theorem zoa {am:Amb}{stack:List Env}{π:List Addr}{Hc:H}{h:Heap}(hr:HR am stack π Hc h){e:Addr}{o:Obj}{vs:Array Value}(ho:h.get? e=some o) (hd:o.data=.fields vs):e ∉ π∧e ∉ Fs stack:=by
 refine⟨fun hm=>?_,fun hm=>?_⟩
 ·obtain⟨i,hi,e1⟩:=List.getElem_of_mem hm
  have h1:π[i]?=some e:=by rw[List.getElem?_eq_getElem hi,e1]
  have h2:i < Hc.length:=by rw[←hr.len];exact hi
  obtain⟨o',ho',hn⟩:=(hr.cell i Hc[i] e (by simp[h2]) h1).obj
  rw[ho] at ho';cases ho';exact hn vs hd
 ·refine hold fun z_ k_=>?_
  obtain⟨_,o',ho',hn⟩:=hr.frames.mem hm;refine k_ ?_;rw[ho] at ho';cases ho';exact hn vs hd
theorem zjW {F:Fn}{body:List PS}{i:Nat}{f:String}{ρ:List V}{Hc:H}:exS true F (.try body "RingError" i [.ret (.callX f i)]) ρ Hc=(match exSs true F body ρ Hc with
  |.err d ρ' H'=>if zag.contains d then(match evE false F (ρ'.set i (.exc d)) (.callX f i) H' with
   |.ok w H2=>.ok (.ret w) ((ρ'.set i (.exc d)).set i .undef) H2
   |_=>.bad) else .bad
  |r=>r):=by
 simp only[zl4,zkg,zl3,zjA,zl2,zjz,zl1,zl0,zlZ,zdY,zfZ,zev,zfY,zfX];rw[if_neg (by simp)]
 cases exSs true F body ρ Hc with
 |bad=>rfl
 |ok f ρ h=>rfl
 |err d ρ' H' =>
  simp only[beq_self_eq_true,Bool.and_true,zpB,zod,zl4,zkg,zl3,zjA,zl2,zjz,zl1,zl0,zlZ,zdY,zfZ,zev,zfY,zfX]
  split
  ·cases evE false F (ρ'.set i (.exc d)) (.callX f i) H'<;>rfl
  ·rfl
theorem zjo {i:Nat}{f d:String}{v:Str}{p1 p2 p3 p4 hp:Pos}{C e:Addr}{w:V}{H2 H':H}{ρ':List V}{π':List Addr}(hv:c.var v i=true) (hkl:c.names.lookup v=some .local) (hinj:(c.ctx.map (·.2)).Nodup)
  (hx:c.glob (Str.ofString f)=true) (hf:f∈c.fns){cx:Cx}{ρ:List V}{A:Around}{res:List Addr}{outer:List Env}{π₀:List Addr}{s₀:Shared}{π:List Addr}{Hc:H}{s1 s:Shared}(X:Stm am n true F c cx A res outer π₀ s₀ (fun z_ z_=>True) ρ π Hc s1)
  (hC:am.mg (Str.ofString d)=some (.ref C)) (g1:Step (Fs outer) π₀ s₀ π' s) (g2:St (am.at res) true cx ρ' π' H' A s) (ne:NoExc ρ') (BF:∀ ρ,Base am n false F c cx ρ (A.mark (some (.ref e)))){fl:Value}(x₂:XAt (ground outer π₀ s₀.heap) s.heap e (.ref C) (some fl))
  (hev:evE false F (ρ'.set i (.exc d)) (.callX f i) H'=.ok w H2){R:Except Value Flow→Shared→Prop}{Q':Flow→Shared→Prop}{E':Value→Shared→Prop}(kR:∀ f s₂,wpAny am.M A (do bindName cx.env v .none;unbindBehindTheSuite cx.env v hp) (fun z_ s₃=>Q' f s₃) E' s₂→R (.ok f) s₂)
  (kq:∀ a s,SOk (am.at res) cx outer true A π₀ s₀ (fun z_ z_=>True) (.ok (.ret w) ((ρ'.set i (.exc d)).set i .undef) H2) a s→Q' a s) :
  codeAny am.M (A.mark (some (.ref e))) (.handlers (.ref e) [.ExceptHandler none (some v) [.Return (some (.Call (.Name (Str.ofString f) p1) [.Name v p2] [] p3)) p4] hp] cx.env) R s:=by
 refine codeAny_handlers_suite_as (zdZ (fr:=none) x₂ fun h₃ x₃ t₃=>?_);have g1:=g1.touch X.f g2.hr t₃;have g2:=g2.touch ne X.low t₃;have hv0:=hv;unfold Ck.var at hv;simp only[Bool.and_eq_true,beq_iff_eq,Bool.not_eq_true'] at hv;refine hold fun z_ k_=>?_;obtain⟨⟨⟨hv1,hv2⟩,hv3⟩,hv4⟩:=hv;refine k_ ?_;have hkl':cx.env.kindOf v=some .local:=by rw[zeH X.b.ck];exact hkl
 have hctx:cx.ctx.lookup v=some i:=by rw[X.b.ck.ctx];exact hv1
 have uniq:=ziv X.b.ck hv1 hinj;obtain⟨m,hm⟩:=g2.er.ns;refine wpAny_storeName_local hkl' hm (fun h₄ hn₄ sb₄=>?_) (by simp[X.b.cxk.kind])
 have p₄:Poke cx.env.locals h₃ h₄:=fun b o hb q=>sb₄.extBut b o hb q;refine hold fun z_ k_=>?_;obtain⟨st3,bn3,oe3,vs3,q1,q2,q3,q4,_⟩:=id x₃;refine k_ ?_;have off:=zoa g2.hr q1 q3;have hel:e≠cx.env.locals:=fun q=>(zhQ (Ns.nf hm) q1 q3) q.symm;have hr4:HR (am.at res) cx.stack π' H' h₄:=g2.hr.freed X.f.res X.f.base g2.er.locOff p₄ (Ns.nf hn₄);have ex4:ExcAt (am.at res) h₄ d e:=⟨C,oe3,vs3,hC,p₄ e oe3 hel q1,q2,q3,q4,zas X.low bn3⟩
 have er4:ER (am.at res) cx (ρ'.set i (.exc d)) π' h₄:=ER.setLocal (am:=am.at res) g2.er hm hn₄ p₄ X.f.res hctx hkl' uniq (fun z_=>⟨.ref e,rfl,.inr ⟨d,e,rfl,rfl,off.1,ex4⟩⟩);have hd4:Hd false (A.mark (some (.ref e))) π' (Fs cx.stack) h₄:=⟨e,oe3,vs3,rfl,off.1,off.2,p₄ e oe3 hel q1,q3,q4⟩;have g1:=g1.poke (tk:=s.toks+1) X.f.fresh p₄;have J:=ziO (p:=p1) (p':=p3) (p2:=p2) hx hf hv0 (BF (ρ'.set i (.exc d))) (s:={ s with heap:=h₄,toks:=s.toks+1 }) ⟨hr4,er4,hd4⟩
 rw[hev] at J
 rcases J with J|J
 ·cases J
 refine wpAny_execs_cons (wpAny_Return_some (wpAny_mono J (fun xv s₅ z=>?_) fun y s₅ z=>?_))
 ·refine hold fun z_ k_=>?_
  obtain⟨b,H4,π5,z1,z2,z3,z4⟩:=z;refine k_ ?_
  cases z1
  have er5:=er4.step (s':=s₅) z2;obtain⟨m5,hm5⟩:=er5.ns;have g1:=g1.inn X.f z2;refine kR _ _ (wpAny_nameGoes_keeps hkl' hm5 (by simp[X.b.cxk.kind]) fun h₆ v₆ hn₆ sb₆=>?_)
  have p₆:Poke cx.env.locals s₅.heap h₆:=fun b o hb q=>sb₆.extBut b o hb q;have g1:=g1.poke (tk:=s₅.toks+1) X.f.fresh p₆;refine kq _ _ ⟨.ret w,_,_,π5,rfl,g1,⟨z3.freed X.f.res X.f.base er5.locOff p₆ (Ns.nf hn₆),ER.setLocal (am:=am.at res) er5 hm5 hn₆ p₆ X.f.res hctx hkl' uniq (fun q=>absurd rfl q),X.st.hd⟩,fun z_=>?_,⟨xv,rfl,z4.free fun b o hb z=>p₆ b o (fun q=>hb (q ▸ X.f.res)) z⟩,trivial⟩;intro u hu k hk
  rw[List.set_set] at hu;exact ne.set (v:=.undef) (by simp) u hu k hk
 ·obtain⟨_,_,_,_,_,_,z,_⟩:=z;cases z
theorem zmB {i:Nat}{f d:String}{v:Str}{tp p1 p2 p3 p4 hp:Pos}{C e:Addr}{w:V}{H2 H':H}{ρ':List V}{π':List Addr}(hg:c.glob (Str.ofString "RingError")=true) (hdm:d∈zag) (hv:c.var v i=true) (hkl:c.names.lookup v=some .local) (hinj:(c.ctx.map (·.2)).Nodup)
  (hx:c.glob (Str.ofString f)=true) (hf:f∈c.fns){cx:Cx}{ρ:List V}{A:Around}{res:List Addr}{outer:List Env}{π₀:List Addr}{s₀:Shared}{π:List Addr}{Hc:H}{s1 s:Shared}(X:Stm am n true F c cx A res outer π₀ s₀ (fun z_ z_=>True) ρ π Hc s1)
  (hC:am.mg (Str.ofString d)=some (.ref C)) (g1:Step (Fs outer) π₀ s₀ π' s) (g2:St (am.at res) true cx ρ' π' H' A s) (ne:NoExc ρ'){fl:Value}(x₂:XAt (ground outer π₀ s₀.heap) s.heap e (.ref C) (some fl))
  (hev:evE false F (ρ'.set i (.exc d)) (.callX f i) H'=.ok w H2){Q':Flow→Shared→Prop}{E':Value→Shared→Prop}
  (kq:∀ a s,SOk (am.at res) cx outer true A π₀ s₀ (fun z_ z_=>True) (.ok (.ret w) ((ρ'.set i (.exc d)).set i .undef) H2) a s→Q' a s) :
  wpAny am.M A (handleBy (.ref e) cx.env [.ExceptHandler (some (.Name (Str.ofString "RingError") tp)) (some v) [.Return (some (.Call (.Name (Str.ofString f) p1) [.Name v p2] [] p3)) p4] hp]) Q' E' s:=by
 obtain⟨D,XD⟩:=X.b.ok.exc "RingError" (by simp[zag])
 have AS':AS n cx.stack (A.mark (some (.ref e))):=⟨X.b.as.frames,X.b.as.depth,X.b.as.units⟩;have BF:∀ ρ,Base am n false F c cx ρ (A.mark (some (.ref e))):=fun ρ=>⟨X.b.ok,X.b.fn,X.b.ck,X.b.cxk,AS',fun q=>by cases q⟩
 refine wpAny_handleBy_cons (codeAny_handlers_test (zdu (BF ρ') g2.hr hg XD.name ?_)) (by intro q;cases q)
 refine hold fun z_ k_=>?_;obtain⟨_,_,oe,vs,w1,w2,w3,w4,_⟩:=id x₂;refine k_ ?_;have LT:Looks am.M s.heap (typeOf (.ref e)) (.ref C):=by
  rw[←w2.1];exact(Looks.ld w1).andThen .now
 have XK:Frag.In am.K s.heap:=fun a o q=>g2.hr.base a o (X.b.ok.K a o q);refine(exm_one (M:=am.M) XK LT (X.b.ok.exm d hdm C D hC XD.name)) _ _ _ _ (fun z_ z_ q=>q) ?_;exact zjo hv hkl hinj hx hf X hC g1 g2 ne BF x₂ hev (fun z_ z_ h=>h) kq
theorem zqT {body:List PS}{ys:List Stmt}{i:Nat}{f:String}{v:Str}{p p1 p2 p3 p4 tp hp:Pos}(hbody:SsJ am n true F c body ys) (hg:c.glob (Str.ofString "RingError")=true) (hv:c.var v i=true) (hkl:c.names.lookup v=some .local) (hinj:(c.ctx.map (·.2)).Nodup)
  (hx:c.glob (Str.ofString f)=true) (hf:f∈c.fns){cx:Cx}{ρ:List V}{A:Around}{res:List Addr}{outer:List Env}{π₀:List Addr}{s₀:Shared}{π:List Addr}{Hc:H}{s:Shared}(X:Stm am n true F c cx A res outer π₀ s₀ (fun z_ z_=>True) ρ π Hc s) :
  SP (am.at res) cx outer true A π₀ s₀ (fun z_ z_=>True) (fun Q E s=>wpAny am.M A (exec (.Try ys [.ExceptHandler (some (.Name (Str.ofString "RingError") tp)) (some v) [.Return (some (.Call (.Name (Str.ofString f) p1) [.Name v p2] [] p3)) p4] hp] [] [] p) cx.env) Q E s)
   (exS true F (.try body "RingError" i [.ret (.callX f i)]) ρ Hc) s:=by
 rw[zjW]
 rcases hbody X with hb|hb
 ·rw[hb];exact .inl rfl
 cases hr:exSs true F body ρ Hc with
 |bad=>exact .inl rfl
 |ok fl ρ' H' =>
  rw[hr] at hb;refine .inr (zfj fun Q' E' kq ke=>wpAny_Try_except (wpAny_mono hb (fun g s' z=>?_) fun y s' z=>?_))
  ·replace kq:=kq g s' z
   obtain⟨fl',ρ2,H2,π2,z1,z2,z3,z4,z5,z6⟩:=z
   cases fl' with
   |next=>cases z5;exact wpAny_execs_nil kq
   |ret w=>obtain⟨xv,rfl,hxv⟩:=z5;exact kq
  ·obtain⟨_,_,_,_,_,_,_,z,_⟩:=z;cases z
 |err d ρ' H' =>
  rw[hr] at hb;simp only
  by_cases hdc:zag.contains d=true
  ·rw[if_pos hdc]
   have hdm:d∈zag:=by simpa using hdc
   cases hev:evE false F (ρ'.set i (.exc d)) (.callX f i) H' with
   |bad=>exact .inl rfl
   |err _ _=>exact .inl rfl
   |ok w H2 =>
    simp only;refine .inr (zfj fun Q' E' kq z_=>?_);refine wpAny_Try_except (wpAny_mono hb (fun g s' z=>?_) fun y s' z=>?_)
    ·obtain⟨_,_,_,_,z,_⟩:=z;cases z
    refine hold fun z_ k_=>?_;obtain⟨d',ρ2,H3,π',e,C,fl,z1,rfl,hC,g1,g2,ne,x0⟩:=z;refine k_ ?_
    cases z1
    have fr:A.frames=some cx.stack:=X.b.as.frames;have ne:=ne rfl;have fr':A.frames=some (cx.env::outer):=by rw[←X.f.top.1];exact fr
    have fl':=zdA (π₀:=π₀) X.f g2.hr;rw[X.f.top.1] at fl';refine zjB fr' fl' X.f.top.2 x0 fun h₁ x₁ t₁=>?_;have g1:=g1.touch X.f g2.hr t₁;have g2:=g2.touch ne X.low t₁;refine zdZ (fr:=none) x₁ fun h₂ x₂ t₂=>?_;have g1:=g1.touch X.f g2.hr t₂;have g2:=g2.touch ne X.low t₂;exact zmB hg hdm hv hkl hinj hx hf X hC g1 g2 ne x₂ hev kq
  ·rw[if_neg hdc];exact .inl rfl
end
noncomputable def yExpr (e:Stmt) (p:Expr→Bool):Bool:=dite (e.ctorIdx=24) (fun hc=>(@Stmt.Expr.elim (fun z_=>Bool) e hc fun y z_=>p y)) fun z_=>false
theorem zmG {e:Stmt}{p:Expr→Bool}{G:Stmt→Prop}(h:yExpr e p=true) (k:∀ y q,p y=true→G (.Expr y q)):G e :=
 zah h fun hc h=>@Stmt.Expr.elim (fun e=>∀ hc:e.ctorIdx=24,(@Stmt.Expr.elim (fun z_=>Bool) e hc fun y z_=>p y)=true→G e) e hc (fun y q z_ h=>k y q h) hc h
noncomputable def yAsg (e:Stmt) (p:List Expr→Expr→Bool):Bool:=dite (e.ctorIdx=5) (fun hc=>(@Stmt.Assign.elim (fun z_=>Bool) e hc fun ts y z_=>p ts y)) fun z_=>false
theorem zic {e:Stmt}{p:List Expr→Expr→Bool}{G:Stmt→Prop}(h:yAsg e p=true) (k:∀ ts y q,p ts y=true→G (.Assign ts y q)):G e :=
 zah h fun hc h=>@Stmt.Assign.elim (fun e=>∀ hc:e.ctorIdx=5,(@Stmt.Assign.elim (fun z_=>Bool) e hc fun ts y z_=>p ts y)=true→G e) e hc (fun ts y q z_ h=>k ts y q h) hc h
noncomputable def yRet (e:Stmt) (p:Option Expr→Bool):Bool:=dite (e.ctorIdx=3) (fun hc=>(@Stmt.Return.elim (fun z_=>Bool) e hc fun y z_=>p y)) fun z_=>false
theorem zkb {e:Stmt}{p:Option Expr→Bool}{G:Stmt→Prop}(h:yRet e p=true) (k:∀ y q,p y=true→G (.Return y q)):G e :=
 zah h fun hc h=>@Stmt.Return.elim (fun e=>∀ hc:e.ctorIdx=3,(@Stmt.Return.elim (fun z_=>Bool) e hc fun y z_=>p y)=true→G e) e hc (fun y q z_ h=>k y q h) hc h
noncomputable def yIf (e:Stmt) (p:Expr→List Stmt→List Stmt→Bool):Bool:=dite (e.ctorIdx=12) (fun hc=>(@Stmt.If.elim (fun z_=>Bool) e hc fun t a b z_=>p t a b)) fun z_=>false
theorem zoH {e:Stmt}{p:Expr→List Stmt→List Stmt→Bool}{G:Stmt→Prop}(h:yIf e p=true) (k:∀ t a b q,p t a b=true→G (.If t a b q)):G e :=
 zah h fun hc h=>@Stmt.If.elim (fun e=>∀ hc:e.ctorIdx=12,(@Stmt.If.elim (fun z_=>Bool) e hc fun t a b z_=>p t a b)=true→G e) e hc (fun t a b q z_ h=>k t a b q h) hc h
noncomputable def yWhile (e:Stmt) (p:Expr→List Stmt→List Stmt→Bool):Bool:=dite (e.ctorIdx=11) (fun hc=>(@Stmt.While.elim (fun z_=>Bool) e hc fun t a b z_=>p t a b)) fun z_=>false
theorem zjL {e:Stmt}{p:Expr→List Stmt→List Stmt→Bool}{G:Stmt→Prop}(h:yWhile e p=true) (k:∀ t a b q,p t a b=true→G (.While t a b q)):G e :=
 zah h fun hc h=>@Stmt.While.elim (fun e=>∀ hc:e.ctorIdx=11,(@Stmt.While.elim (fun z_=>Bool) e hc fun t a b z_=>p t a b)=true→G e) e hc (fun t a b q z_ h=>k t a b q h) hc h
noncomputable def yFor (e:Stmt) (p:Expr→Expr→List Stmt→List Stmt→Bool):Bool:=dite (e.ctorIdx=9) (fun hc=>(@Stmt.For.elim (fun z_=>Bool) e hc fun t y a b z_=>p t y a b)) fun z_=>false
theorem zoP {e:Stmt}{p:Expr→Expr→List Stmt→List Stmt→Bool}{G:Stmt→Prop}(h:yFor e p=true) (k:∀ t y a b q,p t y a b=true→G (.For t y a b q)):G e :=
 zah h fun hc h=>@Stmt.For.elim (fun e=>∀ hc:e.ctorIdx=9,(@Stmt.For.elim (fun z_=>Bool) e hc fun t y a b z_=>p t y a b)=true→G e) e hc (fun t y a b q z_ h=>k t y a b q h) hc h
noncomputable def yRaise (e:Stmt) (p:Option Expr→Option Expr→Bool):Bool:=dite (e.ctorIdx=16) (fun hc=>(@Stmt.Raise.elim (fun z_=>Bool) e hc fun y z z_=>p y z)) fun z_=>false
theorem zkf {e:Stmt}{p:Option Expr→Option Expr→Bool}{G:Stmt→Prop}(h:yRaise e p=true) (k:∀ y z q,p y z=true→G (.Raise y z q)):G e :=
 zah h fun hc h=>@Stmt.Raise.elim (fun e=>∀ hc:e.ctorIdx=16,(@Stmt.Raise.elim (fun z_=>Bool) e hc fun y z z_=>p y z)=true→G e) e hc (fun y z q z_ h=>k y z q h) hc h
noncomputable def yPass (e:Stmt) (p:Bool):Bool:=dite (e.ctorIdx=25) (fun hc=>(@Stmt.Pass.elim (fun z_=>Bool) e hc fun z_=>p)) fun z_=>false
theorem zl7 {e:Stmt}{p:Bool}{G:Stmt→Prop}(h:yPass e p=true) (k:∀ q,p=true→G (.Pass q)):G e :=
 zah h fun hc h=>@Stmt.Pass.elim (fun e=>∀ hc:e.ctorIdx=25,(@Stmt.Pass.elim (fun z_=>Bool) e hc fun z_=>p)=true→G e) e hc (fun q z_ h=>k q h) hc h
noncomputable def yTry (e:Stmt) (p:List Stmt→List ExceptHandler→List Stmt→List Stmt→Bool):Bool:=dite (e.ctorIdx=17) (fun hc=>(@Stmt.Try.elim (fun z_=>Bool) e hc fun a hs b d z_=>p a hs b d)) fun z_=>false
theorem znP {e:Stmt}{p:List Stmt→List ExceptHandler→List Stmt→List Stmt→Bool}{G:Stmt→Prop}(h:yTry e p=true) (k:∀ a hs b d q,p a hs b d=true→G (.Try a hs b d q)):G e :=
 zah h fun hc h=>@Stmt.Try.elim (fun e=>∀ hc:e.ctorIdx=17,(@Stmt.Try.elim (fun z_=>Bool) e hc fun a hs b d z_=>p a hs b d)=true→G e) e hc (fun a hs b d q z_ h=>k a hs b d q h) hc h
noncomputable def yHand (x:ExceptHandler) (p:Option Expr→Option Str→List Stmt→Bool):Bool:=@ExceptHandler.casesOn (fun z_=>Bool) x fun t v b z_=>p t v b
theorem zmA {x:ExceptHandler}{p:Option Expr→Option Str→List Stmt→Bool}{G:ExceptHandler→Prop}(h:yHand x p=true) (k:∀ t v b q,p t v b=true→G (.ExceptHandler t v b q)):G x :=
 @ExceptHandler.casesOn (fun x=>yHand x p=true→G x) x (fun t v b q h=>k t v b q h) h
noncomputable def xStr (e:Expr):Bool:=dite (e.ctorIdx=19) (fun hc=>@Expr.Constant.elim (fun z_=>Bool) e hc fun v z_ z_=>decide (v.ctorIdx=(Const.str "").ctorIdx)) fun z_=>false
theorem znU {e:Expr}{G:Expr→Prop}(h:xStr e=true) (k:∀ t n q,G (.Constant (.str t) n q)):G e :=
 zah h fun hc h=>@Expr.Constant.elim (fun e=>∀ hc:e.ctorIdx=19,(@Expr.Constant.elim (fun z_=>Bool) e hc fun v z_ z_=>decide (v.ctorIdx=(Const.str "").ctorIdx))=true→G e) e hc (fun v n q z_ h=>@Const.str.elim (fun v=>G (.Constant v n q)) v (of_decide_eq_true h) fun t=>k t n q) hc h
noncomputable def pComp (e:PE) (p:PE→Nat→PIt→Option PE→Bool):Bool:=match e with|.comp a b c d=>p a b c d|_=>false
theorem zgQ {e:PE}{p:PE→Nat→PIt→Option PE→Bool}{G:PE→Prop}(h:pComp e p=true) (k:∀ a b c d,p a b c d=true→G (.comp a b c d)):G e:=by
 cases e<;>first|exact k _ _ _ _ h|exact absurd h Bool.false_ne_true
noncomputable def pOwn (e:PE) (p:PE→Bool):Bool:=match e with|.own a=>p a|_=>false
theorem zl9 {e:PE}{p:PE→Bool}{G:PE→Prop}(h:pOwn e p=true) (k:∀ a,p a=true→G (.own a)):G e:=by
 cases e<;>first|exact k _ h|exact absurd h Bool.false_ne_true
noncomputable def pCompO (e:PE) (p:Bool→PE→Bool):Bool:=(pComp e fun a b c d=>p false (.comp a b c d))||pOwn e fun a=>pComp a fun a b c d=>p true (.comp a b c d)
theorem zjc {e:PE}{p:Bool→PE→Bool}{G:PE→Prop}(h:pCompO e p=true) (k:∀ o a b c d,p o (.comp a b c d)=true→G (if o then .own (.comp a b c d) else .comp a b c d)):G e:=by
 rcases(Bool.or_eq_true _ _).mp h with h|h
 ·exact zgQ h fun a b c d h=>k false a b c d h
 ·exact zl9 h fun a h=>zgQ (G:=fun a=>G (.own a)) h fun a b c d h=>k true a b c d h
noncomputable def ckA (c:Ck) (e:PE) (y:Expr):Bool:=(!isComp y&&ckE c e y)||pCompO e fun z_ e=>ckE c e y
mutual
noncomputable def ckS (c:Ck):PS→Stmt→Bool
 |.expr e,x=>yExpr x fun y=>isCall y&&ckE c e y
 |.asg i e,x=>yAsg x fun ts y=>one ts fun u=>xName u fun v=>c.var v i&&(c.names.lookup v != some .free&&ckA c e y)
 |.asgT is e,x=>yAsg x fun ts y=>one ts fun u=>xTup u fun us=>!isComp y&&(decide (y.ctorIdx≠25)&&(ckTg c is us&&ckE c e y))
 |.setIdx o i e,x=>yAsg x fun ts y=>one ts fun u=>xSub u fun v s=>!isComp y&&(ckE c o v&&(ckE c i s&&ckE c e y))
 |.ret e,x=>yRet x fun t=>oneO t fun y=>ckE c e y
 |.ifs t a b,x=>yIf x fun t' a' b'=>ckE c t t'&&(ckSs c a a'&&ckSs c b b')
 |.while t a,x=>yWhile x fun t' a' b'=>ckE c t t'&&(ckSs c a a'&&b'.isEmpty)
 |.for1 i it body,x=>yFor x fun t y a b=>b.isEmpty&&(ckIt c it y&&(!isSet y&&((xName t fun v=>c.var v i&&c.names.lookup v != some .free)&&ckSs c body a)))
 |.raise d,x=>yRaise x fun y z=>z.isNone&&oneO y fun e=>xNamed e (Str.ofString d) fun xs=>one xs fun z=>c.glob (Str.ofString d)&&(zag.contains d&&xStr z)
 |.pass,x=>yPass x true
 |_,_=>false
noncomputable def ckSs (c:Ck):List PS→List Stmt→Bool
 |[],xs=>xs.isEmpty
 |p::ps,xs=>(match xs with|x::xs=>ckS c p x&&ckSs c ps xs|[]=>false)
end
noncomputable def pRet (e:PS) (p:PE→Bool):Bool:=match e with|.ret a=>p a|_=>false
theorem zl8 {e:PS}{p:PE→Bool}{G:PS→Prop}(h:pRet e p=true) (k:∀ a,p a=true→G (.ret a)):G e:=by
 cases e<;>first|exact k _ h|exact absurd h Bool.false_ne_true
noncomputable def pCallX (e:PE) (p:String→Nat→Bool):Bool:=match e with|.callX a b=>p a b|_=>false
theorem zjd {e:PE}{p:String→Nat→Bool}{G:PE→Prop}(h:pCallX e p=true) (k:∀ a b,p a b=true→G (.callX a b)):G e:=by
 cases e<;>first|exact k _ _ h|exact absurd h Bool.false_ne_true
noncomputable def ckHand (c:Ck) (i:Nat) (hd:List PS) (z:ExceptHandler):Bool :=
 one hd fun r=>pRet r fun e=>pCallX e fun f j=>decide (j=i)&&yHand z fun t v b=>(oneO t fun e=>zdt e (Str.ofString "RingError") true) &&
  oneO v fun v=>c.var v i&&(c.names.lookup v == some .local&&one b fun b=>yRet b fun r=>oneO r fun e=>xNamed e (Str.ofString f) fun xs=>one xs fun a=>zdt a v true&&(c.glob (Str.ofString f)&&c.fns.contains f))
noncomputable def ckTry (c:Ck) (body:List PS) (d:String) (i:Nat) (hd:List PS) (x:Stmt):Bool :=
 yTry x fun a hs b e=>one hs fun z=>b.isEmpty&&(e.isEmpty&&(decide (d="RingError")&&(ckSs c body a&&(c.glob (Str.ofString "RingError")&&ckHand c i hd z))))
noncomputable def ckT (c:Ck):PS→Stmt→Bool
 |.try body d i hd,x=>ckTry c body d i hd x
 |p,x=>ckS c p x
noncomputable def ckTs (c:Ck):List PS→List Stmt→Bool
 |[],xs=>xs.isEmpty
 |p::ps,xs=>(match xs with|x::xs=>ckT c p x&&ckTs c ps xs|[]=>false)
section
variable {am:Amb}{n:Nat}{F:Fn}
theorem zi4 {e:Expr}{gs:List Comprehension}{scope:Scope}{pos p':Pos}{v:Str}{l:Nat}{env:Env}:∃ b,swapsWith (.ListComp e gs scope pos) (some (.Name v p')) l env=pure b:=⟨_,rfl⟩
theorem zjx {q own:Bool}{c:Ck}(hinj:(c.ctx.map (·.2)).Nodup){i j:Nat}{elt:PE}{it:PIt}{cond:Option PE}{v:Str}{y:Expr}{p p':Pos}(hv:c.var v i=true) (hk:c.names.lookup v≠some .free) (h:ckE c (.comp elt j it cond) y=true):SJ am n q F c (.asg i (if own then .own (.comp elt j it cond) else .comp elt j it cond)) (.Assign [.Name v p'] y p):=by
 have hx:=zad (am:=am) (n:=n) (F:=F) q c (.comp elt j it cond) y h;have he:EJ am n q F c (if own then .own (.comp elt j it cond) else .comp elt j it cond) y:=by
  cases own
  ·exact hx.1.1
  ·exact(hx.2 rfl).1
 refine znn (G:=fun y=>EJ am n q F c (if own then .own (.comp elt j it cond) else .comp elt j it cond) y→SJ am n q F c (.asg i (if own then .own (.comp elt j it cond) else .comp elt j it cond)) (.Assign [.Name v p'] y p)) h (fun el gs scope pos h he=>?_) he;refine zkY (G:=fun gs=>EJ am n q F c (if own then .own (.comp elt j it cond) else .comp elt j it cond) (.ListComp el gs scope pos)→SJ am n q F c (.asg i (if own then .own (.comp elt j it cond) else .comp elt j it cond)) (.Assign [.Name v p'] (.ListComp el gs scope pos) p)) h (fun x' iter ifs px hh he=>?_) he
 have h1:=al hh;have hh:=ar hh;have h2:=nt (al hh);have hh:=ar hh;have h3:=al hh;have hh:=ar hh;have h4:=al hh;have hh:=ar hh;intro cx ρ A res outer π₀ s₀ G π Hc s x;obtain⟨b,hb⟩:=zi4 (e:=el) (gs:=[⟨.Name x' px,iter,ifs,0⟩]) (scope:=scope) (pos:=pos) (p':=p') (v:=v) (l:=p.line) (env:=cx.env)
 cases b with
 |false=>exact zet hv hk hinj he x hb
 |true =>
  cases q with
  |false=>exact .inl (by cases own<;>rfl)
  |true=>exact zi7 h2 h3 h4 (zh8 c it _ h1) (zad true _ elt _ (al hh)).1.1 (znB _ cond _ (ar hh)) hv hk hinj x hb
theorem zqF {q:Bool}{c:Ck}(hinj:(c.ctx.map (·.2)).Nodup){i:Nat}{e:PE}{v:Str}{y:Expr}{p p':Pos}(hv:c.var v i=true) (hk:c.names.lookup v≠some .free) (h:ckA c e y=true):SJ am n q F c (.asg i e) (.Assign [.Name v p'] y p):=by
 rcases(Bool.or_eq_true _ _).mp h with h|h
 ·exact fun cx ρ A res outer π₀ s₀ G π Hc s x=>zet hv hk hinj (zad (am:=am) (n:=n) (F:=F) q c e y (ar h)).1.1 x (zc4 (nt (al h)) _ _ _)
 ·exact zjc (G:=fun e=>SJ am n q F c (.asg i e) (.Assign [.Name v p'] y p)) h fun o a b d e h=>zjx hinj hv hk h
mutual
theorem znz {c:Ck}(hinj:(c.ctx.map (·.2)).Nodup) (q:Bool):∀ (p:PS) (x:Stmt),ckS c p x=true→SJ am n q F c p x
 |.expr e,x,h=>by
  refine zmG (G:=SJ am n q F c (.expr e)) h fun y p h=>?_;exact zpw (al h) (zad q c e _ (ar h)).1.1
 |.asg i e,x,h=>by
  refine zic (G:=SJ am n q F c (.asg i e)) h fun ts y p h=>?_;refine zax (G:=fun ts=>SJ am n q F c (.asg i e) (.Assign ts y p)) h fun u h=>?_;refine zcu (G:=fun u=>SJ am n q F c (.asg i e) (.Assign [u] y p)) h fun v p' h=>?_;exact zqF hinj (al h) (bne_iff_ne.mp (al (ar h))) (ar (ar h))
 |.ret e,x,h=>by
  refine zkb (G:=SJ am n q F c (.ret e)) h fun t p h=>?_;refine zbX (G:=fun t=>SJ am n q F c (.ret e) (.Return t p)) h fun y h=>?_;exact zqU (zad q c e _ h).1.1
 |.ifs t a b,x,h=>by
  refine zoH (G:=SJ am n q F c (.ifs t a b)) h fun t' a' b' p h=>?_;exact zrt (zad q c t _ (al h)).1.2 (zdE hinj q a _ (al (ar h))) (zdE hinj q b _ (ar (ar h)))
 |.for1 i it body,x,h=>by
  refine zoP (G:=SJ am n q F c (.for1 i it body)) h fun t y a b p h=>?_;refine zbj (G:=fun b=>SJ am n q F c (.for1 i it body) (.For t y a b p)) (al h) ?_;refine zcu (G:=fun t=>SJ am n q F c (.for1 i it body) (.For t y a [] p)) (al (ar (ar (ar h)))) fun v p' h7=>?_
  cases q with
  |true=>exact zpv (nt (al (ar (ar h)))) (zh8 c it _ (al (ar h))) (zdE hinj true body _ (ar (ar (ar (ar h))))) (al h7) (bne_iff_ne.mp (ar h7)) hinj
  |false=>exact fun cx ρ A res outer π₀ s₀ G π Hc s x=>.inl rfl
 |.raise d,x,h=>by
  refine zkf (G:=SJ am n q F c (.raise d)) h fun y z p h=>?_;refine zdn (G:=fun z=>SJ am n q F c (.raise d) (.Raise y z p)) (al h) ?_;refine zbX (G:=fun y=>SJ am n q F c (.raise d) (.Raise y none p)) (ar h) fun e h=>?_;refine zbr (G:=fun e=>SJ am n q F c (.raise d) (.Raise (some e) none p)) h fun xs q1 q2 h=>?_;refine zax (G:=fun xs=>SJ am n q F c (.raise d) (.Raise (some (.Call (.Name (Str.ofString d) q1) xs [] q2)) none p)) h fun z h=>?_
  refine znU (G:=fun z=>SJ am n q F c (.raise d) (.Raise (some (.Call (.Name (Str.ofString d) q1) [z] [] q2)) none p)) (ar (ar h)) fun t k p3=>?_;exact zn3 (List.contains_iff_mem.mp (al (ar h))) (al h)
 |.pass,x,h=>zl7 (G:=SJ am n q F c .pass) h fun p z_=>zpu
 |.asgT is e,x,h=>by
  refine zic (G:=SJ am n q F c (.asgT is e)) h fun ts y p h=>?_;refine zax (G:=fun ts=>SJ am n q F c (.asgT is e) (.Assign ts y p)) h fun u h=>?_;refine zjV (G:=fun u=>SJ am n q F c (.asgT is e) (.Assign [u] y p)) h fun us k tp h=>?_
  cases q with
  |true=>exact zpx (nt (al h)) (of_decide_eq_true (al (ar h))) (al (ar (ar h))) hinj (zad true c e _ (ar (ar (ar h)))).1.1
  |false=>exact fun cx ρ A res outer π₀ s₀ G π Hc s x=>.inl rfl
 |.while t a,x,h=>by
  refine zjL (G:=SJ am n q F c (.while t a)) h fun t' a' b' p h=>?_;refine zbj (G:=fun b'=>SJ am n q F c (.while t a) (.While t' a' b' p)) (ar (ar h)) ?_
  cases q with
  |true=>exact zn2 (zad true c t _ (al h)).1.2 (zdE hinj true a _ (al (ar h)))
  |false=>exact fun cx ρ A res outer π₀ s₀ G π Hc s x=>.inl rfl
 |.setIdx o i e,x,h=>by
  refine zic (G:=SJ am n q F c (.setIdx o i e)) h fun ts y p h=>?_;refine zax (G:=fun ts=>SJ am n q F c (.setIdx o i e) (.Assign ts y p)) h fun u h=>?_;refine zfQ (G:=fun u=>SJ am n q F c (.setIdx o i e) (.Assign [u] y p)) h fun v s tp h=>?_;exact zlR (nt (al h)) (zad q c o _ (al (ar h))).1.1 (zad q c i _ (al (ar (ar h)))).1.1 (zad q c e _ (ar (ar (ar h)))).1.1
 |.setIdx2 ..,x,h=>by cases h
 |.for2 ..,x,h=>by cases h
 |.try ..,x,h=>by cases h
 |.frz ..,x,h=>by cases h
theorem zdE {c:Ck}(hinj:(c.ctx.map (·.2)).Nodup) (q:Bool):∀ (ps:List PS) (xs:List Stmt),ckSs c ps xs=true→SsJ am n q F c ps xs
 |[],xs,h=>zbj (G:=SsJ am n q F c []) h znc
 |p::ps,xs,h=>by
  cases xs with
  |nil=>cases h
  |cons x xs =>
   have h:(ckS c p x&&ckSs c ps xs)=true:=h;exact znV (znz hinj q p x (al h)) (zdE hinj q ps xs (ar h))
end
noncomputable def YJ (am:Amb) (n:Nat) (F:Fn) (c:Ck) (body hd:List PS) (d:String) (i:Nat) (x:Stmt):Prop:=∀ ⦃cx:Cx⦄ ⦃ρ:List V⦄ ⦃A:Around⦄ ⦃res:List Addr⦄ ⦃outer:List Env⦄ ⦃π₀:List Addr⦄ ⦃s₀:Shared⦄ ⦃π:List Addr⦄ ⦃Hc:H⦄ ⦃s:Shared⦄,
  Stm am n true F c cx A res outer π₀ s₀ (fun z_ z_=>True) ρ π Hc s→SP (am.at res) cx outer true A π₀ s₀ (fun z_ z_=>True) (fun Q E s=>wpAny am.M A (exec x cx.env) Q E s) (exS true F (.try body d i hd) ρ Hc) s
theorem zoL {c:Ck}(hinj:(c.ctx.map (·.2)).Nodup){body hd:List PS}{i:Nat}{a:List Stmt}{z:ExceptHandler}{p:Pos}(ha:SsJ am n true F c body a) (hg:c.glob (Str.ofString "RingError")=true) (h:ckHand c i hd z=true):YJ am n F c body hd "RingError" i (.Try a [z] [] [] p):=by
 refine zax (G:=fun hd=>YJ am n F c body hd "RingError" i (.Try a [z] [] [] p)) h fun r h=>?_;refine zl8 (G:=fun r=>YJ am n F c body [r] "RingError" i (.Try a [z] [] [] p)) h fun e h=>?_;refine zjd (G:=fun e=>YJ am n F c body [.ret e] "RingError" i (.Try a [z] [] [] p)) h fun f j h=>?_
 cases of_decide_eq_true (al h)
 refine zmA (G:=fun z=>YJ am n F c body [.ret (.callX f i)] "RingError" i (.Try a [z] [] [] p)) (ar h) fun t v b hp h=>?_;refine zbX (G:=fun t=>YJ am n F c body [.ret (.callX f i)] "RingError" i (.Try a [.ExceptHandler t v b hp] [] [] p)) (al h) fun e h0=>?_;refine zcg (G:=fun e=>YJ am n F c body [.ret (.callX f i)] "RingError" i (.Try a [.ExceptHandler (some e) v b hp] [] [] p)) h0 fun tp z_=>?_;refine zbX (G:=fun v=>YJ am n F c body [.ret (.callX f i)] "RingError" i (.Try a [.ExceptHandler (some (.Name (Str.ofString "RingError") tp)) v b hp] [] [] p)) (ar h) fun v h=>?_
 have b1:=al h;have b2:=beq_iff_eq.mp (al (ar h));refine zax (G:=fun b=>YJ am n F c body [.ret (.callX f i)] "RingError" i (.Try a [.ExceptHandler (some (.Name (Str.ofString "RingError") tp)) (some v) b hp] [] [] p)) (ar (ar h)) fun b h=>?_;refine zkb (G:=fun b=>YJ am n F c body [.ret (.callX f i)] "RingError" i (.Try a [.ExceptHandler (some (.Name (Str.ofString "RingError") tp)) (some v) [b] hp] [] [] p)) h fun r p4 h=>?_
 refine zbX (G:=fun r=>YJ am n F c body [.ret (.callX f i)] "RingError" i (.Try a [.ExceptHandler (some (.Name (Str.ofString "RingError") tp)) (some v) [.Return r p4] hp] [] [] p)) h fun e h=>?_;refine zbr (G:=fun e=>YJ am n F c body [.ret (.callX f i)] "RingError" i (.Try a [.ExceptHandler (some (.Name (Str.ofString "RingError") tp)) (some v) [.Return (some e) p4] hp] [] [] p)) h fun xs p1 p3 h=>?_
 refine zax (G:=fun xs=>YJ am n F c body [.ret (.callX f i)] "RingError" i (.Try a [.ExceptHandler (some (.Name (Str.ofString "RingError") tp)) (some v) [.Return (some (.Call (.Name (Str.ofString f) p1) xs [] p3)) p4] hp] [] [] p)) h fun y h=>?_;refine zcg (G:=fun y=>YJ am n F c body [.ret (.callX f i)] "RingError" i (.Try a [.ExceptHandler (some (.Name (Str.ofString "RingError") tp)) (some v) [.Return (some (.Call (.Name (Str.ofString f) p1) [y] [] p3)) p4] hp] [] [] p)) (al h) fun p2 z_=>?_
 exact fun cx ρ A res outer π₀ s₀ π Hc s X=>zqT ha hg b1 b2 hinj (al (ar h)) (List.contains_iff_mem.mp (ar (ar h))) X
theorem zjt {c:Ck}(hinj:(c.ctx.map (·.2)).Nodup){body hd:List PS}{d:String}{i:Nat}{x:Stmt}(h:ckTry c body d i hd x=true):YJ am n F c body hd d i x:=by
 refine znP (G:=YJ am n F c body hd d i) h fun a hs b e p h=>?_;refine zax (G:=fun hs=>YJ am n F c body hd d i (.Try a hs b e p)) h fun z h=>?_;refine zbj (G:=fun b=>YJ am n F c body hd d i (.Try a [z] b e p)) (al h) ?_;have h:=ar h;refine zbj (G:=fun e=>YJ am n F c body hd d i (.Try a [z] [] e p)) (al h) ?_;have h:=ar h
 cases of_decide_eq_true (al h)
 have h:=ar h;exact zoL hinj (zdE hinj true _ _ (al h)) (al (ar h)) (ar (ar h))
theorem zmT {c:Ck}(hinj:(c.ctx.map (·.2)).Nodup) (q:Bool){body hd:List PS}{d:String}{i:Nat}{x:Stmt}(h:ckTry c body d i hd x=true) ⦃cx:Cx⦄ ⦃ρ:List V⦄ ⦃A:Around⦄ ⦃res:List Addr⦄ ⦃outer:List Env⦄ ⦃π₀:List Addr⦄ ⦃s₀:Shared⦄ ⦃π:List Addr⦄ ⦃Hc:H⦄ ⦃s:Shared⦄
  (X:Stm am n q F c cx A res outer π₀ s₀ (fun z_ z_=>True) ρ π Hc s):SP (am.at res) cx outer q A π₀ s₀ (fun z_ z_=>True) (fun Q E s=>wpAny am.M A (exec x cx.env) Q E s) (exS q F (.try body d i hd) ρ Hc) s:=by
 cases q with
 |true=>exact zjt hinj h X
 |false=>exact .inl rfl
noncomputable def TsJ (am:Amb) (n:Nat) (q:Bool) (F:Fn) (c:Ck) (ps:List PS) (xs:List Stmt):Prop:=∀ ⦃cx:Cx⦄ ⦃ρ:List V⦄ ⦃A:Around⦄ ⦃res:List Addr⦄ ⦃outer:List Env⦄ ⦃π₀:List Addr⦄ ⦃s₀:Shared⦄ ⦃π:List Addr⦄ ⦃Hc:H⦄ ⦃s:Shared⦄,
 Stm am n q F c cx A res outer π₀ s₀ (fun z_ z_=>True) ρ π Hc s→SP (am.at res) cx outer q A π₀ s₀ (fun z_ z_=>True) (fun Q E s=>wpAny am.M A (execs xs cx.env) Q E s) (exSs q F ps ρ Hc) s
theorem znO {q:Bool}{c:Ck}{p:PS}{ps:List PS}{y:Stmt}{ys:List Stmt}
  (h1:∀ ⦃cx:Cx⦄ ⦃ρ:List V⦄ ⦃A:Around⦄ ⦃res:List Addr⦄ ⦃outer:List Env⦄ ⦃π₀:List Addr⦄ ⦃s₀:Shared⦄ ⦃π:List Addr⦄ ⦃Hc:H⦄ ⦃s:Shared⦄,Stm am n q F c cx A res outer π₀ s₀ (fun z_ z_=>True) ρ π Hc s→SP (am.at res) cx outer q A π₀ s₀ (fun z_ z_=>True) (fun Q E s=>wpAny am.M A (exec y cx.env) Q E s) (exS q F p ρ Hc) s)
  (h2:TsJ am n q F c ps ys):TsJ am n q F c (p::ps) (y::ys):=fun cx ρ A res outer π₀ s₀ π Hc s x=>zj6 x (h1 x) fun z_ z_ z_ z_ x'=>h2 x'
theorem zlm {c:Ck}(hinj:(c.ctx.map (·.2)).Nodup) (q:Bool):∀ (ps:List PS) (xs:List Stmt),ckTs c ps xs=true→TsJ am n q F c ps xs
 |[],xs,h=>by
  cases xs with
  |nil=>exact fun cx ρ A res outer π₀ s₀ π Hc s x=>znc x
  |cons _ _=>cases h
 |p::ps,xs,h=>by
  cases xs with
  |nil=>cases h
  |cons x xs =>
   obtain⟨h1,h2⟩:=Bool.and_eq_true_iff.mp (show(ckT c p x&&ckTs c ps xs)=true from h);refine znO ?_ (zlm hinj q ps xs h2);intro cx ρ A res outer π₀ s₀ π Hc s X
   cases p with
   |«try» body d i hd=>exact zmT hinj q h1 X
   |_=>exact znz hinj q _ _ h1 X
end
theorem ziG {α β:Type}{f g:α→Option β}:∀ {l:List α},(∀ x∈l,f x=g x)→l.filterMap f=l.filterMap g
 |[],_=>rfl
 |a::l,h=>by
  rw[List.filterMap_cons,List.filterMap_cons,h a (by simp),ziG fun x hx=>h x (by simp[hx])]
theorem zjm {ns:List Str}(hn:ns.Nodup):∀ {vs:List Value},vs.length=ns.length→ns.filterMap (fun n=>((ns.zip vs).lookup n).map (n,·))=ns.zip vs:=by
 induction ns with
 |nil=>intro vs _;simp
 |cons a ns ih =>
  intro vs hl
  cases vs with
  |nil=>simp at hl
  |cons v vs =>
   rw[List.nodup_cons] at hn;simp only[List.zip_cons_cons,List.filterMap_cons,List.lookup_cons,beq_self_eq_true,Option.map_some]
   congr 1
   refine Eq.trans (ziG fun x hx=>?_) (ih hn.2 (vs:=vs) (by simpa using hl))
   have:(x == a)=false:=by
    rw[beq_eq_false_iff_ne];rintro rfl;exact hn.1 hx
   rw[this]
theorem zhR {ns:List Str}:∀ {vs:List Value},vs.length=ns.length→∀ n∈ns,((ns.zip vs).lookup n).isSome=true:=by
 induction ns with
 |nil=>intro vs _ n hn;cases hn
 |cons a ns ih =>
  intro vs hl n hn
  cases vs with
  |nil=>simp at hl
  |cons v vs =>
   simp only[List.zip_cons_cons,List.lookup_cons]
   cases hq:n == a with
   |true=>rfl
   |false =>
    rcases List.mem_cons.mp hn with rfl|h
    ·simp at hq
    ·exact ih (by simpa using hl) n h
theorem zjv {nm qn:Str}{as:List Arg}{kd:List (Option Expr)}{df:List Expr}{body:FuncBody}{scope:Scope}{globals:Addr}{closure:List (Str × Addr)}{kwd doc pm:Value}{an:Option Addr}{co ct:Value}{bi:Addr}{vals:List Value} :
  ∃ (X Y:Sem (List (Str × Value))) (f:Str × Value→List (Str × Value)→Sem (ForInStep (List (Str × Value)))) (g:List (Str × Value)→Sem (List (Str × Value))),(∀ slots,g slots=pure ((as.map Arg.arg++[]).filterMap fun n=>(List.lookup n slots).map (n,·))) ∧
   bindArgs ⟨nm,qn,⟨[],as,none,[],kd,none,df⟩,body,scope,globals,closure,.none,kwd,doc,pm,an,co,ct,bi⟩ ⟨vals,[]⟩ =
    (if(decide (vals.length > (as.map Arg.arg).length)&&true)=true then X
    else if(!((((as.map Arg.arg).take ((as.map Arg.arg).length - (([]:List Value).drop (([]:List Value).length - (as.map Arg.arg).length)).length)).filter fun n=>(List.lookup n ((as.map Arg.arg).zip vals)).isNone).isEmpty))=true then Y
    else forIn (((as.map Arg.arg).drop ((as.map Arg.arg).length - (([]:List Value).drop (([]:List Value).length - (as.map Arg.arg).length)).length)).zip (([]:List Value).drop (([]:List Value).length - (as.map Arg.arg).length))) ((as.map Arg.arg).zip vals) f >>= g):=by
 refine⟨_,_,_,_,fun z_=>rfl,rfl⟩
theorem zjw {fd:FuncData}{vals:List Value}(hp:fd.params.posonlyargs=[]) (hk:fd.params.kwonlyargs=[]) (hv:fd.params.vararg=none) (hw:fd.params.kwarg=none) (hd:fd.defaults=.none)
  (hn:(fd.params.args.map (·.arg)).Nodup) (hl:vals.length=fd.params.args.length):bindArgs fd ⟨vals,[]⟩=pure ((fd.params.args.map (·.arg)).zip vals):=by
 have hl':vals.length=(fd.params.args.map (·.arg)).length:=by simpa using hl
 have hm:((fd.params.args.map (·.arg)).filter fun n=>(((fd.params.args.map (·.arg)).zip vals).lookup n).isNone)=[]:=by
  rw[List.filter_eq_nil_iff];intro n hn';have:=zhR hl' n hn'
  cases hq:((fd.params.args.map (·.arg)).zip vals).lookup n with
  |none=>rw[hq] at this;cases this
  |some _=>simp
 have hz:=zjm hn hl';obtain⟨nm,qn,⟨po,as,va,ko,kd,kw,df⟩,body,scope,globals,closure,dfl,kwd,doc,pm,an,co,ct,bi⟩:=fd;simp only at hp hk hv hw hd hm hz hl';subst hp hk hv hw hd;obtain⟨X,Y,f,g,hg,e⟩:=zjv (nm:=nm) (qn:=qn) (as:=as) (kd:=kd) (df:=df) (body:=body) (scope:=scope) (globals:=globals) (closure:=closure) (kwd:=kwd) (doc:=doc) (pm:=pm) (an:=an) (co:=co) (ct:=ct) (bi:=bi) (vals:=vals);rw[e];generalize as.map Arg.arg=ns at hl' hm hz hg
 have hgt:¬ vals.length > ns.length:=by rw[hl'];exact Nat.lt_irrefl _
 rw[List.drop_nil,if_neg (by simp[hgt]),List.zip_nil_right,if_neg (by simp[hm])]
 show g (ns.zip vals)=_;rw[hg,List.append_nil,hz]
noncomputable def zf0:Value→Bool
 |.none=>true
 |_=>false
noncomputable def zj3:FuncBody→Option (List Stmt)
 |.stmts b=>some b
 |_=>none
noncomputable def ckFn (fns:List String) (nums:List (String × Int)) (d:FnDef) (nm:List String) (fd:FuncData):Bool :=
 let ns:=nm.map Str.ofString
 (match zj3 fd.body with|some b=>ckTs ⟨ns.zipIdx,fd.scope.names,fns,nums⟩ d.body b|none=>false) &&
 fd.params.posonlyargs.isEmpty&&fd.params.kwonlyargs.isEmpty&&fd.params.vararg.isNone&&fd.params.kwarg.isNone&&zf0 fd.defaults &&
 decide (fd.params.args.map (·.arg)=ns.take d.arity)&&decide (d.arity≤nm.length)&&decide (nm.length≤d.slots)&&decide ns.Nodup &&
 fd.closure.isEmpty&&fd.scope.kind == .function&&!fd.scope.isGenerator&&!fd.scope.isCoroutine&&decide (fd.globals=mainGlobals)&&decide (fd.builtins=builtinsNs) &&
 ns.all (fun x=>fd.scope.names.lookup x == some .local||fd.scope.names.lookup x == some .cell)&&fd.scope.names.all (fun p=>p.2 != .free)
structure ProgOK (am:Amb) (P:Tab) (nm:String→List String) (fns:List String) (nums:List (String × Int)):Prop where
 fn:∀ f d a o fd,P f=some d→am.mg (Str.ofString f)=some (.ref a)→am.B.get? a=some o→o.data=.func fd→ckFn fns nums d (nm f) fd=true∧am.B.CodeRec fd.code fd.qualname
 fns:∀ f∈fns,∃ a,FunAt am f a
 nums:∀ p∈nums,∃ t,am.mg (Str.ofString p.1)=some (.int p.2 t)
theorem VR.more {am:Amb}{π:List Addr}{h:Heap}{r:List Addr}{v:V}{x:Value}:∀ (new:List Addr),(∀ l∈new,h.get? l=none)→VR (am.at r) π h v x→VR (am.at (new++r)) π h v x
 |[],_,e=>e
 |l::new,hl,e=>VR.held (am:=am.at (new++r)) (hl l (by simp)) (VR.more new (fun a ha=>hl a (by simp[ha])) e)
theorem VRs.more {am:Amb}{π:List Addr}{h:Heap}{r:List Addr}{vs:List V}{xs:List Value}:∀ (new:List Addr),(∀ l∈new,h.get? l=none)→VRs (am.at r) π h vs xs→VRs (am.at (new++r)) π h vs xs
 |[],_,e=>e
 |l::new,hl,e=>VRs.held (am:=am.at (new++r)) (hl l (by simp)) (VRs.more new (fun a ha=>hl a (by simp[ha])) e)
set_option tactic.hygienic true in
theorem zbx:∀ (names:List (Str × NameKind)) (k:Nat) (acc:List (Str × Addr)) (x:Str),(names.lookup x=some .cell∨(acc.lookup x).isSome=true)→((cellsFrom k names acc).lookup x).isSome=true
 |[],k,acc,x,h=>by
  rcases h with h|h
  ·simp at h
  ·exact h
 |(y,kd)::r,k,acc,x,h=>by
  unfold cellsFrom
  cases hxy:x == y with
  |true =>
   have hxy:=beq_iff_eq.mp hxy;subst hxy
   split
   ·exact zbx r _ _ x (.inr (by simp))
   ·rename_i hk
    refine zbx r _ _ x ?_
    rcases h with h|h
    ·simp only[List.lookup_cons,beq_self_eq_true,Option.some.injEq] at h
     subst h;simp at hk
    ·exact .inr h
  |false =>
   have h':r.lookup x=some .cell∨(acc.lookup x).isSome=true:=by
    rcases h with h|h
    ·rw[List.lookup_cons,hxy] at h;exact .inl h
    ·exact .inr h
   split
   ·refine zbx r _ _ x ?_
    rcases h' with h|h
    ·exact .inl h
    ·exact .inr (by rw[List.lookup_cons,hxy];exact h)
   ·exact zbx r _ _ x h'
theorem zhl (kd:Str→Option NameKind):∀ (ns:List Str) (vs:List Value) (m:Str→Option Value),ns.Nodup→vs.length=ns.length→∀ (i:Nat) (x:Str) (v:Value),ns[i]?=some x→vs[i]?=some v→kd x=some .local→bindL kd (ns.zip vs) m x=some v
 |[],vs,m,_,_,i,x,v,h,_,_=>by simp at h
 |a::ns,[],m,_,hl,i,x,v,h,_,_=>by simp at hl
 |a::ns,w::vs,m,hn,hl,i,x,v,h1,h2,h3=>by
  have keep:∀ (ns:List Str) (vs:List Value) (m:Str→Option Value) (x:Str),x ∉ ns→bindL kd (ns.zip vs) m x=m x:=by
   intro ns
   induction ns with
   |nil=>intro vs m x _;rfl
   |cons b ns ih =>
    intro vs m x hx
    cases vs with
    |nil=>rfl
    |cons u vs =>
     simp only[List.mem_cons,not_or] at hx;rw[List.zip_cons_cons,bindL,ih _ _ _ hx.2]
     split
     ·exact if_neg hx.1
     ·rfl
  rw[List.nodup_cons] at hn;rw[List.zip_cons_cons,bindL]
  cases i with
  |zero =>
   simp only[List.getElem?_cons_zero,Option.some.injEq] at h1 h2;subst h1 h2;rw[keep _ _ _ _ hn.1,if_pos h3];simp
  |succ i =>
   exact zhl kd ns vs _ hn.2 (by simpa using hl) i x v (by simpa using h1) (by simpa using h2) h3
theorem zhm (kd:Str→Option NameKind):∀ (ns:List Str) (vs:List Value) (m:Str→Option Value),ns.Nodup→vs.length=ns.length→∀ (i:Nat) (x:Str) (v:Value),ns[i]?=some x→vs[i]?=some v→kd x=some .cell→bindC kd (ns.zip vs) m x=some v
 |[],vs,m,_,_,i,x,v,h,_,_=>by simp at h
 |a::ns,[],m,_,hl,i,x,v,h,_,_=>by simp at hl
 |a::ns,w::vs,m,hn,hl,i,x,v,h1,h2,h3=>by
  have keep:∀ (ns:List Str) (vs:List Value) (m:Str→Option Value) (x:Str),x ∉ ns→bindC kd (ns.zip vs) m x=m x:=by
   intro ns
   induction ns with
   |nil=>intro vs m x _;rfl
   |cons b ns ih =>
    intro vs m x hx
    cases vs with
    |nil=>rfl
    |cons u vs =>
     simp only[List.mem_cons,not_or] at hx;rw[List.zip_cons_cons,bindC,ih _ _ _ hx.2]
     split
     ·rfl
     ·exact if_neg hx.1
  rw[List.nodup_cons] at hn;rw[List.zip_cons_cons,bindC]
  cases i with
  |zero =>
   simp only[List.getElem?_cons_zero,Option.some.injEq] at h1 h2;subst h1 h2;rw[keep _ _ _ _ hn.1,if_neg (by rw[h3];simp)];simp
  |succ i =>
   exact zhm kd ns vs _ hn.2 (by simpa using hl) i x v (by simpa using h1) (by simpa using h2) h3
theorem zfK {ns:List Str}{x:Str}{i:Nat}(h:ns.zipIdx.lookup x=some i):ns[i]?=some x:=by
 have:=za7 h;rw[List.mem_zipIdx_iff_getElem?] at this
 simpa using this
theorem zgC (ns:List Str):(ns.zipIdx.map (·.2)).Nodup:=by
 have:ns.zipIdx.map (·.2)=List.range ns.length:=by
  apply List.ext_getElem
  ·simp
  ·intro i h1 h2;simp
 rw[this];exact List.nodup_range
section
variable {am:Amb}{P:Tab}{nm:String→List String}{fns:List String}{nums:List (String × Int)}
theorem VRs.len' {am:Amb}{π:List Addr}{h:Heap}{vs:List V}{xs:List Value}(e:VRs am π h vs xs):xs.length=vs.length:=by
 exact e.len
theorem zm1 {am:Amb}{q:Bool}{π:List Addr}{h:Heap}{vs:List V}{xs:List Value}(e:ArgR am q π h vs xs):xs.length=vs.length:=by
 rcases e with e|⟨_,c,a,rfl,rfl,_⟩
 ·exact e.len'
 ·rfl
theorem zm2 {am:Amb}{q:Bool}{π:List Addr}{h:Heap}{vs:List V}{xs:List Value}(e:ArgR am q π h vs xs){i:Nat}{v:V}(hv:vs[i]?=some v):∃ x,xs[i]?=some x∧SR am π h v x:=by
 rcases e with e|⟨_,c,a,rfl,rfl,h1,h2⟩
 ·obtain⟨x,h1,h2⟩:=e.get i v hv
  exact⟨x,h1,.inl h2⟩
 ·cases i with
  |zero =>
   simp only[List.getElem?_cons_zero,Option.some.injEq] at hv;subst hv;exact⟨_,rfl,.inr ⟨c,a,rfl,rfl,h1,h2⟩⟩
  |succ i=>simp at hv
set_option tactic.hygienic true in
theorem znf (ok:AmbX am) (pk:ProgOK am P nm fns nums):∀ n,FnOK am n (run P n)
 |0=>⟨fun res q f a vs xs stack A π Hc s z_ z_ z_ z_ z_=>.inl rfl⟩
 |n+1=>⟨fun res q f a vs xs stack A π Hc s fa as hr hd ha=>by
  have IH:=znf ok pk n;refine hold fun z_ k_=>?_;obtain⟨hga,o,fd,ho,hdata⟩:=fa;refine k_ ?_;show JAt _ _ _ _ (match P f with|some d=>runD q (run P n) d vs Hc|Option.none=>.bad) _ _ _
  cases hP:P f with
  |none=>exact .inl rfl
  |some d =>
  simp only;obtain⟨hck,hcode⟩:=pk.fn f d a o fd hP hga ho hdata;unfold runD
  by_cases hlen':¬ vs.length=d.arity
  ·rw[if_neg hlen'];exact .inl rfl
  have hlen:=Classical.not_not.mp hlen';rw[if_pos hlen];unfold ckFn at hck;simp only[Bool.and_eq_true,decide_eq_true_eq,beq_iff_eq,Bool.not_eq_true',List.isEmpty_iff,Option.isNone_iff_eq_none] at hck;refine hold fun z_ k_=>?_;obtain⟨⟨⟨⟨⟨⟨⟨⟨⟨⟨⟨⟨⟨⟨⟨⟨⟨k1,k2⟩,k3⟩,k4⟩,k5⟩,k6⟩,k7⟩,k8⟩,k9⟩,k10⟩,k11⟩,k12⟩,k13⟩,k14⟩,k15⟩,k16⟩,k17⟩,k18⟩:=hck;refine k_ ?_
  cases hb:zj3 fd.body with
  |none=>rw[hb] at k1;cases k1
  |some body =>
  rw[hb] at k1;simp only at k1;have hbody:fd.body=.stmts body:=by
   cases hq:fd.body with
   |stmts b=>rw[hq] at hb;cases hb;rfl
   |expr e=>rw[hq] at hb;cases hb
  have hdef:fd.defaults=.none:=by
   cases hq:fd.defaults<;>rw[hq] at k6<;>first|rfl|cases k6
  let ns:=(nm f).map Str.ofString
  let c:Ck:=⟨ns.zipIdx,fd.scope.names,fns,nums⟩
  have hns:ns.Nodup:=k10;have hpn:fd.params.args.map (·.arg)=ns.take d.arity:=k7;have hnl:ns.length=(nm f).length:=by simp[ns]
  have hxl:xs.length=d.arity:=by rw[zm1 ha,hlen]
  have hpl:fd.params.args.length=d.arity:=by
   have:=congrArg List.length hpn;rw[List.length_map,List.length_take,hnl,Nat.min_eq_left k8] at this;exact this
  have hbind:bindArgs fd ⟨xs,[]⟩=pure ((ns.take d.arity).zip xs):=by
   rw[←hpn];refine zjw k2 k3 k4 k5 hdef ?_ (hxl.trans hpl.symm);rw[hpn];exact hns.sublist (List.take_sublist _ _)
  have hkind:∀ x∈ns,fd.scope.names.lookup x=some .local∨fd.scope.names.lookup x=some .cell:=fun x hx=>by
   have:=List.all_eq_true.mp k17 x hx
   simpa using this
  have TS:=zlm (am:=am) (n:=n) (F:=run P n) (c:=c) (zgC ns) q d.body body k1;have hlim:s.heap.NoLimit:=ok.nolimit.keeps hr.base
  by_cases hbad:exSs q (run P n) d.body (vs++List.replicate (d.slots - d.arity) .undef) Hc=.bad
  ·rw[hbad];exact .inl rfl
  refine .inr (wpAny_call (codeAny_call_cells (binds:=(ns.take d.arity).zip xs) (body:=body) (o:=o) (fd:=fd) (by unfold recursionLimit;exact as.dk (k:=0) (by decide)) (hr.base a o ho) hdata hlim (hcode.keeps hr.base) hbody hbind k11 (fun x hx=>?_) (fun s₁ I=>?_) k14 k13 k12))
  ·have hm:x.1∈ns:=List.mem_of_mem_take (List.of_mem_zip hx).1
   rcases hkind x.1 hm with h|h
   ·exact .inl h
   ·exact .inr ⟨h,zbx _ _ _ _ (.inl h)⟩
  generalize hE:callEnvC fd s.heap.objs.size a=env at I;have eloc:env.locals=s.heap.objs.size:=by rw[←hE];rfl
  have efr:env.frame=some env.locals:=by rw[←hE];rfl
  have esc:env.scope=fd.scope:=by rw[←hE];rfl
  have egl:env.globals=mainGlobals:=by rw[←hE];exact k15
  have ebl:env.builtins=builtinsNs:=by rw[←hE];exact k16
  have ecl:env.cells=cellsFrom (s.heap.objs.size+1) fd.scope.names []:=by rw[←hE];rfl
  have ekd:∀ x,env.kindOf x=fd.scope.names.lookup x:=fun x=>by unfold Env.kindOf;rw[esc]
  have hfresh:∀ b,s.heap.objs.size≤b→s.heap.get? b=none:=fun b hb=>by
   cases hq:s.heap.get? b with
   |none=>rfl
   |some o'=>exact absurd (Heap.lt_size hq) (Nat.not_lt_of_le hb)
  have fL:s.heap.get? env.locals=none:=hfresh _ (by rw[eloc];exact Nat.le_refl _)
  have fC:∀ x cc,(x,cc)∈env.cells→s.heap.get? cc=none:=fun x cc h=>hfresh _ (Nat.le_of_lt (eloc ▸ I.above x cc h))
  let new:List Addr:=env.locals::env.cells.filterMap fun p=>env.cells.lookup p.1
  have hcm:∀ l,l∈env.cells.filterMap (fun p=>env.cells.lookup p.1)→∃ y,env.cells.lookup y=some l:=by
   intro l hl;obtain⟨p,_,h2⟩:=List.mem_filterMap.mp hl;exact⟨p.1,h2⟩
  have hmc:∀ y l,env.cells.lookup y=some l→l∈env.cells.filterMap (fun p=>env.cells.lookup p.1):=fun y l h=>List.mem_filterMap.mpr ⟨(y,l),mem_of_lookup h,h⟩;have hnew:∀ l∈new,s.heap.get? l=none:=by
   intro l hl
   rcases List.mem_cons.mp hl with rfl|hl
   ·exact fL
   ·obtain⟨y,h1⟩:=hcm l hl
    exact fC y l (mem_of_lookup h1)
  have keep:=I.toInCall.keep;have nfL:=Ns.nf I.toInCall.ns;have bn:∀ l,s.heap.get? l=none→am.B.get? l=none:=fun l h=>zas hr.base h;have hdn:∀ a'∈π,∃ o,s.heap.get? a'=some o:=by
   intro a' ha';obtain⟨i,hi,e1⟩:=List.getElem_of_mem ha';have h1:π[i]?=some a':=by rw[List.getElem?_eq_getElem hi,e1]
   have h2:i < Hc.length:=by rw[←hr.len];exact hi
   obtain⟨o,ho,_⟩:=(hr.cell i Hc[i] a' (by simp[h2]) h1).obj
   exact⟨o,ho⟩
  have offN:∀ l,s.heap.get? l=none→l ∉ π:=fun l h hm=>by obtain⟨o,ho⟩:=hdn l hm;rw[h] at ho;cases ho
  let cx:Cx:=⟨env,env::stack,ns.zipIdx⟩
  have hr1:HR (am.at (new++res)) (env::stack) π Hc s₁.heap:=by
   refine⟨fun b o e=>keep b o (hr.base b o e),⟨by rw[esc,k12];simp,?_,hr.frames.of_keeps fun b o e z_=>⟨o,keep b o e,rfl⟩⟩,hr.len,hr.nodup,?_,?_,?_⟩
   ·obtain⟨o,ho,hn⟩:=nfL
    exact⟨env.locals,o,efr,bn _ fL,ho,hn⟩
   ·intro l hl
    rcases List.mem_append.mp hl with hl|hl
    ·rcases List.mem_cons.mp hl with rfl|hl
     ·exact nfL
     ·obtain⟨y,h1⟩:=hcm l hl
      obtain⟨o,ho,hd'⟩:=I.cell y l h1;exact⟨o,ho,fun us q=>by rw[hd'] at q;cases q⟩
    ·obtain⟨o,ho,hn⟩:=hr.res l hl
     exact⟨o,keep l o ho,hn⟩
   ·intro l hl
    refine⟨(hr.off l hl).1,?_⟩;rw[List.filterMap_cons,efr];rw[List.mem_cons,not_or];exact⟨fun q=>offN _ fL (q ▸ hl),(hr.off l hl).2⟩
   ·intro i cc l h1 h2
    obtain⟨o,ys,q0,q1,q2,q3⟩:=hr.cell i cc l h1 h2;exact(show CellAt (am.at (new++res)) π s.heap cc l from⟨o,ys,q0,q1,q2,VRs.more new hnew q3⟩).keeps keep
  have sr1:∀ {v:V}{x:Value},SR (am.at res) π s.heap v x→SR (am.at (new++res)) π s₁.heap v x:=by
   intro v x e
   rcases e with e|⟨d',b,e1,e2,e3,C,o',us,e4,e5,e6⟩
   ·exact .inl ((VR.more new hnew e).keeps keep)
   ·exact .inr ⟨d',b,e1,e2,e3,C,o',us,e4,keep b o' e5,e6⟩
  have er1:ER (am.at (new++res)) cx (vs++List.replicate (d.slots - d.arity) .undef) π s₁.heap:=by
   refine⟨⟨_,I.toInCall.ns⟩,offN _ fL,fun y l hl=>⟨offN _ (fC y l (mem_of_lookup hl)),?_,_,I.cell y l hl⟩,fun x y l h1 h2=>?_,fun x i v h1 h2 h3 h4=>?_⟩
   ·exact Nat.ne_of_gt (I.above y l (mem_of_lookup hl))
   ·exact name_of_addr I.apart (mem_of_lookup h1) (mem_of_lookup h2)
   ·have hx:ns[i]?=some x:=zfK h1
    have hi:i < vs.length:=by
     rcases Nat.lt_or_ge i vs.length with h|h
     ·exact h
     ·rw[List.getElem?_append_right h] at h2
      have:=List.mem_of_getElem? h2;rw[List.mem_replicate] at this;exact absurd this.2 h3
    rw[List.getElem?_append_left hi] at h2;obtain⟨xv,h5,h6⟩:=zm2 ha h2;have hxi:(ns.take d.arity)[i]?=some x:=by rw[List.getElem?_take_of_lt (hlen ▸ hi)];exact hx
    have hnt:(ns.take d.arity).Nodup:=hns.sublist (List.take_sublist _ _);have hlt:xs.length=(ns.take d.arity).length:=by rw[List.length_take,hnl,Nat.min_eq_left k8];exact hxl
    refine⟨xv,?_,sr1 h6⟩
    rcases hkind x (List.mem_of_getElem? hx) with hk|hk
    ·have hk':env.kindOf x=some .local:=by rw[ekd];exact hk
     exact .inl ⟨hk',_,I.toInCall.ns,zhl _ _ _ _ hnt hlt i x xv hxi h5 hk'⟩
    ·have hk':env.kindOf x=some .cell:=by rw[ekd];exact hk
     have hcs:=zbx fd.scope.names (s.heap.objs.size+1) [] x (.inl hk);rw[←ecl] at hcs;obtain⟨l,hl⟩:=Option.isSome_iff_exists.mp hcs;refine .inr ⟨.inl hk',l,hl,?_⟩;have:=I.cell x l hl;rw[zhm _ _ _ _ hnt hlt i x xv hxi h5 hk'] at this;exact this
  have as1:AS n (env::stack) (A.deeper env):=by
   refine⟨?_,?_,?_⟩
   ·show A.frames.map (env::·)=_;rw[as.frames];rfl
   ·show A.depth+1+n < 800;rw[Nat.add_assoc,Nat.add_comm 1 n];exact as.depth
   ·exact Nat.lt_of_le_of_lt (by show A.units+3+10 * n≤A.units+10 * (n+1);rw[Nat.add_assoc];exact Nat.add_le_add_left (by rw[Nat.mul_succ,Nat.add_comm];exact Nat.add_le_add_left (by decide) _) _) as.units
  have hd1:Hd q (A.deeper env) π (Fs (env::stack)) s₁.heap:=by
   unfold Hd at hd ⊢
   split
   ·rename_i hq;rw[if_pos hq] at hd;exact hd
   ·rename_i hq
    rw[if_neg hq] at hd;refine hold fun z_ k_=>?_;obtain⟨he,o',us,e1,e2,e3,e4,e5⟩:=hd;refine k_ ?_;refine⟨he,o',us,e1,e2,?_,keep he o' e4,e5⟩;simp only[Fs,List.filterMap_cons,efr,List.mem_cons,not_or];exact⟨(fun q'=>by rw[q',fL] at e4;cases e4),e3⟩
  have topE:TopEnv env:=⟨by rw[esc];exact k13,by rw[esc];exact k14,egl,ebl⟩
  have cxk:CxOK cx:=by
   refine⟨fun x hx=>?_,by show env.scope.kind=_;rw[esc];exact k12,egl,ebl,⟨env,stack,rfl,rfl,topE⟩⟩
   rcases hx with hx|hx
   ·have hx:fd.scope.names.lookup x=some .cell:=by rw[←ekd];exact hx
    have hcs:=zbx fd.scope.names (s.heap.objs.size+1) [] x (.inl hx);rw[←ecl] at hcs;exact Option.isSome_iff_exists.mp hcs
   ·have hx:fd.scope.names.lookup x=some .free:=by rw[←ekd];exact hx
    have:=List.all_eq_true.mp k18 _ (za7 hx);simp at this
  have ne1:q=true→NoExc (vs++List.replicate (d.slots - d.arity) .undef):=by
   intro hq v hv k hk;subst hk
   rcases List.mem_append.mp hv with hv|hv
   ·rcases ha with ha|⟨h,_⟩
    ·obtain⟨i,hi,e1⟩:=List.getElem_of_mem hv
     obtain⟨x,_,h2⟩:=ha.get i (.exc k) (by rw[List.getElem?_eq_getElem hi,e1])
     exact h2
    ·rw[hq] at h;cases h
   ·rw[List.mem_replicate] at hv;cases hv.2
  have st1:Step (Fs stack) π s π s₁:=by
   obtain⟨h',tk,e⟩:=I.toInCall.same;exact⟨⟨h',tk,e⟩,.of_keeps keep,[],by simp,by simp⟩
  have X:Stm am n q (run P n) c cx (A.deeper env) (new++res) stack π s (fun z_ z_=>True) (vs++List.replicate (d.slots - d.arity) .undef) π Hc s₁ :=
   ⟨⟨ok,IH,⟨rfl,by show env.scope.names=_;rw[esc],pk.fns,pk.nums⟩,cxk,as1,ne1⟩,
    ⟨⟨rfl,efr⟩,List.mem_append.mpr (.inl List.mem_cons_self),bn _ fL,fL,fun y l hl=>⟨List.mem_append.mpr (.inl (List.mem_cons_of_mem _ (hmc y l hl))),bn _ (fC y l (mem_of_lookup hl)),fC y l (mem_of_lookup hl)⟩⟩,
    st1,⟨hr1,er1,hd1⟩,fun b o e=>hideAll_get _ (hr.base b o e) (by
     rw[List.mem_append,not_or];refine⟨fun hm=>?_,fun hm=>?_⟩
     ·have z:am.B.get? b=none:=(hr.off b hm).1
      rw[z] at e;cases e
     ·have z:am.B.get? b=none:=(hr.frames.mem hm).1
      rw[z] at e;cases e),trivial,fun z_ z_ z_ z_ z_ z_=>trivial⟩
  have down:∀ {π':List Addr}{H':H}{h':Heap},HR (am.at (new++res)) (env::stack) π' H' h'→HR (am.at res) stack π' H' h':=fun {π' H' h'} z=>by
   have z:=HR.sub (am:=am) (r:=new++res) (r':=res) (fun a ha=>List.mem_append.mpr (.inr ha)) z;refine⟨z.base,z.frames.2.2,z.len,z.nodup,z.res,fun a ha=>⟨(z.off a ha).1,?_⟩,z.cell⟩;have:=(z.off a ha).2;rw[List.filterMap_cons,efr,List.mem_cons,not_or] at this;exact this.2
  rcases TS X with h|h
  ·exact absurd h hbad
  refine wpAny_mono h (fun fl s' z=>?_) fun y s' z=>?_
  ·refine hold fun z_ k_=>?_
   obtain⟨fl',ρ',H',π',z1,z2,z3,z4,z5,_⟩:=z;refine k_ ?_;rw[z1]
   cases fl' with
   |next=>cases z5;exact⟨.none,H',π',rfl,z2,down z3.hr,rfl⟩
   |ret w=>obtain⟨xv,rfl,hxv⟩:=z5;exact⟨w,H',π',rfl,z2,down z3.hr,hxv.sub fun a ha=>List.mem_append.mpr (.inr ha)⟩
  ·refine hold fun z_ k_=>?_
   obtain⟨d',ρ',H',π',e,C,fl,z1,rfl,z3,z4,z5,z6,z7⟩:=z;refine k_ ?_;have fl':=zdA (π₀:=π) X.f z5.hr;refine znE as1.frames fl' efr z7 fun h' x' t'=>?_;rw[z1];refine⟨d',H',π',e,C,_,rfl,rfl,z3,z4.touch X.f z5.hr t',?_,x'⟩;exact(down z5.hr).upto t'.slots fun b o e=>t'.stays b o (X.low b o e)⟩
end
end Mine
namespace Mine
noncomputable def forkR {α:Type}(o:Option Bool) (a b:Unit→R α):R α :=
 match o with
 |some true=>a ()
 |some false=>b ()
 |none=>.bad
noncomputable def forkS (o:Option Bool) (a b:Unit→RS):RS :=
 match o with
 |some true=>a ()
 |some false=>b ()
 |none=>.bad
noncomputable def tabOf (tl:List (String × FnDef × List String)):Tab:=fun f=>(tl.lookup f).map (·.1)
noncomputable def nmOf (tl:List (String × FnDef × List String)):String→List String:=fun f=>((tl.lookup f).map (·.2)).getD []
variable (q:Bool) (F:Fn) (ρ:List V) (h:H)
@[simp] theorem truthy_bool (b:Bool):truthy (.bool b)=some b:=rfl
@[simp] theorem e_and2 (e d:PE) (es:List PE):evAnd q F ρ (e::d::es) h=(evE q F ρ e h).bind fun x h=>forkR (truthy x) (fun z_=>evAnd q F ρ (d::es) h) (fun z_=>.ok x h):=rfl
@[simp] theorem s_ifs (t:PE) (a b:List PS):exS q F (.ifs t a b) ρ h=(evE q F ρ t h).st ρ fun x h=>forkS (truthy x) (fun z_=>exSs q F a ρ h) (fun z_=>exSs q F b ρ h):=rfl
noncomputable def V.val:V→Prop
 |.undef=>False
 |.exc _=>False
 |_=>True
@[simp] theorem e_and (es:List PE):evE q F ρ (.and es) h=evAnd q F ρ es h:=rfl
@[simp] theorem e_cmp (op:Cop) (a b:PE):evE q F ρ (.cmp op a b) h=(evE q F ρ a h).bind fun x h=>(evE q F ρ b h).bind fun y h=>R.opt ((pyCmp op h x y).map .bool) h:=rfl
@[simp] theorem e_slice (a:PE) (lo hi:Option PE):evE q F ρ (.slice a lo hi) h=(evE q F ρ a h).bind fun x h=>(evO q F ρ lo h).bind fun l h=>(evO q F ρ hi h).bind fun u h=>R.opt (zbp h x l u) h:=rfl
noncomputable def lstR (r:R (List V)):R V :=
 match r with
 |.ok r h=>R.opt (mkL r) h
 |_=>.bad
@[simp] theorem lstR_ok (r:List V):lstR (.ok r h)=R.opt (mkL r) h:=rfl
@[simp] theorem e_comp (elt:PE) (x:Nat) (it:PIt) (cond:Option PE):evE q F ρ (.comp elt x it cond) h=if !q then .bad else(evIt q F ρ it h).bind fun vs h =>
   lstR (compL vs.2 (fun v h=>evE q F (ρ.set x v) elt h) (fun v h=>evC q F (ρ.set x v) cond h) vs.1 h):=rfl
@[simp] theorem zak (e:PE) (es:List PE):evEs q F ρ (e::es) h=(evE q F ρ e h).bind fun v h=>(evEs q F ρ es h).bind fun vs h=>.ok (v::vs) h:=rfl
@[simp] theorem i_seq (e:PE):evIt q F ρ (.seq e) h=(evE q F ρ e h).bind fun x h=>R.opt (iterOf h x) h:=rfl
noncomputable def rngR (v:V) (h:H):R (List V × Watch) :=
 match v with
 |.int n=>if -1000000≤n∧n≤1000000 then .ok (upto n,Option.none) h else .bad
 |_=>.bad
theorem zlT {n:Int}(h1:-1000000≤n) (h2:n≤1000000):rngR (.int n) h=.ok (upto n,Option.none) h:=by simp[rngR,h1,h2]
@[simp] theorem i_range1 (a:PE):evIt q F ρ (.range1 a) h=(evE q F ρ a h).bind fun x h=>rngR x h:=rfl
@[simp] theorem ss_cons' (s:PS) (ss:List PS):exSs q F (s::ss) ρ h=(exS q F s ρ h).then fun ρ h=>exSs q F ss ρ h:=rfl
@[simp] theorem s_expr' (e:PE):exS q F (.expr e) ρ h=(evE q F ρ e h).st ρ fun v h=>noneS v ρ h:=rfl
@[simp] theorem s_asg' (x:Nat) (e:PE):exS q F (.asg x e) ρ h=(evE q F ρ e h).st ρ fun v h=>.ok .next (ρ.set x v) h:=rfl
@[simp] theorem s_ret' (e:PE):exS q F (.ret e) ρ h=(evE q F ρ e h).st ρ fun v h=>.ok (.ret v) ρ h:=rfl
@[simp] theorem s_for1' (x:Nat) (it:PIt) (body:List PS):exS q F (.for1 x it body) ρ h=if !q then .bad else(evIt q F ρ it h).st ρ fun vs h=>forL vs.2 (bind1 x) (fun ρ h=>exSs q F body ρ h) vs.1 ρ h:=rfl
theorem zn5 (d:FnDef) (vs:List V) (hl:vs.length=d.arity):runD q F d vs h=(exSs q F d.body (vs++List.replicate (d.slots - d.arity) .undef) h).out:=by
 simp[runD,hl]
theorem zcH {vs:List V}(hl:vs.length≤1000000):mkL vs=some (.lst vs):=by simp[mkL,hl]
theorem zp0 {vs:List V}(hl:vs.length≤1000000):mkT vs=some (.tup vs):=by simp[mkT,hl]
theorem zbA {v:V}(hv:v.plain=true) (h:H):pcall h (.ok v h)=.ok v h:=by
 simp[pcall,frz,zbB _ v hv]
theorem zdk {v w:V}(h n:H) (hv:frz h.length (h++n) v=some w):pcall h (.ok v (h++n))=.ok w h:=by
 simp[pcall,hv]
theorem zgo (h:H) (i:Nat) (vs:List V) (e:h[i]?=some (.list vs)):isTy h (.ref i) .list=some true:=by show refTy h[i]? _=_;rw[e];rfl
@[simp] theorem cmp_lt_int (h:H) (a b:Int):pyCmp .lt h (.int a) (.int b)=some (decide (a < b)):=rfl
@[simp] theorem cmp_gt_int (h:H) (a b:Int):pyCmp .gt h (.int a) (.int b)=some (decide (b < a)):=rfl
@[simp] theorem cmp_le_int (h:H) (a b:Int):pyCmp .le h (.int a) (.int b)=some (decide (a≤b)):=by
 show some (!decide (b < a))=_
 by_cases e:b < a
 ·rw[decide_eq_true e,decide_eq_false (Int.not_le.2 e)];rfl
 ·rw[decide_eq_false e,decide_eq_true (Int.not_lt.1 e)];rfl
theorem zfs {a b:V}(h:H) (ha:a.plain=true) (hb:b.plain=true) (oa:V.ok 8 a=true) (ob:V.ok 8 b=true):pyEq h a b=some (peq a b):=by
 simp[pyEq,frz,zbB _ a ha,zbB _ b hb,oa,ob]
@[simp] theorem pyEq_int (h:H) (a b:Int):pyEq h (.int a) (.int b)=some (decide (a=b)):=by
 rw[zfs h rfl rfl rfl rfl];simp only[zl5,zl6,zhL,zoj,zoi,zf2,Option.some.injEq];exact Bool.eq_iff_iff.2 (by simp)
theorem zh9 (h:H) (a b:Int) (e:b.natAbs < 9223372036854775808):pyBin .mul h (.int a) (.int b)=some (.int (a * b)):=if_pos (.inr e)
theorem zhn (h:H) (a b:Int) (e:b≠0):pyBin .fdiv h (.int a) (.int b)=some (.int (a.fdiv b)):=if_neg e
theorem zia (h:H) (a b:Int) (e:b≠0):pyBin .mod h (.int a) (.int b)=some (.int (a.fmod b)):=if_neg e
@[simp] theorem cell_get (h:H) (c:Cell):(h++[c])[h.length]?=some c:=by simp
@[simp] theorem cell_set (h:H) (c d:Cell):(h++[c]).set h.length d=h++[d]:=by simp
theorem zmF (a b:Nat):(a:Int).fmod (b:Int)=((a % b:Nat):Int):=by
 rw[Int.fmod_eq_emod_of_nonneg _ (Int.natCast_nonneg b)];rfl
theorem ziI (a b:Nat):(a:Int).fdiv (b:Int)=((a / b:Nat):Int):=by
 rw[Int.fdiv_eq_ediv_of_nonneg _ (Int.natCast_nonneg b)];rfl
set_option tactic.hygienic true in
theorem zkE {h:H}{w:V}{vs:List V}(hl:litems h w=some vs):Mine.bf .len h w=some (.int vs.length):=by
 cases w<;>simp only[litems,Option.some.injEq,reduceCtorEq] at hl
 ·subst hl;rfl
 ·rename_i i
  cases hc:h[i]? with
  |none=>rw[hc] at hl;cases hl
  |some c =>
   rw[hc] at hl
   cases c with
   |dict es=>cases hl
   |list us=>cases hl;simp[Mine.bf,hc]
set_option tactic.hygienic true in
theorem zkR {h:H}{w:V}{vs:List V}(hl:litems h w=some vs):isTy h w .list=some true:=by
 cases w<;>simp only[litems,Option.some.injEq,reduceCtorEq] at hl
 ·rfl
 ·rename_i i
  cases hc:h[i]? with
  |none=>rw[hc] at hl;cases hl
  |some c =>
   rw[hc] at hl
   cases c with
   |dict es=>cases hl
   |list us=>exact zgo _ _ _ hc
set_option tactic.hygienic true in
theorem zgm {h:H}{w:V}{vs:List V}(hl:litems h w=some vs):∃ t:Watch,iterOf h w=some (vs,t)∧t.ok h=true:=by
 cases w<;>simp only[litems,Option.some.injEq,reduceCtorEq] at hl
 ·subst hl;exact⟨Option.none,rfl,rfl⟩
 ·rename_i i
  cases hc:h[i]? with
  |none=>rw[hc] at hl;cases hl
  |some c =>
   rw[hc] at hl
   cases c with
   |dict es=>cases hl
   |list us=>cases hl;exact⟨some (i,.list vs),by simp[iterOf,hc],by simp[Watch.ok,hc]⟩
noncomputable def okV (h:H) (v:V):Prop :=
 match v with
 |.undef=>False
 |.exc _=>False
 |.ref i=>(h[i]?).isSome=true
 |_=>True
theorem okV.val {h:H}{v:V}(hv:okV h v):v.val:=by
 cases v<;>first|trivial|exact hv.elim
set_option tactic.hygienic true in
theorem zbY {h:H}{w:V}{vs:List V}(hl:litems h w=some vs):okV h w:=by
 cases w<;>simp only[litems,Option.some.injEq,reduceCtorEq] at hl
 ·trivial
 ·rename_i i
  cases hc:h[i]? with
  |none=>rw[hc] at hl;cases hl
  |some c=>show(h[i]?).isSome=true;rw[hc];rfl
@[simp] theorem asBools_map {α:Type}(l:List α) (f:α→Bool):zb2 (l.map fun v=>.bool (f v))=some (l.map f):=by
 induction l with
 |nil=>rfl
 |cons a l ih=>simp[zb2,ih]
@[simp] theorem bf_all {h:H}{vs:List V}:Mine.bf .all h (.lst vs)=(zb2 vs).map fun bs=>.bool (bs.all id):=rfl
theorem zaa {h:H}{i:Nat}{vs:List V}(hc:h[i]?=some (.list vs)):litems h (.ref i)=some vs:=by simp[litems,hc]
@[simp] theorem litems_lst (h:H) (vs:List V):litems h (.lst vs)=some vs:=rfl
theorem zdo {h:H}{i:Nat}{vs:List V}(hc:h[i]?=some (.list vs)):lcell h (.ref i)=true:=by simp[lcell,hc]
theorem zbI {h:H}{i:Nat}{vs:List V}(hc:h[i]?=some (.list vs)) (f:List V→Option (V × List V)) (v:V) (vs':List V) (e:f vs=some (v,vs')) (hl:vs'.length≤1000000) :
  onList h (.ref i) f=.ok v (h.set i (.list vs')):=by simp[onList,hc,e,hl]
theorem zaT {q:Bool}{F:Fn}{x:Nat}{e:PE}{ss:List PS}{ρ ρ':List V}{h h':H}{v:V}{r:R V}(he:evE q F ρ e h=.ok v h') (hρ:ρ.set x v=ρ') (k:(exSs q F ss ρ' h').out=r):(exSs q F (.asg x e::ss) ρ h).out=r:=by
 subst hρ;rw[ss_cons',s_asg',he];exact k
theorem zbw {q:Bool}{F:Fn}{e:PE}{ss:List PS}{ρ:List V}{h h':H}{v:V}(he:evE q F ρ e h=.ok v h'):(exSs q F (.ret e::ss) ρ h).out=.ok v h':=by
 rw[ss_cons',s_ret',he];rfl
theorem zce {q:Bool}{F:Fn}{e:PE}{ss:List PS}{ρ:List V}{h h':H}{r:R V}(he:evE q F ρ e h=.ok .none h') (k:(exSs q F ss ρ h').out=r):(exSs q F (.expr e::ss) ρ h).out=r:=by
 rw[ss_cons',s_expr',he];exact k
theorem zeb (q:Bool) (F:Fn) (a b:List PS) (ρ:List V) (h:H):exSs q F (a++b) ρ h=(exSs q F a ρ h).then fun ρ h=>exSs q F b ρ h:=by
 induction a generalizing ρ h with
 |nil=>rfl
 |cons s a ih =>
  rw[List.cons_append,ss_cons',ss_cons']
  cases exS q F s ρ h with
  |bad=>rfl
  |err c ρ h=>rfl
  |ok f ρ h=>cases f with
   |next=>simp only[RS.then_next];exact ih ρ h
   |ret v=>rfl
theorem zgT {q:Bool}{F:Fn}{t:PE}{a b ss:List PS}{ρ:List V}{h h':H}{r:R V}(ht:evE q F ρ t h=.ok (.bool true) h') (k:(exSs q F (a++ss) ρ h').out=r):(exSs q F (.ifs t a b::ss) ρ h).out=r:=by
 rw[ss_cons',s_ifs,ht];rw[zeb] at k;exact k
theorem zb1 {q:Bool}{F:Fn}{t:PE}{a b ss:List PS}{ρ:List V}{h h':H}{r:R V}(ht:evE q F ρ t h=.ok (.bool false) h') (k:(exSs q F (b++ss) ρ h').out=r):(exSs q F (.ifs t a b::ss) ρ h).out=r:=by
 rw[ss_cons',s_ifs,ht];rw[zeb] at k;exact k
end Mine
namespace Mine
open PySem PySem.W PyProof.Rows
theorem zis {o:Option (Option Value)}{f:Addr→Bool}(h:refB o f=true):∃ C,o=some (some (.ref C))∧f C=true:=by
 cases o with
 |none=>exact noB h
 |some o=>cases o with
  |none=>exact noB h
  |some v=>cases v<;>first|exact noB h|exact⟨_,rfl,h⟩
noncomputable def zhF (p:Program):Bool:=zag.all fun c=>specOf p (Str.ofString c) == some ("ValueError.__new__",[.type "ValueError",.type "Exception",.type "BaseException",.type "object"])
noncomputable def defChk (p:Program) (fns:List String) (nums:List (String × Int)) (tl:List (String × FnDef × List String)):Bool :=
 tl.all fun t=>match (recsOf p).find? (fun r=>r.name == Str.ofString t.1) with
  |some r=>ckFn fns nums t.2.1 t.2.2 (Calls.docDef r.name r.params r.body r.scope .none .none .none)
  |none=>false
noncomputable def fnsChk (p:Program) (fns:List String):Bool:=fns.all fun f=>((recsOf p).find? (fun r=>r.name == Str.ofString f)).isSome
theorem zmx {o:Option (Option Value)}{i:Int}(h:intB o i=true):∃ t,o=some (some (.int i t)):=by
 cases o with
 |none=>exact noB h
 |some o=>cases o with
  |none=>exact noB h
  |some v=>cases v<;>first|exact noB h|exact⟨_,by rw[eq_of_beq (show(_ == i)=true from h)]⟩
section
variable {p prog:Program}{w:World}{loose:List Str}{mean:ExcName→Option Value}{mg mb:Str→Option Value}{h:Heap}{K:Frag}
theorem znu (X:K.In h) (G:h.Ns mainGlobals mg) (hx:excChk K=true){c:String}(hc:c∈zag):∃ C,mg (Str.ofString c)=some (.ref C)∧excOne K c C=true:=by
 obtain⟨C,e,x⟩:=zis (List.all_eq_true.mp hx c hc);exact⟨C,mg_of X G e,x⟩
theorem znt (X:K.In h) (G:h.Ns mainGlobals mg) (hx:excChk K=true){c:String}(hc:c∈zag){C:Addr}(e:mg (Str.ofString c)=some (.ref C)):excOne K c C=true:=by
 obtain⟨C',e',x⟩:=znu X G hx hc;rw[e] at e';cases e';exact x
theorem zkc (X:K.In h) (G:h.Ns mainGlobals mg){d:String}{f:Addr→Bool}(y:refB (nsIn K mainGlobals (Str.ofString d)) f=true){D:Addr}(e:mg (Str.ofString d)=some (.ref D)):f D=true:=by
 obtain⟨D',e',x⟩:=zis y;rw[mg_of X G e'] at e;cases e;exact x
theorem zqH {am:Amb}(T:Top p loose mean am.mg am.mb am.B) (X:Frag.In am.K am.B) (himp:importsNone p=true) (htree:am.prog.given.tree=none) (hx:excChk am.K=true) (ho:zhF p=true) (hb:btChk am.K=true):AmbX am where
 g:=T.g
 b:=T.b
 nolimit:=T.nolimit
 noseer:=T.seer himp
 tree:=htree
 K:=X
 bt:=fun q hq=>by
  have:=List.all_eq_true.mp hb q hq;simp only[Bool.and_eq_true,beq_iff_eq,bne_iff_ne,ne_eq] at this;exact⟨mg_none_of X T.g this.1.1,(T.builtins q.1 this.2).trans this.1.2⟩
 exc:=fun c hc=>by
  obtain⟨C,e,x⟩:=znu X T.g hx hc;exact⟨C,e,⟨eq_of_beq (al x),eq_of_beq (al (ar x))⟩,al (ar (ar x)),eq_of_beq (al (ar (ar (ar x)))),eq_of_beq (al (ar (ar (ar (ar x))))),eq_of_beq (al (ar (ar (ar (ar (ar x)))))),eq_of_beq (al (ar (ar (ar (ar (ar (ar x))))))),eq_of_beq (al (ar (ar (ar (ar (ar (ar (ar x))))))))⟩
 sub:=fun c hc d hd C D e1 e2=>eq_of_beq (zkc X T.g (List.all_eq_true.mp (al (ar (ar (ar (ar (ar (ar (ar (ar (znt X T.g hx hc e1)))))))))) d hd) e2)
 exm:=fun c hc C D e1 e2=>eq_of_beq (zkc X T.g (ar (ar (ar (ar (ar (ar (ar (ar (ar (znt X T.g hx hc e1)))))))))) e2)
 rs:=fun c hc C e1=>by
  have hs:=List.all_eq_true.mp ho c hc;rw[beq_iff_eq] at hs;obtain⟨C',O,_⟩:=T.ownAt hs;have h1:C'=C:=by have:=O.bound.symm.trans e1;cases this;rfl
  subst h1;refine hold fun z_ k_=>?_;obtain⟨bm,N,nm,q,bs,hdct,sn,sub,ab,col,dd,k0,k1,k2,k3,k5,mN,hC,hN,hq,TQ⟩:=O.obj;refine k_ ?_;exact⟨nm,q,N,bs,bm,hdct,sn,sub,ab,col,dd,k0,k1,k2,k3,k5,mN,hC,hN,hq,TQ⟩
theorem zmU {fns:List String}{nums:List (String × Int)}{d:FnDef}{nm:List String}{n:Str}{ps:Arguments}{b:List Stmt}{sc:Scope}(pm cd doc:Value) :
  ckFn fns nums d nm (Calls.docDef n ps b sc pm cd doc)=ckFn fns nums d nm (Calls.docDef n ps b sc .none .none .none):=rfl
set_option tactic.hygienic true in
theorem zog {am:Amb}{fns:List String}{nums:List (String × Int)}{tl:List (String × FnDef × List String)}(T:Top p loose mean am.mg am.mb am.B) (X:Frag.In am.K am.B) (hd:defChk p fns nums tl=true) (hf:fnsChk p fns=true) (hn:zf5 am.K nums=true) :
  ProgOK am (tabOf tl) (nmOf tl) fns nums where
 fn:=fun f d a o fd e1 e2 e3 e4=>by
  unfold tabOf at e1;unfold nmOf
  cases hl:tl.lookup f with
  |none=>rw[hl] at e1;cases e1
  |some t =>
   rw[hl] at e1;simp only[Option.map_some,Option.some.injEq] at e1;subst e1;have hm:(f,t)∈tl:=by
    clear hd
    induction tl with
    |nil=>simp at hl
    |cons u tl ih =>
     obtain⟨g,u⟩:=u;rw[List.lookup_cons] at hl
     cases hq:f == g with
     |true=>rw[hq] at hl;cases hl;rw[beq_iff_eq.mp hq];exact List.mem_cons_self
     |false=>rw[hq] at hl;exact List.mem_cons_of_mem _ (ih hl)
   have:=List.all_eq_true.mp hd _ hm
   split at this
   ·rename_i r hr
    have hrm:=List.mem_of_find?_eq_some hr;have hrn:r.name=Str.ofString f:=by have:=List.find?_some hr;simpa using this
    refine hold fun z_ k_=>?_;obtain⟨a',o',pm,code,doc,t1,t2,t3,t4⟩:=T.fn r hrm;refine k_ ?_;rw[hrn] at t1;have h1:a'=a:=by have:=t1.symm.trans e2;cases this;rfl
    subst h1;have h2:o'=o:=by have:=t2.symm.trans e3;cases this;rfl
    subst h2;rw[t3] at e4
    cases e4
    refine⟨?_,t4⟩;rw[zmU];exact this
   ·cases this
 fns:=fun f hf'=>by
  have:=List.all_eq_true.mp hf f hf';obtain⟨r,hr⟩:=Option.isSome_iff_exists.mp this;have hrm:=List.mem_of_find?_eq_some hr;have hrn:r.name=Str.ofString f:=by have:=List.find?_some hr;simpa using this
  refine hold fun z_ k_=>?_;obtain⟨a',o',pm,code,doc,t1,t2,t3,t4⟩:=T.fn r hrm;refine k_ ?_;rw[hrn] at t1;exact⟨a',t1,o',_,t2,t3⟩
 nums:=fun q hq=>by
  obtain⟨t,e⟩:=zmx (List.all_eq_true.mp hn q hq);exact⟨t,mg_of X T.g e⟩
theorem zkT {am:Amb}{π:List Addr}{xs:List Value}{l:List Int}(hi:IntsAre xs l):VRs am π h (l.map .int) xs:=by
 induction hi with
 |nil=>simp[VRs]
 |cons n t _ ih=>simp only[List.map_cons,VRs,VR];exact⟨_,_,rfl,⟨t,rfl⟩,ih⟩
theorem zp1 {s₁:Shared}{tl:List (String × FnDef × List String)}{fns:List String}{nums:List (String × Int)}(T:Top p loose mean mg mb s₁.heap) (X:K.In s₁.heap) (himp:importsNone p=true) (htree:prog.given.tree=none)
  (hx:excChk K=true) (ho:zhF p=true) (hb:btChk K=true) (hd:defChk p fns nums tl=true) (hf:fnsChk p fns=true) (hn:zf5 K nums=true) (hlaw:"law"∈fns)
  {fa:Addr}(hmg:mg "law"=some (.ref fa)){a:Addr}{xs:List Value}{l:List Int}(hl:s₁.heap.IsList a xs.toArray) (hi:IntsAre xs l) (h63:¬ (63:Int) < (l.length:Int)){n:Nat}(hn9:n≤400){H':H}
  (hrun:run (tabOf tl) n true "law" [V.ints l] []=.ok (.bool true) H'){Q:Value→Shared→Prop}{E:Value→Shared→Prop}
  (hQ:∀ s',(∃ h' tk,s'={ s₁ with heap:=h',toks:=tk })→(∀ b o,s₁.heap.get? b=some o→s'.heap.get? b=some o)→Q (.bool true) s') :
  wpAny (model prog w) callerA (PySem.call (.ref fa) [.ref a]) Q E s₁:=by
 have ok:AmbX { prog:=prog,w:=w,B:=s₁.heap,mg:=mg,mb:=mb,P:=tabOf tl,K:=K }:=zqH T X himp htree hx ho hb;have pk:=zog (am:={ prog:=prog,w:=w,B:=s₁.heap,mg:=mg,mb:=mb,P:=tabOf tl,K:=K }) T X hd hf hn;obtain⟨fa',ff⟩:=pk.fns "law" hlaw;have hfa:fa'=fa:=by have:=ff.1.symm.trans hmg;cases this;rfl
 subst hfa;have hr:HR (({ prog:=prog,w:=w,B:=s₁.heap,mg:=mg,mb:=mb,P:=tabOf tl,K:=K }:Amb).at []) [] [] [] s₁.heap :=
  ⟨fun z_ z_ e=>e,trivial,rfl,List.nodup_nil,(fun a ha=>by cases ha),(fun a ha=>by cases ha),(fun i c a h1=>by simp at h1)⟩
 have hlen:xs.length=l.length:=by have:=(zkT (am:={ prog:=prog,w:=w,B:=s₁.heap,mg:=mg,mb:=mb,P:=tabOf tl,K:=K }) (π:=[]) (h:=s₁.heap) hi).len;simpa using this
 have J:=(znf ok pk n).call [] true "law" fa' [V.ints l] [.ref a] [] callerA [] [] s₁ ff ⟨rfl,Nat.lt_of_le_of_lt (Nat.add_le_add_left hn9 (1+claimMargin)) (by decide),Nat.lt_of_le_of_lt (Nat.add_le_add_left (Nat.mul_le_mul_left 10 hn9) 4) (by decide)⟩ hr rfl (.inl (by
  simp only[VRs,V.ints,VR];exact⟨_,_,rfl,⟨a,xs,rfl,⟨by simp,by simp[Amb.at]⟩,hl,by rw[List.length_map];exact Nat.le_trans (Int.ofNat_le.1 (Int.not_lt.1 h63)) (by decide),zkT hi⟩,rfl⟩))
 rw[hrun] at J
 rcases J with J|J
 ·cases J
 ·refine wpAny_mono J (fun v s' z=>?_) fun e s' z=>?_
  ·refine hold fun z_ k_=>?_
   obtain⟨b,H2,π',z1,z2,z3,z4⟩:=z;refine k_ ?_
   cases z1
   simp only[VR] at z4;subst z4;exact hQ s' z2.same fun b o e=>z2.ext.keep b o e (by simp) (by simp[Fs])
  ·obtain⟨_,_,_,_,_,_,z,_⟩:=z;cases z
end
noncomputable def Leans (nums:List (String × Int)) (h:Heap):Prop:=∃ K:Frag,K.In h∧excChk K=true∧btChk K=true∧zf5 K nums=true
theorem zk1 (h:Heap):∀ as:List Addr,(fragAt h as).In h:=by
 intro as a o e;have hm:=za7 e;obtain⟨b,_,hb⟩:=List.mem_filterMap.mp hm
 cases hq:h.get? b with
 |none=>rw[hq] at hb;cases hb
 |some o'=>rw[hq] at hb;cases hb;exact hq
theorem zmm {l:OpenLaw}{q:Program}{N:Nat}{nums:List (String × Int)}(said:l.wellSaid=true) (hrs:l.row.wellSaid=true)
  (left:LeftO l.row.prog q [] (fun s=>xlAt q [] s&&recOk (RowW.records l.row.toRowW) s) (fun s=>hookB nums s.heap) (fun z_=>true) N)
  (d1:(defOf q l.row.name).isSome=true) (d2:l.row.prog.theDef l.row.name=(defOf q l.row.name).map fun x=>(x.1.params,x.1.body,x.1.scope))
  (d3:((defOf q l.row.name).map fun x=>kwWritten? x.1.params.kwonlyargs x.1.params.kw_defaults)=(defOf q l.row.name).map fun x=>some x.2)
  (hwr:(!l.row.writes||l.row.records.isEmpty)=true) (ok:(chainsOk q&&opensWell l.row.prog&&(frees l.row.toRowW&&l.row.within.isEmpty))=true) (hb:l.row.prog.bare) (hw:l.row.toRowW.promised)
  (walk:∀ d kwd,defOf q l.row.name=some (d,kwd)→WalkO q [] (XL q []) (fun z_ h=>Leans nums h) l.row.toRowW d kwd fun f vs=>PySem.call f vs):l.Holds:=by
 obtain⟨⟨d,kwd⟩,hdef⟩:=Option.isSome_iff_exists.mp d1;rw[hdef] at d2 d3;simp only[Option.map_some,Option.some.injEq] at d2 d3;refine⟨said,holds_open (q:=q) (loose:=[]) (Xt:=fun s=>xlAt q [] s&&recOk (RowW.records l.row.toRowW) s) (XP:=XL q []) (YP:=fun z_ h=>Leans nums h) left (fun w s e=>?_) (fun w h h' e k=>?_)
  (fun s e=>xl_of s (Bool.and_eq_true_iff.mp e).1) XL.keeps hdef d2 d3 (fun s e=>recFacts_of (Bool.and_eq_true_iff.mp e).2) hwr hrs ok hb hw (walk d kwd hdef)⟩
 ·simp only[hookB,Bool.and_eq_true] at e
  exact⟨exFrag s.heap,zk1 _ _,e.1.1,e.1.2,e.2⟩
 ·obtain⟨K,k1,k2⟩:=e
  exact⟨K,fun a o z=>k a o (k1 a o z),k2⟩
end Mine
namespace Mine
@[simp] theorem pcall_bool (h:H) (b:Bool):pcall h (.ok (.bool b) h)=.ok (.bool b) h:=zbA rfl h
@[simp] theorem pcall_int (h:H) (b:Int):pcall h (.ok (.int b) h)=.ok (.int b) h:=zbA rfl h
@[simp] theorem pcall_none (h:H):pcall h (.ok .none h)=.ok .none h:=zbA rfl h
noncomputable def V.nat (d:Nat):V:=.int d
noncomputable def V.nats (l:List Nat):List V:=l.map V.nat
@[simp] theorem nats_length (l:List Nat):(V.nats l).length=l.length:=by simp[V.nats]
theorem zbO (a:Nat) (l:List Nat):V.nats (a::l)=.int a::V.nats l:=rfl
theorem zam (a b:List Nat):V.nats (a++b)=V.nats a++V.nats b:=by simp[V.nats]
theorem zeB (n:Nat) (l:List Nat):(V.nats l).take n=V.nats (l.take n):=by simp[V.nats]
theorem zeC (n:Nat) (l:List Nat):(V.nats l).drop n=V.nats (l.drop n):=by simp[V.nats]
theorem zd4 {l:List Nat}{i:Nat}{d:Nat}(e:l[i]?=some d):(V.nats l)[i]?=some (.int d):=by simp[V.nats,e,V.nat]
theorem zct (l:List Nat):V.plains (V.nats l)=true:=by
 induction l with
 |nil=>rfl
 |cons a l ih=>rw[zbO,V.plains,ih];rfl
theorem zbJ (l:List Nat):V.plain (.lst (V.nats l))=true:=zct l
theorem ziw {l:List Nat}{v:V}(hv:v∈V.nats l):∃ d∈l,v=.int d:=by
 simp only[V.nats,List.mem_map] at hv;obtain⟨d,hd,rfl⟩:=hv;exact⟨d,hd,rfl⟩
theorem zey (a b:List Nat):peqs (V.nats a) (V.nats b)=decide (a=b):=by
 induction a generalizing b with
 |nil=>cases b<;>rfl
 |cons x a ih=>cases b with
  |nil=>rfl
  |cons y b =>
   rw[zbO,zbO,zgP,zhL,ih]
   by_cases e1:x=y<;>by_cases e2:a=b<;>simp[e1,e2]
   omega
theorem zor (l:List Nat) (n:Nat):(V.nats l).all (V.ok (n+1))=true:=by
 rw[List.all_eq_true];intro v hv;obtain⟨d,_,rfl⟩:=ziw hv;rfl
theorem zd3 (l:List Nat) (n:Nat):V.ok (n+2) (.lst (V.nats l))=true:=zor l n
theorem zit {h:H}{a b a' b':V}(ha:frz 0 h a=some a') (hb:frz 0 h b=some b') (oa:V.ok 8 a'=true) (ob:V.ok 8 b'=true):pyEq h a b=some (peq a' b'):=by
 simp[pyEq,ha,hb,oa,ob]
theorem zcQ (n:Nat) (h:H) (v:V) (hv:v.plain=true):frz n h v=some v:=zbB _ v hv
noncomputable def IsL (h:H) (v:V) (l:List Nat):Prop:=litems h v=some (V.nats l)
theorem IsL.lst (h:H) (l:List Nat):IsL h (.lst (V.nats l)) l:=rfl
theorem IsL.ref {h:H}{i:Nat}{l:List Nat}(e:h[i]?=some (.list (V.nats l))):IsL h (.ref i) l:=zaa e
theorem zdz {h:H}{i n k:Nat}{l:List Nat}(hn:n≤i) (e:h[i]?=some (.list (V.nats l))):frzAt (k+1) n h i=some (.lst (V.nats l)):=by
 rw[zc8,if_neg (by omega),e]
 show Option.map _ (V.mapRefs _ (V.nats l))=_;rw[zaA _ _ (zct l)];rfl
set_option tactic.hygienic true in
theorem zaf {h:H}{v:V}{vs:List V}(e:litems h v=some vs):v=.lst vs∨∃ i,v=.ref i∧h[i]?=some (.list vs):=by
 cases v<;>simp only[litems,Option.some.injEq,reduceCtorEq] at e
 ·exact .inl (by rw[e])
 ·rename_i i
  refine .inr ⟨i,rfl,?_⟩
  cases hc:h[i]? with
  |none=>rw[hc] at e;cases e
  |some c =>
   rw[hc] at e
   cases c with
   |dict es=>cases e
   |list us=>cases e;rfl
theorem IsL.frz {h:H}{v:V}{l:List Nat}(e:IsL h v l):frz 0 h v=some (.lst (V.nats l)):=by
 rcases zaf e with rfl|⟨i,rfl,hc⟩
 ·exact zcQ 0 h _ (zbJ l)
 ·exact zdz (Nat.zero_le _) hc
theorem IsL.okV {h:H}{v:V}{l:List Nat}(e:IsL h v l):okV h v:=zbY e
theorem IsL.val {h:H}{v:V}{l:List Nat}(e:IsL h v l):v.val:=(zbY e).val
theorem IsL.items {h:H}{v:V}{l:List Nat}(e:IsL h v l):∀ vs,litems h v=some vs→∀ x∈vs,Mine.okV h x:=by
 intro vs hv x hx;rw[e] at hv;cases hv
 obtain⟨d,_,rfl⟩:=ziw hx;trivial
theorem zgN {h:H}{a b:V}{x y:List Nat}(ha:IsL h a x) (hb:IsL h b y):pyEq h a b=some (decide (x=y)):=by
 rw[zit ha.frz hb.frz (zd3 x 6) (zd3 y 6),zf2,zey]
theorem IsL.slice {h:H}{v:V}{l:List Nat}(e:IsL h v l) (lo hi:Option V) (a b:Option Int) (ha:lo.mapM asInt?=some a) (hb:hi.mapM asInt?=some b):zbp h v lo hi=some (.lst (slc (V.nats l) a b)):=by
 rw[zbp,ha,hb]
 rcases zaf e with rfl|⟨i,rfl,hc⟩
 ·rfl
 ·simp only[e,Option.map_some]
  rw[zaa hc];rfl
theorem zfU {h:H}{v:V}{vs:List V}(e:litems h v=some vs) (lo hi:Option V) (a b:Option Int) (ha:lo.mapM asInt?=some a) (hb:hi.mapM asInt?=some b):zbp h v lo hi=some (.lst (slc vs a b)):=by
 rw[zbp,ha,hb]
 rcases zaf e with rfl|⟨i,rfl,hc⟩
 ·rfl
 ·simp only
  rw[zaa hc];rfl
theorem zps {α:Type}(vs:List α) (j:Nat):slc vs Option.none (some (j:Int))=vs.take j:=by
 simp only[slc,cut,Int.not_lt.2 (Int.natCast_nonneg j),if_false,Int.toNat_natCast,List.drop_zero]
 rcases Nat.le_total j vs.length with hj|hj
 ·rw[Nat.min_eq_left hj]
 ·rw[Nat.min_eq_right hj,List.take_length,List.take_of_length_le hj]
theorem zlP {α:Type}(vs:List α) (i:Nat):slc vs (some (i:Int)) Option.none=vs.drop i:=by
 simp only[slc,cut,Int.not_lt.2 (Int.natCast_nonneg i),if_false,Int.toNat_natCast,List.take_length]
 rcases Nat.le_total i vs.length with hj|hj
 ·rw[Nat.min_eq_left hj]
 ·rw[Nat.min_eq_right hj,List.drop_length,List.drop_of_length_le hj]
theorem zfT {h:H}{v:V}{vs:List V}(e:litems h v=some vs) (j:Nat):zbp h v Option.none (some (.int j))=some (.lst (vs.take j)):=by
 rw[zfU e _ _ Option.none (some (j:Int)) rfl rfl,zps]
theorem zdv {h:H}{v:V}{vs:List V}(e:litems h v=some vs) (i:Nat):zbp h v (some (.int i)) Option.none=some (.lst (vs.drop i)):=by
 rw[zfU e _ _ (some (i:Int)) Option.none rfl rfl,zlP]
theorem ziF {h:H}{v:V}{vs:List V}(e:litems h v=some vs){j:Nat}{x:V}(hj:vs[j]?=some x):pyIdx h v (.int j)=some x:=by
 have hl:j < vs.length:=(List.getElem?_eq_some_iff.1 hj).1;have hp:place vs.length (j:Int)=some j:=by simp[place,hl]
 rcases zaf e with rfl|⟨i,rfl,hc⟩
 ·show(place vs.length (j:Int)).bind _=_
  rw[hp];exact hj
 ·rw[pyIdx,hc]
  show(place vs.length (j:Int)).bind _=_;rw[hp];exact hj
theorem zoI {h:H}{vs:List V}{j:Nat}{x:V}(hj:vs[j]?=some x):pyIdx h (.tup vs) (.int j)=some x:=by
 have hl:j < vs.length:=(List.getElem?_eq_some_iff.1 hj).1;have hp:place vs.length (j:Int)=some j:=by simp[place,hl]
 show(place vs.length (j:Int)).bind _=_;rw[hp];exact hj
theorem IsL.idx {h:H}{v:V}{l:List Nat}(e:IsL h v l){j d:Nat}(hj:l[j]?=some d):pyIdx h v (.int j)=some (.int d):=ziF e (zd4 hj)
theorem addLL (h:H) (vs ws:List V) (hl:vs.length+ws.length≤1000000):pyBin .add h (.lst vs) (.lst ws)=some (.lst (vs++ws)):=by
 simp[pyBin,pyAdd,litems,mkL,hl]
theorem zqI {h:H}{a b:V}{vs ws:List V}(ha:litems h a=some vs) (hb:litems h b=some ws) (hl:vs.length+ws.length≤1000000):pyBin .add h a b=some (.lst (vs++ws)):=by
 have e:((litems h a).bind fun x=>(litems h b).bind fun y=>mkL (x++y))=some (.lst (vs++ws)):=by
  rw[ha,hb];exact zcH (by simpa using hl)
 rcases zaf ha with rfl|⟨i,rfl,_⟩<;>exact e
theorem zch (x:Int) (m:Nat) (hm:0 < m):∃ j:Nat,j < m∧x.fmod m=j:=by
 have h2:=Int.fmod_lt_of_pos x (Int.natCast_pos.2 hm);obtain⟨j,hj⟩:=Int.eq_ofNat_of_zero_le (Int.fmod_nonneg_of_pos x (Int.natCast_pos.2 hm));exact⟨j,Int.ofNat_lt.1 (hj ▸ h2),hj⟩
noncomputable def cellAt (l:List Int) (k:Nat):Int:=l.getD k 0
noncomputable def setS (v:V) (ρ:List V) (xs:List Nat) (h:H):RS :=
 match v with
 |.tup vs=>(match setAll ρ xs vs with
  |some ρ=>.ok .next ρ h
  |Option.none=>.bad)
 |_=>.bad
theorem zn4 (q:Bool) (F:Fn) (ρ:List V) (h:H) (xs:List Nat) (e:PE):exS q F (.asgT xs e) ρ h=if !q then .bad else(evE q F ρ e h).st ρ fun v h=>setS v ρ xs h:=rfl
theorem zpU {F:Fn}{xs:List Nat}{e:PE}{ss:List PS}{ρ ρ':List V}{h h':H}{vs:List V}{r:R V}(he:evE true F ρ e h=.ok (.tup vs) h') (hρ:setAll ρ xs vs=some ρ') (k:(exSs true F ss ρ' h').out=r):(exSs true F (.asgT xs e::ss) ρ h).out=r:=by
 rw[ss_cons',zn4,if_neg (by decide),he,R.st_ok,setS,hρ];exact k
theorem zn6 (h:H) (n:Nat) (hn:n≤1000000):rngR (.int n) h=.ok (upto n,Option.none) h:=zlT h (Int.le_trans (by decide) (Int.natCast_nonneg n)) (Int.ofNat_le.2 hn)
theorem start {P:Tab}{f:String}{d:FnDef}{n:Nat}{q:Bool}{vs ρ:List V}{h:H}{r:R V}(hf:P f=some d) (hl:vs.length=d.arity) (hρ:vs++List.replicate (d.slots - d.arity) .undef=ρ)
  (k:(exSs q (run P n) d.body ρ h).out=r):run P (n+1) q f vs h=r:=by
 rw[zlS hf,zn5 _ _ _ _ _ hl,hρ];exact k
theorem zqa {q:Bool}{F:Fn}{ρ:List V}{h h':H}{a:PE}{n:Nat}(e:evE q F ρ a h=.ok (.int n) h') (hn:n≤1000000):evIt q F ρ (.range1 a) h=.ok (upto n,Option.none) h':=by
 rw[i_range1,e,R.bind_ok,zn6 _ _ hn]
theorem zfw {q:Bool}{F:Fn}{ρ:List V}{h h':H}{a:PE}{vs:List V}(e:evE q F ρ a h=.ok (.lst vs) h'):evIt q F ρ (.seq a) h=.ok (vs,Option.none) h':=by
 rw[i_seq,e];rfl
theorem zlk {α:Type}{elt cond:V→H→R V}(c e:α→V) (b:α→Bool) (h:H) (w:Watch) (hw:w.ok h=true) (l:List α)
  (hc:∀ a∈l,cond (c a) h=.ok (.bool (b a)) h) (he:∀ a∈l,b a=true→elt (c a) h=.ok (e a) h) :
  compL w elt cond (l.map c) h=.ok ((l.filter b).map e) h:=by
 induction l with
 |nil=>simp[zh5,hw]
 |cons a l ih =>
  have ih:=ih (fun v hv=>hc v (List.mem_cons_of_mem _ hv)) (fun v hv=>he v (List.mem_cons_of_mem _ hv));rw[List.map_cons,zh6,if_pos hw,hc a (List.mem_cons_self ..),R.bind_ok,truthy_bool]
  cases hb:b a with
  |true=>dsimp only;rw[he a (List.mem_cons_self ..) hb,R.bind_ok,ih,R.bind_ok,List.filter_cons_of_pos hb,List.map_cons]
  |false=>dsimp only;rw[ih,List.filter_cons_of_neg (by rw[hb];exact Bool.false_ne_true)]
theorem zcB {α:Type}{F:Fn}{ρ:List V}{h h':H}{elt cond:PE}{x:Nat}{it:PIt}{l:List α}{c:α→V}{t:Watch}{r:V}(hi:evIt true F ρ it h=.ok (l.map c,t) h') (ht:t.ok h'=true) (e:α→V) (b:α→Bool)
  (hc:∀ a∈l,evE true F (ρ.set x (c a)) cond h'=.ok (.bool (b a)) h') (he:∀ a∈l,b a=true→evE true F (ρ.set x (c a)) elt h'=.ok (e a) h') (hr:mkL ((l.filter b).map e)=some r) :
  evE true F ρ (.comp elt x it (some cond)) h=.ok r h':=by
 rw[e_comp,if_neg (by decide),hi,R.bind_ok,zlk c e b h' t ht l hc he,lstR_ok,hr];rfl
theorem zdB {α:Type}{F:Fn}{ρ:List V}{h h':H}{elt:PE}{x:Nat}{it:PIt}{l:List α}{c:α→V}{t:Watch}{r:V}(hi:evIt true F ρ it h=.ok (l.map c,t) h') (ht:t.ok h'=true) (e:α→V)
  (he:∀ a∈l,evE true F (ρ.set x (c a)) elt h'=.ok (e a) h') (hr:mkL (l.map e)=some r) :
  evE true F ρ (.comp elt x it Option.none) h=.ok r h':=by
 rw[e_comp,if_neg (by decide),hi,R.bind_ok,zlk c e (fun z_=>true) h' t ht l (fun z_ z_=>rfl) (fun a ha z_=>he a ha),lstR_ok,List.filter_eq_self.2 (fun z_ z_=>rfl),hr];rfl
theorem zeM {q:Bool}{F:Fn}{ρ:List V}{h h':H}{a:PE}{n:Nat}(e:evE q F ρ a h=.ok (.int n) h') (hn:n≤1000000):evIt q F ρ (.range1 a) h=.ok ((List.range n).map fun i:Nat=>V.int i,Option.none) h':=zqa e hn
theorem zqi {α:Type}{t:Watch}{x:Nat}{body:List V→H→RS}(l:List α) (c:α→V) (f:List α→V→List V) (g:List α→H) (ht:∀ p,t.ok (g p)=true)
  (hb:∀ p a q w,l=p++a::q→body ((f p w).set x (c a)) (g p)=.ok .next (f (p++[a]) (c a)) (g (p++[a]))) (w:V) :
  ∃ w',forL t (bind1 x) body (l.map c) (f [] w) (g [])=.ok .next (f l w') (g l):=by
 have key:∀ (q p:List α) (w:V),l=p++q→∃ w',forL t (bind1 x) body (q.map c) (f p w) (g p)=.ok .next (f l w') (g l):=by
  intro q
  induction q with
  |nil=>intro p w e;rw[List.append_nil] at e;subst e;exact⟨w,if_pos (ht _)⟩
  |cons a q ih =>
   intro p w e;obtain⟨w',e'⟩:=ih (p++[a]) (c a) (by rw[e,List.append_assoc];rfl)
   refine⟨w',?_⟩;rw[List.map_cons,zk3,if_pos (ht _)];show(body ((f p w).set x (c a)) (g p)).then _=_;rw[hb p a q w e,RS.then_next,e']
 exact key l [] w rfl
theorem zkx {α:Type}{F:Fn}{x:Nat}{it:PIt}{body ss:List PS}{ρ:List V}{h h':H}{l:List α}{c:α→V}{t:Watch}{r:R V}(f:List α→V→List V) (g:List α→H) (w:V)
  (hi:evIt true F ρ it h=.ok (l.map c,t) h') (ht:∀ p,t.ok (g p)=true) (hρ:f [] w=ρ) (hh:g []=h')
  (hb:∀ p a q w,l=p++a::q→exSs true F body ((f p w).set x (c a)) (g p)=.ok .next (f (p++[a]) (c a)) (g (p++[a])))
  (hk:∀ w',(exSs true F ss (f l w') (g l)).out=r):(exSs true F (.for1 x it body::ss) ρ h).out=r:=by
 subst hρ hh;rw[ss_cons',s_for1',if_neg (by decide),hi,R.st_ok]
 obtain⟨w',e⟩:=zqi l c f g ht hb w;rw[e,RS.then_next];exact hk w'
section
variable {q:Bool}{F:Fn}{ρ:List V}{h:H}{a b:PE}{x y:Int}
theorem zfi (ea:evE q F ρ a h=.ok (.int x) h) (eb:evE q F ρ b h=.ok (.int y) h):evE q F ρ (.bin .add a b) h=.ok (.int (x+y)) h:=by rw[zbF,ea,R.bind_ok,eb];rfl
theorem zmX (ea:evE q F ρ a h=.ok (.int x) h) (eb:evE q F ρ b h=.ok (.int y) h):evE q F ρ (.bin .sub a b) h=.ok (.int (x - y)) h:=by rw[zbF,ea,R.bind_ok,eb];rfl
theorem zmY (ea:evE q F ρ a h=.ok (.int x) h) (eb:evE q F ρ b h=.ok (.int y) h) (hy:y.natAbs < 9223372036854775808):evE q F ρ (.bin .mul a b) h=.ok (.int (x * y)) h:=by rw[zbF,ea,R.bind_ok,eb,R.bind_ok,zh9 h _ _ hy];rfl
theorem zdr (ea:evE q F ρ a h=.ok (.int x) h) (eb:evE q F ρ b h=.ok (.int y) h) (hy:y≠0):evE q F ρ (.bin .fdiv a b) h=.ok (.int (x.fdiv y)) h:=by rw[zbF,ea,R.bind_ok,eb,R.bind_ok,zhn h _ _ hy];rfl
theorem zc9 (ea:evE q F ρ a h=.ok (.int x) h) (eb:evE q F ρ b h=.ok (.int y) h) (hy:y≠0):evE q F ρ (.bin .mod a b) h=.ok (.int (x.fmod y)) h:=by rw[zbF,ea,R.bind_ok,eb,R.bind_ok,zia h _ _ hy];rfl
theorem zba {i:Nat}{v:V}(e:ρ[i]?=some v) (hv:v.val):evE q F ρ (.var i) h=.ok v h:=by
 rw[zb5,e]
 cases v<;>first|rfl|exact hv.elim
theorem zfh (ea:evE q F ρ a h=.ok (.int x) h) (eb:evE q F ρ b h=.ok (.int y) h):evE q F ρ (.cmp .eq a b) h=.ok (.bool (decide (x=y))) h:=by
 rw[zal,ea,R.bind_ok,eb,R.bind_ok];show R.opt (Option.map V.bool (pyEq h (.int x) (.int y))) h=_;rw[zfs h rfl rfl rfl rfl,zhL];rfl
theorem zmZ {f:Bf}(hr:((!true&&f.walks)||!f.ready)=false):evE true F ρ (.bf f a) h=(evE true F ρ a h).bind fun x h=>R.opt (Mine.bf f h x) h:=by rw[zaR,hr];exact if_neg Bool.false_ne_true
theorem zdU {f:String}{v w r:V}(ea:evE q F ρ a h=.ok v h) (eb:evE q F ρ b h=.ok w h) (hc:pcall h (F q f [v,w] h)=.ok r h):evE q F ρ (.call false f [a,b]) h=.ok r h:=by
 rw[zaq,zcK,ea,R.bind_ok,zcK,eb,R.bind_ok,zkh,R.bind_ok,R.bind_ok,R.bind_ok];exact hc
theorem zbu {f:String}{c:PE}{v w x r:V}(ea:evE true F ρ a h=.ok v h) (eb:evE true F ρ b h=.ok w h) (ec:evE true F ρ c h=.ok x h) (hc:pcall h (F true f [v,w,x] h)=.ok r h):evE true F ρ (.call false f [a,b,c]) h=.ok r h:=by
 rw[zaq,zcK,ea,R.bind_ok,zcK,eb,R.bind_ok,zcK,ec,R.bind_ok,zkh,R.bind_ok,R.bind_ok,R.bind_ok,R.bind_ok];exact hc
theorem zdV {f:String}{v r:V}(ea:evE true F ρ a h=.ok v h) (hc:pcall h (F true f [v] h)=.ok r h):evE true F ρ (.call false f [a]) h=.ok r h:=by
 rw[zaq,zcK,ea,R.bind_ok,zkh,R.bind_ok,R.bind_ok];exact hc
end
/- is_among: 0 thing,1 low,2 high -/
noncomputable def zdN:FnDef:=⟨3,3,[
 .ret (.and [.isinst (.var 0) [.int],.not (.isinst (.var 0) [.bool]),.cmp2 .le .le (.var 1) (.var 0) (.var 2)])]⟩
def zap (P:Tab):Prop:=P "is_among"=some zdN
theorem zap.self {P:Tab}(u:zap P):P "is_among"=some zdN:=u
/- how_many: 0 signs,1 size,2 found,3 turn -/
noncomputable def zdO:FnDef:=⟨2,4,[
 .asg 2 (.int 1),
 .for1 3 (.range1 (.var 1)) [
  .asg 2 (.bin .mul (.var 2) (.var 0))],
 .ret (.var 2)]⟩
def za8 (P:Tab):Prop:=P "how_many"=some zdO
theorem za8.self {P:Tab}(u:za8 P):P "how_many"=some zdO:=u
/- need_signs: 0 signs -/
noncomputable def zcS:FnDef:=⟨1,1,[
 .ifs (.not (.call false "is_among" [.var 0,.int 1,.glob "MOST_SIGNS" 9])) [
  .raise "BadSize"] []]⟩
def zbe (P:Tab):Prop:=P "need_signs"=some zcS∧zap P
theorem zbe.self {P:Tab}(u:zbe P):P "need_signs"=some zcS:=And.left u
theorem zbe.is_among {P:Tab}(u:zbe P):zap P:=And.right u
/- need_size: 0 size -/
noncomputable def zdb:FnDef:=⟨1,1,[
 .ifs (.not (.call false "is_among" [.var 0,.int 1,.glob "MOST_SIZE" 8])) [
  .raise "BadSize"] []]⟩
def za5 (P:Tab):Prop:=P "need_size"=some zdb∧zap P
theorem za5.self {P:Tab}(u:za5 P):P "need_size"=some zdb:=And.left u
theorem za5.is_among {P:Tab}(u:za5 P):zap P:=And.right u
/- need_both: 0 signs,1 size -/
noncomputable def zdd:FnDef:=⟨2,2,[
 .expr (.call false "need_signs" [.var 0]),
 .expr (.call false "need_size" [.var 1]),
 .ifs (.cmp .gt (.call false "how_many" [.var 0,.var 1]) (.glob "MOST_WORDS" 256)) [
  .raise "BadSize"] []]⟩
def zab (P:Tab):Prop:=P "need_both"=some zdd∧zbe P∧za5 P∧za8 P
theorem zab.self {P:Tab}(u:zab P):P "need_both"=some zdd:=And.left u
theorem zab.need_signs {P:Tab}(u:zab P):zbe P:=And.left (And.right u)
theorem zab.need_size {P:Tab}(u:zab P):za5 P:=And.left (And.right (And.right u))
theorem zab.how_many {P:Tab}(u:zab P):za8 P:=And.right (And.right (And.right u))
/- is_word: 0 signs,1 word,2 sign -/
noncomputable def ze3:FnDef:=⟨2,3,[
 .ifs (.or [.not (.isinst (.var 1) [.list]),.not (.cmp2 .le .le (.int 1) (.bf .len (.var 1)) (.glob "MOST_SIZE" 8))]) [
  .ret (.bool false)] [],
 .ret (.bf .all (.comp (.call false "is_among" [.var 2,.int 0,.bin .sub (.var 0) (.int 1)]) 2 (.seq (.var 1)) .none))]⟩
def zbm (P:Tab):Prop:=P "is_word"=some ze3∧zap P
theorem zbm.self {P:Tab}(u:zbm P):P "is_word"=some ze3:=And.left u
theorem zbm.is_among {P:Tab}(u:zbm P):zap P:=And.right u
/- need_word: 0 signs,1 word -/
noncomputable def ze2:FnDef:=⟨2,2,[
 .ifs (.not (.call false "is_word" [.var 0,.var 1])) [
  .raise "BadWord"] []]⟩
def zbd (P:Tab):Prop:=P "need_word"=some ze2∧zbm P
theorem zbd.self {P:Tab}(u:zbd P):P "need_word"=some ze2:=And.left u
theorem zbd.is_word {P:Tab}(u:zbd P):zbm P:=And.right u
/- need_sized: 0 signs,1 size,2 word -/
noncomputable def zdX:FnDef:=⟨3,3,[
 .expr (.call false "need_word" [.var 0,.var 2]),
 .ifs (.cmp .ne (.bf .len (.var 2)) (.var 1)) [
  .raise "BadWord"] []]⟩
def zbq (P:Tab):Prop:=P "need_sized"=some zdX∧zbd P
theorem zbq.self {P:Tab}(u:zbq P):P "need_sized"=some zdX:=And.left u
theorem zbq.need_word {P:Tab}(u:zbq P):zbd P:=And.right u
/- numbered: 0 signs,1 size,2 number,3 found,4 left,5 turn -/
noncomputable def zfJ:FnDef:=⟨3,6,[
 .asg 3 (.own (.list [])),
 .asg 4 (.var 2),
 .for1 5 (.range1 (.var 1)) [
  .expr (.append (.var 3) (.bin .mod (.var 4) (.var 0))),
  .asg 4 (.bin .fdiv (.var 4) (.var 0))],
 .ret (.bf .listRev (.var 3))]⟩
def zbL (P:Tab):Prop:=P "numbered"=some zfJ
theorem zbL.self {P:Tab}(u:zbL P):P "numbered"=some zfJ:=u
/- all_words: 0 signs,1 size,2 number -/
noncomputable def ze6:FnDef:=⟨2,3,[
 .expr (.call false "need_both" [.var 0,.var 1]),
 .ret (.comp (.call false "numbered" [.var 0,.var 1,.var 2]) 2 (.range1 (.call false "how_many" [.var 0,.var 1])) .none)]⟩
def zaN (P:Tab):Prop:=P "all_words"=some ze6∧zab P∧za8 P∧zbL P
theorem zaN.self {P:Tab}(u:zaN P):P "all_words"=some ze6:=And.left u
theorem zaN.need_both {P:Tab}(u:zaN P):zab P:=And.left (And.right u)
theorem zaN.how_many {P:Tab}(u:zaN P):za8 P:=And.left (And.right (And.right u))
theorem zaN.numbered {P:Tab}(u:zaN P):zbL P:=And.right (And.right (And.right u))
/- number_of: 0 signs,1 size,2 word,3 found,4 sign -/
noncomputable def ze1:FnDef:=⟨3,5,[
 .expr (.call false "need_both" [.var 0,.var 1]),
 .expr (.call false "need_sized" [.var 0,.var 1,.var 2]),
 .asg 3 (.int 0),
 .for1 4 (.seq (.var 2)) [
  .asg 3 (.bin .add (.bin .mul (.var 3) (.var 0)) (.var 4))],
 .ret (.var 3)]⟩
def zby (P:Tab):Prop:=P "number_of"=some ze1∧zab P∧zbq P
theorem zby.self {P:Tab}(u:zby P):P "number_of"=some ze1:=And.left u
theorem zby.need_both {P:Tab}(u:zby P):zab P:=And.left (And.right u)
theorem zby.need_sized {P:Tab}(u:zby P):zbq P:=And.right (And.right u)
/- word_of: 0 signs,1 size,2 number -/
noncomputable def zhq:FnDef:=⟨3,3,[
 .expr (.call false "need_both" [.var 0,.var 1]),
 .ifs (.not (.call false "is_among" [.var 2,.int 0,.bin .sub (.call false "how_many" [.var 0,.var 1]) (.int 1)])) [
  .raise "BadWord"] [],
 .ret (.call false "numbered" [.var 0,.var 1,.var 2])]⟩
def zbl (P:Tab):Prop:=P "word_of"=some zhq∧zab P∧zap P∧za8 P∧zbL P
theorem zbl.self {P:Tab}(u:zbl P):P "word_of"=some zhq:=And.left u
theorem zbl.need_both {P:Tab}(u:zbl P):zab P:=And.left (And.right u)
theorem zbl.is_among {P:Tab}(u:zbl P):zap P:=And.left (And.right (And.right u))
theorem zbl.how_many {P:Tab}(u:zbl P):za8 P:=And.left (And.right (And.right (And.right u)))
theorem zbl.numbered {P:Tab}(u:zbl P):zbL P:=And.right (And.right (And.right (And.right u)))
/- stands_in: 0 piece,1 word,2 place -/
noncomputable def zeY:FnDef:=⟨2,3,[
 .for1 2 (.range1 (.bin .add (.bin .sub (.bf .len (.var 1)) (.bf .len (.var 0))) (.int 1))) [
  .ifs (.cmp .eq (.slice (.var 1) (some (.var 2)) (some (.bin .add (.var 2) (.bf .len (.var 0))))) (.var 0)) [
   .ret (.bool true)] []],
 .ret (.bool false)]⟩
def zcE (P:Tab):Prop:=P "stands_in"=some zeY
theorem zcE.self {P:Tab}(u:zcE P):P "stands_in"=some zeY:=u
/- free_of: 0 signs,1 size,2 pieces,3 piece,4 found,5 word,6 piece -/
noncomputable def zhr:FnDef:=⟨3,7,[
 .expr (.call false "need_both" [.var 0,.var 1]),
 .ifs (.not (.isinst (.var 2) [.list])) [
  .raise "BadWord"] [],
 .for1 3 (.seq (.var 2)) [
  .expr (.call false "need_word" [.var 0,.var 3])],
 .asg 4 (.own (.list [])),
 .for1 5 (.seq (.call false "all_words" [.var 0,.var 1])) [
  .ifs (.not (.bf .any (.comp (.call false "stands_in" [.var 6,.var 5]) 6 (.seq (.var 2)) .none))) [
   .expr (.append (.var 4) (.var 5))] []],
 .ret (.var 4)]⟩
def zbn (P:Tab):Prop:=P "free_of"=some zhr∧zab P∧zbd P∧zaN P∧zcE P
theorem zbn.self {P:Tab}(u:zbn P):P "free_of"=some zhr:=And.left u
theorem zbn.need_both {P:Tab}(u:zbn P):zab P:=And.left (And.right u)
theorem zbn.need_word {P:Tab}(u:zbn P):zbd P:=And.left (And.right (And.right u))
theorem zbn.all_words {P:Tab}(u:zbn P):zaN P:=And.left (And.right (And.right (And.right u)))
theorem zbn.stands_in {P:Tab}(u:zbn P):zcE P:=And.right (And.right (And.right (And.right u)))
theorem zh0 {P:Tab}(u:za8 P) (n:Nat) (s:Int) (hs:s.natAbs < 1000) (z:Nat) (hz:z≤1000) (h:H) :
  run P (n+1) true "how_many" [.int s,.int z] h=.ok (.int (s ^ z)) h:=by
 refine start u.self rfl (ρ:=[.int s,.int z,.undef,.undef]) rfl (zaT (v:=.int 1) (h':=h) rfl rfl ?_);refine zkx (l:=List.range z) (fun p w=>[.int s,.int z,.int (s ^ p.length),w]) (fun z_=>h) .undef (zeM (n:=z) rfl (Nat.le_trans hz (by decide))) (fun z_=>rfl) (by rw[List.length_nil,Int.pow_zero];rfl) rfl (fun p a q w z_=>?_) fun w=>?_
 ·rw[List.length_append,List.length_singleton,Int.pow_succ,ss_cons',s_asg',zmY (x:=s ^ p.length) (y:=s) rfl rfl (Nat.lt_trans hs (by decide)),R.st_ok];rfl
 ·rw[List.length_range];exact zbw rfl
noncomputable def word (s:Nat):Nat→Nat→List Nat
 |0,_=>[]
 |z+1,k=>word s z (k / s)++[k % s]
theorem zpi (s k:Nat):word s 0 k=[]:=rfl
theorem zjI (s z k:Nat):word s (z+1) k=word s z (k / s)++[k % s]:=rfl
theorem zc2 (s z k:Nat):(word s z k).length=z:=by
 induction z generalizing k with
 |zero=>rfl
 |succ z ih=>rw[zjI,List.length_append,ih];rfl
theorem zjK {s:Nat}(hs:0 < s) (z k:Nat):∀ d∈word s z k,d < s:=by
 induction z generalizing k with
 |zero=>intro d hd;cases hd
 |succ z ih =>
  intro d hd
  rcases List.mem_append.1 hd with h|h
  ·exact ih _ d h
  ·simp at h;subst h;exact Nat.mod_lt _ hs
theorem zi0 (s z i k:Nat) (hi:i≤z):word s z k=word s (z - i) (k / s ^ i)++word s i k:=by
 induction i generalizing z k with
 |zero=>rw[Nat.pow_zero,Nat.div_one,zpi,List.append_nil];rfl
 |succ i ih =>
  cases z with
  |zero=>exact absurd hi (Nat.not_succ_le_zero i)
  |succ z=>rw[zjI,ih z (k / s) (Nat.le_of_succ_le_succ hi),zjI,Nat.pow_succ,Nat.mul_comm,← Nat.div_div_eq_div_mul,List.append_assoc,Nat.add_sub_add_right]
noncomputable def V.lists (ls:List (List Nat)):List V:=ls.map fun l=>.lst (V.nats l)
noncomputable def words (s z:Nat):List (List Nat):=(List.range (s ^ z)).map (word s z)
theorem lists_plains (ls:List (List Nat)):V.plains (V.lists ls)=true:=by
 induction ls with
 |nil=>rfl
 |cons a l ih=>simp only[V.lists,List.map_cons,V.plains,V.plain,zct,Bool.true_and];exact ih
/- _law_cell_at: 0 _law_script,1 _law_k -/
noncomputable def zeX:FnDef:=⟨2,2,[
 .ifs (.cmp .lt (.var 1) (.bf .len (.var 0))) [
  .ret (.idx (.var 0) (.var 1))] [],
 .ret (.int 0)]⟩
def zbh (P:Tab):Prop:=P "_law_cell_at"=some zeX
theorem zbh.self {P:Tab}(u:zbh P):P "_law_cell_at"=some zeX:=u
/- _law_classes: 0 _law_e,1 _law_found -/
noncomputable def zeW:FnDef:=⟨1,2,[
 .asg 1 (.bin .add (.bin .add (.bin .mul (.list [.int 0]) (.bf .int (.isexc 0 (.own "BadSize")))) (.bin .mul (.list [.int 1]) (.bf .int (.isexc 0 (.own "BadWord"))))) (.bin .mul (.list [.int 2]) (.bf .int (.isexc 0 (.own "BadBook"))))),
 .asg 1 (.bin .add (.bin .add (.var 1) (.bin .mul (.list [.int 3]) (.bf .int (.isexc 0 (.own "BadRing"))))) (.bin .mul (.list [.int 4]) (.bf .int (.isexc 0 (.own "NoWord"))))),
 .asg 1 (.bin .add (.bin .add (.var 1) (.bin .mul (.list [.int 5]) (.bf .int (.isexc 0 (.own "NoRing"))))) (.bin .mul (.list [.int 6]) (.bf .int (.isexc 0 (.own "NoJoin"))))),
 .ret (.bf .tuple (.bin .mul (.var 1) (.bf .int (.isexc 0 .valueError))))]⟩
def zbM (P:Tab):Prop:=P "_law_classes"=some zeW
theorem zbM.self {P:Tab}(u:zbM P):P "_law_classes"=some zeW:=u
/- _law_power: 0 _law_signs,1 _law_size,2 _law_found,3 _law_step -/
noncomputable def zlw:FnDef:=⟨2,4,[
 .asg 2 (.int 1),
 .for1 3 (.range1 (.var 1)) [
  .asg 2 (.bin .mul (.var 2) (.var 0))],
 .ret (.var 2)]⟩
def ziZ (P:Tab):Prop:=P "_law_power"=some zlw
theorem ziZ.self {P:Tab}(u:ziZ P):P "_law_power"=some zlw:=u
/- _law_word: 0 _law_signs,1 _law_size,2 _law_number,3 _law_found,4 _law_step -/
noncomputable def zlv:FnDef:=⟨3,5,[
 .asg 3 (.list []),
 .for1 4 (.range1 (.var 1)) [
  .asg 3 (.bin .add (.list [.bin .mod (.var 2) (.var 0)]) (.var 3)),
  .asg 2 (.bin .fdiv (.var 2) (.var 0))],
 .ret (.var 3)]⟩
def zdH (P:Tab):Prop:=P "_law_word"=some zlv
theorem zdH.self {P:Tab}(u:zdH P):P "_law_word"=some zlv:=u
theorem zju {P:Tab}(u:zbh P) (n:Nat) (q:Bool) (l:List Int) (k:Nat) (h:H) :
  run P (n+1) q "_law_cell_at" [V.ints l,.int k] h=.ok (.int (cellAt l k)) h:=by
 refine start u.self rfl (ρ:=[V.ints l,.int k]) rfl ?_;have c:evE q (run P n) [V.ints l,.int k] (.cmp .lt (.var 1) (.bf .len (.var 0))) h=.ok (.bool (decide ((k:Int) < ((l.map V.int).length:Nat)))) h:=by cases q<;>rfl
 rw[List.length_map] at c
 by_cases hk:k < l.length
 ·refine zgT (c.trans (by rw[decide_eq_true (Int.ofNat_lt.2 hk)])) (zbw ?_)
  show R.opt (pyIdx h (.lst (l.map V.int)) (.int k)) h=_;rw[ziF (h:=h) (x:=.int (cellAt l k)) rfl (j:=k) (by rw[List.getElem?_map,List.getElem?_eq_getElem hk,cellAt,List.getD_eq_getElem?_getD,List.getElem?_eq_getElem hk];rfl)];rfl
 ·refine zb1 (c.trans (by rw[decide_eq_false fun e=>hk (Int.ofNat_lt.1 e)])) (zbw ?_)
  rw[cellAt,List.getD_eq_getElem?_getD,List.getElem?_eq_none (Nat.le_of_not_lt hk)];rfl
noncomputable def codeOf (c:String):Int :=
 if c="BadSize" then 0 else if c="BadWord" then 1 else if c="BadBook" then 2 else if c="BadRing" then 3 else if c="NoWord" then 4 else if c="NoRing" then 5 else 6
theorem zjs {P:Tab}(u:zbM P) (n:Nat) (q:Bool) (c:String) (hc:c∈["BadSize","BadWord","BadBook","BadRing","NoWord","NoRing","NoJoin"]) (h:H) :
  run P (n+1) q "_law_classes" [.exc c] h=.ok (.tup [.int (codeOf c)]) h:=by
 refine start u.self rfl (ρ:=[.exc c,.undef]) rfl ?_;simp only[List.mem_cons,List.not_mem_nil,or_false] at hc
 cases q<;>rcases hc with rfl|rfl|rfl|rfl|rfl|rfl|rfl<;>rfl
theorem ziy {P:Tab}(u:zdH P) (n:Nat) (s z k:Nat) (hs:0 < s) (hz:z≤1000) (h:H) :
  run P (n+1) true "_law_word" [.int s,.int z,.int k] h=.ok (.lst (V.nats (word s z k))) h:=by
 refine start u.self rfl (ρ:=[.int s,.int z,.int k,.undef,.undef]) rfl ?_;refine zaT (v:=.lst []) (h':=h) rfl rfl ?_;refine zkx (fun p w=>[.int s,.int z,.int ((k / s ^ p.length:Nat):Int),.lst (V.nats (word s p.length k)),w]) (fun z_=>h) .undef (zeM (n:=z) rfl (Nat.le_trans hz (by decide))) (fun z_=>rfl) (by rw[List.length_nil,Nat.pow_zero,Nat.div_one];rfl) rfl ?_ ?_
 ·intro p a q w hp
  have hi:p.length < z:=by have:=congrArg List.length hp;rw[List.length_range,List.length_append,List.length_cons] at this;rw[this];exact Nat.lt_add_of_pos_right (Nat.succ_pos _)
  rw[List.length_append,List.length_singleton];generalize p.length=i at *
  have e2:k / s ^ (i+1)=k / s ^ i / s:=by rw[Nat.div_div_eq_div_mul,Nat.pow_succ]
  have e3:word s (i+1) k=(k / s ^ i % s)::word s i k:=by
   rw[zi0 s (i+1) i k (Nat.le_succ i),Nat.add_sub_cancel_left];rfl
  rw[e2,e3];have hl:=zc2 s i k;generalize word s i k=wd at *
  generalize k / s ^ i=m;have e4:evE true (run P n) [.int s,.int z,.int m,.lst (V.nats wd),.int a] (.bin .add (.list [.bin .mod (.var 2) (.var 0)]) (.var 3)) h=.ok (.lst (V.nats (m % s::wd))) h:=by
   rw[zbF,zaw,zcK,zc9 (x:=m) (y:=s) rfl rfl (Int.natCast_ne_zero.2 (Nat.ne_of_gt hs)),R.bind_ok,zmF];show R.opt (pyBin .add h (.lst [.int ((m % s:Nat):Int)]) (.lst (V.nats wd))) h=_;rw[addLL h _ _ (by rw[nats_length,hl,Nat.add_comm];exact Nat.le_trans hi (Nat.le_trans hz (by decide))),zbO];rfl
  rw[ss_cons'];show((evE true (run P n) [.int s,.int z,.int m,.lst (V.nats wd),.int a] (.bin .add (.list [.bin .mod (.var 2) (.var 0)]) (.var 3)) h).st _ _).then _=_;rw[e4];show exSs true (run P n) [.asg 2 (.bin .fdiv (.var 2) (.var 0))] [.int s,.int z,.int m,.lst (V.nats (m % s::wd)),.int a] h=_;rw[ss_cons',s_asg',zdr (x:=m) (y:=s) rfl rfl (Int.natCast_ne_zero.2 (Nat.ne_of_gt hs)),ziI];rfl
 ·intro w
  rw[List.length_range];exact zbw rfl
theorem IsL.len {h:H}{v:V}{l:List Nat}(e:IsL h v l):Mine.bf .len h v=some (.int l.length):=by
 rw[zkE e,nats_length]
theorem zfv {h:H}{v:V}{vs:List V}(e:litems h v=some vs) (k:H):litems (h++k) v=some vs:=by
 rcases zaf e with rfl|⟨i,rfl,hc⟩
 ·rfl
 ·refine zaa ?_
  rw[List.getElem?_append_left (List.getElem?_eq_some_iff.1 hc).1];exact hc
theorem IsL.app {h:H}{v:V}{l:List Nat}(e:IsL h v l) (k:H):IsL (h++k) v l:=zfv e k
theorem zcR {h:H}{v:V}{vs:List V}(e:litems h v=some vs) (hp:V.plains vs=true):frz 0 h v=some (.lst vs):=by
 rcases zaf e with rfl|⟨i,rfl,hc⟩
 ·exact zcQ 0 h _ hp
 ·show frzAt 4 0 h i=_
  rw[zc8,if_neg (Nat.not_lt_zero i),hc];show Option.map _ (V.mapRefs _ vs)=_;rw[zaA _ _ hp];rfl
theorem zja (a b:List (List Nat)):peqs (V.lists a) (V.lists b)=decide (a=b):=by
 induction a generalizing b with
 |nil=>cases b<;>rfl
 |cons x a ih=>cases b with
  |nil=>rfl
  |cons y b =>
   show(peq (.lst (V.nats x)) (.lst (V.nats y))&&peqs (V.lists a) (V.lists b))=_;rw[zf2,zey,ih]
   by_cases e1:x=y<;>by_cases e2:a=b<;>simp[e1,e2]
theorem zf4 (l:List (List Nat)) (n:Nat):V.ok (n+3) (.lst (V.lists l))=true:=by
 show(V.lists l).all (V.ok (n+2))=true;rw[List.all_eq_true];intro v hv;simp only[V.lists,List.mem_map] at hv;obtain⟨x,_,rfl⟩:=hv;exact zd3 x n
theorem zki {h:H}{a b:V}{x y:List (List Nat)}(ha:frz 0 h a=some (.lst (V.lists x))) (hb:frz 0 h b=some (.lst (V.lists y))):pyEq h a b=some (decide (x=y)):=by
 rw[zit ha hb (zf4 x 5) (zf4 y 5),zf2,zja]
noncomputable def clean (v:V):Prop:=v.plain=true∧v.val∧∀ vs,v=.lst vs→∀ x∈vs,x.val
theorem zgO {v:V}(hp:v.plain=true) (hv:v.val) (h:H):okV h v:=by
 cases v<;>first|trivial|exact hv.elim|cases hp
theorem zi8 {vs:List V}(hp:V.plains vs=true){v:V}(hv:v∈vs):v.plain=true:=by
 induction vs with
 |nil=>cases hv
 |cons a l ih =>
  simp only[V.plains,Bool.and_eq_true] at hp
  rcases List.mem_cons.1 hv with rfl|hm
  ·exact hp.1
  ·exact ih hp.2 hm
theorem clean.okV {v:V}(hc:clean v) (h:H):okV h v:=zgO hc.1 hc.2.1 h
theorem clean.items {v:V}(hc:clean v) (h:H):∀ vs,litems h v=some vs→∀ x∈vs,Mine.okV h x:=by
 intro vs hl x hx
 rcases zaf hl with rfl|⟨i,rfl,_⟩
 ·exact zgO (zi8 hc.1 hx) (hc.2.2 _ rfl x hx) h
 ·cases hc.1
theorem zkj {vs:List V}(h:∀ v∈vs,v.plain=true):V.plains vs=true:=by
 induction vs with
 |nil=>rfl
 |cons a l ih=>rw[V.plains,h a (List.mem_cons_self ..),ih fun v hv=>h v (List.mem_cons_of_mem _ hv)];rfl
theorem Watch.app {t:Watch}{h:H}(e:t.ok h=true) (k:H):t.ok (h++k)=true:=by
 cases t with
 |none=>rfl
 |some p =>
  have:h[p.1]?=some p.2:=of_decide_eq_true e;show decide ((h++k)[p.1]?=some p.2)=true;rw[List.getElem?_append_left (List.getElem?_eq_some_iff.1 this).1,this];exact decide_eq_true rfl
theorem zpb {α:Type}{P:α→Prop}:∀ x∈([]:List α),P x:=fun z_ h=>nomatch h
theorem zau {α:Type}{P:α→Prop}{a:α}{l:List α}(h:P a) (t:∀ x∈l,P x):∀ x∈a::l,P x:=fun x hx=>(List.mem_cons.1 hx).elim (fun e=>e ▸ h) (t x)
theorem zoJ {h:H}{vs:List V}{i:Int}{m:Nat}(hm:0 < m) (hl:vs.length=m):∃ j:Nat,j < m∧i.fmod m=j∧∃ x,vs[j]?=some x∧pyIdx h (.lst vs) (.int (i.fmod m))=some x:=by
 obtain⟨j,hj,e⟩:=zch i m hm;have hx:vs[j]?=some vs[j]:=List.getElem?_eq_getElem (hl ▸ hj);exact⟨j,hj,e,_,hx,by rw[e];exact ziF rfl hx⟩
noncomputable def cells (ps:List (List Nat)):H:=ps.map fun p=>.list (V.nats p)
namespace L09
/- need_ring: 0 signs,1 ring,2 sign -/
noncomputable def zdc:FnDef:=⟨2,3,[
 .ifs (.or [.not (.isinst (.var 1) [.list]),.not (.cmp2 .le .le (.int 1) (.bf .len (.var 1)) (.glob "MOST_WORDS" 256))]) [
  .raise "BadRing"] [],
 .for1 2 (.seq (.var 1)) [
  .ifs (.not (.call false "is_among" [.var 2,.int 0,.bin .sub (.var 0) (.int 1)])) [
   .raise "BadRing"] []]]⟩
def zaM (P:Tab):Prop:=P "need_ring"=some zdc∧zap P
theorem zaM.self {P:Tab}(u:zaM P):P "need_ring"=some zdc:=And.left u
theorem zaM.is_among {P:Tab}(u:zaM P):zap P:=And.right u
/- read_at: 0 ring,1 size,2 place,3 turn -/
noncomputable def ze0:FnDef:=⟨3,4,[
 .ret (.comp (.idx (.var 0) (.bin .mod (.bin .add (.var 2) (.var 3)) (.bf .len (.var 0)))) 3 (.range1 (.var 1)) .none)]⟩
def zcl (P:Tab):Prop:=P "read_at"=some ze0
theorem zcl.self {P:Tab}(u:zcl P):P "read_at"=some ze0:=u
/- words_on: 0 ring,1 size,2 place -/
noncomputable def zdM:FnDef:=⟨2,3,[
 .expr (.call false "need_size" [.var 1]),
 .expr (.call false "need_ring" [.glob "MOST_SIGNS" 9,.var 0]),
 .ret (.comp (.call false "read_at" [.var 0,.var 1,.var 2]) 2 (.range1 (.bf .len (.var 0))) .none)]⟩
def zay (P:Tab):Prop:=P "words_on"=some zdM∧za5 P∧zaM P∧zcl P
theorem zay.self {P:Tab}(u:zay P):P "words_on"=some zdM:=And.left u
theorem zay.need_size {P:Tab}(u:zay P):za5 P:=And.left (And.right u)
theorem zay.need_ring {P:Tab}(u:zay P):zaM P:=And.left (And.right (And.right u))
theorem zay.read_at {P:Tab}(u:zay P):zcl P:=And.right (And.right (And.right u))
/- need_book: 0 signs,1 size,2 book,3 met,4 word -/
noncomputable def zde:FnDef:=⟨3,5,[
 .expr (.call false "need_both" [.var 0,.var 1]),
 .ifs (.or [.not (.isinst (.var 2) [.list]),.cmp .eq (.bf .len (.var 2)) (.int 0)]) [
  .raise "BadBook"] [],
 .asg 3 (.newDict []),
 .for1 4 (.seq (.var 2)) [
  .ifs (.or [.not (.call false "is_word" [.var 0,.var 4]),.cmp .ne (.bf .len (.var 4)) (.var 1),.cmp .isin (.bf .tuple (.var 4)) (.var 3)]) [
   .raise "BadBook"] [],
  .setIdx (.var 3) (.bf .tuple (.var 4)) (.bool true)]]⟩
def zai (P:Tab):Prop:=P "need_book"=some zde∧zab P∧zbm P
theorem zai.self {P:Tab}(u:zai P):P "need_book"=some zde:=And.left u
theorem zai.need_both {P:Tab}(u:zai P):zab P:=And.left (And.right u)
theorem zai.is_word {P:Tab}(u:zai P):zbm P:=And.right (And.right u)
/- onward: 0 book,1 found,2 word -/
noncomputable def zgB:FnDef:=⟨1,3,[
 .asg 1 (.newDict []),
 .for1 2 (.seq (.var 0)) [
  .expr (.append (.setdef (.var 1) (.bf .tuple (.slice (.var 2) .none (some (.neg 1)))) (.own (.list []))) (.bf .tuple (.slice (.var 2) (some (.int 1)) .none))),
  .expr (.setdef (.var 1) (.bf .tuple (.slice (.var 2) (some (.int 1)) .none)) (.own (.list [])))],
 .ret (.var 1)]⟩
def zcZ (P:Tab):Prop:=P "onward"=some zgB
theorem zcZ.self {P:Tab}(u:zcZ P):P "onward"=some zgB:=u
/- come_to: 0 ways,1 start,2 found,3 waiting,4 joint -/
noncomputable def ze5:FnDef:=⟨2,5,[
 .asg 2 (.dict1 (.var 1) (.bool true)),
 .asg 3 (.own (.list [.var 1])),
 .while (.cmp .gt (.bf .len (.var 3)) (.int 0)) [
  .for1 4 (.seq (.idx (.var 0) (.pop (.var 3)))) [
   .ifs (.cmp .notIn (.var 4) (.var 2)) [
    .setIdx (.var 2) (.var 4) (.bool true),
    .expr (.append (.var 3) (.var 4))] []]],
 .ret (.var 2)]⟩
def zcm (P:Tab):Prop:=P "come_to"=some ze5
theorem zcm.self {P:Tab}(u:zcm P):P "come_to"=some ze5:=u
/- lack_of: 0 book,1 ways,2 ends,3 joint,4 other,5 found,6 joint -/
noncomputable def zcT:FnDef:=⟨1,7,[
 .asg 1 (.call true "onward" [.var 0]),
 .asg 2 (.newDict []),
 .for1 3 (.seq (.var 1)) [
  .for1 4 (.seq (.idx (.var 1) (.var 3))) [
   .setIdx (.var 2) (.var 4) (.bin .add (.get (.var 2) (.var 4) (.int 0)) (.int 1))]],
 .for1 3 (.seq (.bf .sorted (.var 1))) [
  .ifs (.cmp .ne (.get (.var 2) (.var 3) (.int 0)) (.bf .len (.idx (.var 1) (.var 3)))) [
   .ret (.tup [.str "uneven",.own (.bf .list (.var 3))])] []],
 .asg 5 (.call true "come_to" [.var 1,.bf .tuple (.slice (.bf .min (.var 0)) .none (some (.neg 1)))]),
 .ifs (.cmp .lt (.bf .len (.var 5)) (.bf .len (.var 1))) [
  .ret (.tup [.str "apart",.own (.comp (.bf .list (.var 6)) 6 (.seq (.bf .sorted (.var 5))) .none)])] [],
 .ret .none]⟩
def za2 (P:Tab):Prop:=P "lack_of"=some zcT∧zcZ P∧zcm P
theorem za2.self {P:Tab}(u:za2 P):P "lack_of"=some zcT:=And.left u
theorem za2.onward {P:Tab}(u:za2 P):zcZ P:=And.left (And.right u)
theorem za2.come_to {P:Tab}(u:za2 P):zcm P:=And.right (And.right u)
/- lack: 0 signs,1 size,2 book -/
noncomputable def zlA:FnDef:=⟨3,3,[
 .expr (.call false "need_book" [.var 0,.var 1,.var 2]),
 .ret (.call true "lack_of" [.var 2])]⟩
def zc1 (P:Tab):Prop:=P "lack"=some zlA∧zai P∧za2 P
theorem zc1.self {P:Tab}(u:zc1 P):P "lack"=some zlA:=And.left u
theorem zc1.need_book {P:Tab}(u:zc1 P):zai P:=And.left (And.right u)
theorem zc1.lack_of {P:Tab}(u:zc1 P):za2 P:=And.right (And.right u)
/- is_ring_of: 0 signs,1 size,2 book,3 ring -/
noncomputable def zcU:FnDef:=⟨4,4,[
 .expr (.call false "need_book" [.var 0,.var 1,.var 2]),
 .expr (.call false "need_ring" [.var 0,.var 3]),
 .ret (.and [.cmp .eq (.bf .len (.var 3)) (.bf .len (.var 2)),.cmp .eq (.bf .sorted (.call false "words_on" [.var 3,.var 1])) (.bf .sorted (.var 2))])]⟩
def zaj (P:Tab):Prop:=P "is_ring_of"=some zcU∧zai P∧zaM P∧zay P
theorem zaj.self {P:Tab}(u:zaj P):P "is_ring_of"=some zcU:=And.left u
theorem zaj.need_book {P:Tab}(u:zaj P):zai P:=And.left (And.right u)
theorem zaj.need_ring {P:Tab}(u:zaj P):zaM P:=And.left (And.right (And.right u))
theorem zaj.words_on {P:Tab}(u:zaj P):zay P:=And.right (And.right (And.right u))
/- goes_on: 0 left,1 joint,2 many,3 met,4 waiting,5 words,6 here,7 sign,8 other -/
noncomputable def ze4:FnDef:=⟨3,9,[
 .ifs (.cmp .eq (.var 2) (.int 0)) [
  .ret (.bool true)] [],
 .asg 3 (.dict1 (.var 1) (.bool true)),
 .asg 4 (.own (.list [.var 1])),
 .asg 5 (.int 0),
 .while (.cmp .gt (.bf .len (.var 4)) (.int 0)) [
  .asg 6 (.pop (.var 4)),
  .asg 5 (.bin .add (.var 5) (.bf .len (.get (.var 0) (.var 6) (.list [])))),
  .for1 7 (.seq (.get (.var 0) (.var 6) (.list []))) [
   .asg 8 (.rev (.bin .add (.var 6) (.tup [.var 7]))),
   .ifs (.cmp .notIn (.var 8) (.var 3)) [
    .setIdx (.var 3) (.var 8) (.bool true),
    .expr (.append (.var 4) (.var 8))] []]],
 .ret (.cmp .eq (.var 5) (.var 2))]⟩
def zbU (P:Tab):Prop:=P "goes_on"=some ze4
theorem zbU.self {P:Tab}(u:zbU P):P "goes_on"=some ze4:=u
/- next_sign: 0 left,1 joint,2 many,3 sign,4 other -/
noncomputable def zda:FnDef:=⟨3,5,[
 .for1 3 (.seq (.bf .sorted (.idx (.var 0) (.var 1)))) [
  .expr (.remove (.idx (.var 0) (.var 1)) (.var 3)),
  .asg 4 (.rev (.bin .add (.var 1) (.tup [.var 3]))),
  .ifs (.call false "goes_on" [.var 0,.var 4,.bin .sub (.var 2) (.int 1)]) [
   .ret (.var 3)] [],
  .expr (.append (.idx (.var 0) (.var 1)) (.var 3))],
 .ret .none]⟩
def zaL (P:Tab):Prop:=P "next_sign"=some zda∧zbU P
theorem zaL.self {P:Tab}(u:zaL P):P "next_sign"=some zda:=And.left u
theorem zaL.goes_on {P:Tab}(u:zaL P):zbU P:=And.right u
/- ring_of: 0 signs,1 size,2 book,3 left,4 word,5 first,6 joint,7 found,8 many,9 sign -/
noncomputable def zeZ:FnDef:=⟨3,10,[
 .expr (.call false "need_book" [.var 0,.var 1,.var 2]),
 .ifs (.cmp .isNot (.call false "lack_of" [.var 2]) .none) [
  .raise "NoRing"] [],
 .asg 3 (.newDict []),
 .for1 4 (.seq (.var 2)) [
  .expr (.append (.setdef (.var 3) (.bf .tuple (.slice (.var 4) .none (some (.neg 1)))) (.own (.list []))) (.idx (.var 4) (.neg 1)))],
 .asg 5 (.bf .min (.var 2)),
 .asg 6 (.bf .tuple (.slice (.var 5) (some (.int 1)) .none)),
 .expr (.remove (.idx (.var 3) (.bf .tuple (.slice (.var 5) .none (some (.neg 1))))) (.idx (.var 5) (.neg 1))),
 .asg 7 (.own (.list [.idx (.var 5) (.int 0)])),
 .for1 8 (.range3 (.bin .sub (.bf .len (.var 2)) (.int 1)) (.int 0) (.neg 1)) [
  .asg 9 (.call true "next_sign" [.var 3,.var 6,.var 8]),
  .expr (.append (.var 7) (.idx (.bin .add (.var 6) (.tup [.var 9])) (.int 0))),
  .asg 6 (.rev (.bin .add (.var 6) (.tup [.var 9])))],
 .ret (.var 7)]⟩
def za6 (P:Tab):Prop:=P "ring_of"=some zeZ∧zai P∧za2 P∧zaL P
theorem za6.self {P:Tab}(u:za6 P):P "ring_of"=some zeZ:=And.left u
theorem za6.need_book {P:Tab}(u:za6 P):zai P:=And.left (And.right u)
theorem za6.lack_of {P:Tab}(u:za6 P):za2 P:=And.left (And.right (And.right u))
theorem za6.next_sign {P:Tab}(u:za6 P):zaL P:=And.right (And.right (And.right u))
/- _law_pair: 0 _law_cell,1 _law_some -/
noncomputable def zlx:FnDef:=⟨1,2,[
 .asg 1 (.list [.tup [.int 2,.int 3],.tup [.int 3,.int 2],.tup [.int 2,.int 4],.tup [.int 3,.int 3],.tup [.int 2,.int 2],.tup [.int 4,.int 2],.tup [.int 2,.int 5],.tup [.int 5,.int 2],.tup [.int 3,.int 1],.tup [.int 1,.int 4],.tup [.int 6,.int 1],.tup [.int 2,.int 8]]),
 .ret (.idx (.var 1) (.bin .mod (.var 0) (.int 12)))]⟩
def zdI (P:Tab):Prop:=P "_law_pair"=some zlx
theorem zdI.self {P:Tab}(u:zdI P):P "_law_pair"=some zlx:=u
/- _law_turns: 0 _law_word_here,1 _law_found,2 _law_place,3 _law_turn -/
noncomputable def zid:FnDef:=⟨1,4,[
 .asg 1 (.own (.list [])),
 .for1 2 (.range1 (.bf .len (.var 0))) [
  .asg 3 (.bin .add (.slice (.var 0) (some (.var 2)) .none) (.slice (.var 0) .none (some (.var 2)))),
  .ifs (.cmp .notIn (.var 3) (.var 1)) [
   .expr (.append (.var 1) (.var 3))] []],
 .ret (.var 1)]⟩
def zcF (P:Tab):Prop:=P "_law_turns"=some zid
theorem zcF.self {P:Tab}(u:zcF P):P "_law_turns"=some zid:=u
/- _law_book: 0 _law_script,1 _law_first,2 _law_signs,3 _law_size,4 _law_many,5 _law_cell,6 _law_book_here,7 _law_k,8 _law_number,9 _law_word_here,10 _law_more,11 _law_at,12 _law_turn -/
noncomputable def zfH:FnDef:=⟨5,13,[
 .asg 5 (.call false "_law_cell_at" [.var 0,.var 1]),
 .asg 6 (.own (.list [])),
 .for1 7 (.range1 (.bin .add (.int 1) (.bin .mod (.var 5) (.var 4)))) [
  .asg 8 (.bin .mod (.bin .mul (.bin .add (.call false "_law_cell_at" [.var 0,.bin .add (.bin .add (.var 1) (.int 2)) (.var 7)]) (.bin .mul (.int 101) (.var 7))) (.int 48271)) (.int 1000003)),
  .asg 9 (.call false "_law_word" [.var 2,.var 3,.var 8]),
  .ifs (.and [.cmp .eq (.bin .mod (.bin .fdiv (.var 8) (.int 65536)) (.int 3)) (.int 1),.cmp .ne (.var 6) (.list [])]) [
   .asg 9 (.bin .add (.slice (.idx (.var 6) (.bin .mod (.bin .fdiv (.var 8) (.int 7)) (.bf .len (.var 6)))) (some (.int 1)) .none) (.list [.bin .mod (.var 8) (.var 2)]))] [],
  .asg 6 (.own (.bin .add (.var 6) (.comp (.var 12) 12 (.seq (.call false "_law_turns" [.var 9])) (some (.cmp .notIn (.var 12) (.var 6))))))],
 .asg 10 (.call false "_law_cell_at" [.var 0,.bin .add (.var 1) (.int 1)]),
 .ifs (.and [.cmp .eq (.bin .mod (.var 10) (.int 4)) (.int 1),.cmp .gt (.bf .len (.var 6)) (.int 1)]) [
  .expr (.popAt (.var 6) (.bin .mod (.bin .fdiv (.var 10) (.int 4)) (.bf .len (.var 6))))] [],
 .asg 9 (.call false "_law_word" [.var 2,.var 3,.bin .mod (.bin .mul (.bin .fdiv (.var 10) (.int 4)) (.int 48271)) (.int 1000003)]),
 .ifs (.and [.cmp .eq (.bin .mod (.var 10) (.int 4)) (.int 2),.cmp .notIn (.var 9) (.var 6)]) [
  .expr (.append (.var 6) (.var 9))] [],
 .asg 11 (.bin .mod (.bin .fdiv (.var 5) (.var 4)) (.bf .len (.var 6))),
 .asg 6 (.own (.bin .add (.slice (.var 6) (some (.var 11)) .none) (.slice (.var 6) .none (some (.var 11))))),
 .ifs (.cmp .eq (.bin .mod (.bin .fdiv (.var 10) (.int 4)) (.int 2)) (.int 1)) [
  .asg 6 (.bf .sorted (.var 6))] [],
 .ret (.var 6)]⟩
def zbg (P:Tab):Prop:=P "_law_book"=some zfH∧zbh P∧zdH P∧zcF P
theorem zbg.self {P:Tab}(u:zbg P):P "_law_book"=some zfH:=And.left u
theorem zbg.l_cell_at {P:Tab}(u:zbg P):zbh P:=And.left (And.right u)
theorem zbg.l_word {P:Tab}(u:zbg P):zdH P:=And.left (And.right (And.right u))
theorem zbg.l_turns {P:Tab}(u:zbg P):zcF P:=And.right (And.right (And.right u))
/- _law_asked: 0 _law_signs,1 _law_size,2 _law_book_here,3 _law_e -/
noncomputable def zif:FnDef:=⟨3,4,[
 .try [
  .ret (.call true "ring_of" [.var 0,.var 1,.var 2])] "RingError" 3 [
  .ret (.callX "_law_classes" 3)]]⟩
def zbt (P:Tab):Prop:=P "_law_asked"=some zif∧za6 P∧zbM P
theorem zbt.self {P:Tab}(u:zbt P):P "_law_asked"=some zif:=And.left u
theorem zbt.ring_of {P:Tab}(u:zbt P):za6 P:=And.left (And.right u)
theorem zbt.l_classes {P:Tab}(u:zbt P):zbM P:=And.right (And.right u)
/- _law_from: 0 _law_ring,1 _law_place,2 _law_size,3 _law_found -/
noncomputable def zly:FnDef:=⟨3,4,[
 .asg 3 (.own (.list [])),
 .while (.cmp .lt (.bf .len (.var 3)) (.var 2)) [
  .expr (.append (.var 3) (.idx (.var 0) (.var 1))),
  .asg 1 (.bin .add (.var 1) (.int 1)),
  .ifs (.cmp .eq (.var 1) (.bf .len (.var 0))) [
   .asg 1 (.int 0)] []],
 .ret (.var 3)]⟩
def zdJ (P:Tab):Prop:=P "_law_from"=some zly
theorem zdJ.self {P:Tab}(u:zdJ P):P "_law_from"=some zly:=u
/- _law_is_ring: 0 _law_ring,1 _law_size,2 _law_book_here,3 _law_words,4 _law_sign,5 _law_place,6 _law_word_here -/
noncomputable def zeV:FnDef:=⟨3,7,[
 .ifs (.or [.not (.isinst (.var 0) [.list]),.cmp .ne (.bf .len (.var 0)) (.bf .len (.var 2))]) [
  .ret (.bool false)] [],
 .ifs (.cmp .ne (.comp (.var 4) 4 (.seq (.var 0)) (some (.or [.isinst (.var 4) [.bool],.not (.isinst (.var 4) [.int])]))) (.list [])) [
  .ret (.bool false)] [],
 .asg 3 (.comp (.call false "_law_from" [.var 0,.var 5,.var 1]) 5 (.range1 (.bf .len (.var 0))) .none),
 .ret (.cmp .eq (.comp (.var 6) 6 (.seq (.var 2)) (some (.cmp .notIn (.var 6) (.var 3)))) (.list []))]⟩
def za9 (P:Tab):Prop:=P "_law_is_ring"=some zeV∧zdJ P
theorem za9.self {P:Tab}(u:za9 P):P "_law_is_ring"=some zeV:=And.left u
theorem za9.l_from {P:Tab}(u:za9 P):zdJ P:=And.right u
/- _law_has_none: 0 _law_book_here,1 _law_word_here,2 _law_joint,3 _law_begin,4 _law_end,5 _law_found,6 _law_at,7 _law_one,8 _law_word_here -/
noncomputable def zdL:FnDef:=⟨1,9,[
 .for1 1 (.seq (.var 0)) [
  .for1 2 (.seq (.list [.slice (.var 1) .none (some (.neg 1)),.slice (.var 1) (some (.int 1)) .none])) [
   .asg 3 (.comp (.var 7) 7 (.seq (.var 0)) (some (.cmp .eq (.slice (.var 7) .none (some (.neg 1))) (.var 2)))),
   .asg 4 (.comp (.var 7) 7 (.seq (.var 0)) (some (.cmp .eq (.slice (.var 7) (some (.int 1)) .none) (.var 2)))),
   .ifs (.cmp .ne (.bf .len (.var 3)) (.bf .len (.var 4))) [
    .ret (.bool true)] []]],
 .asg 5 (.list [.slice (.idx (.bf .sorted (.var 0)) (.int 0)) .none (some (.neg 1))]),
 .asg 6 (.int 0),
 .while (.cmp .lt (.var 6) (.bf .len (.var 5))) [
  .asg 5 (.bin .add (.var 5) (.comp (.slice (.var 8) (some (.int 1)) .none) 8 (.seq (.var 0)) (some (.and [.cmp .eq (.slice (.var 8) .none (some (.neg 1))) (.idx (.var 5) (.var 6)),.cmp .notIn (.slice (.var 8) (some (.int 1)) .none) (.var 5)])))),
  .asg 6 (.bin .add (.var 6) (.int 1))],
 .ret (.cmp .ne (.comp (.var 8) 8 (.seq (.var 0)) (some (.cmp .notIn (.slice (.var 8) .none (some (.neg 1))) (.var 5)))) (.list []))]⟩
def zbz (P:Tab):Prop:=P "_law_has_none"=some zdL
theorem zbz.self {P:Tab}(u:zbz P):P "_law_has_none"=some zdL:=u
/- _law_told_of: 0 _law_signs,1 _law_size,2 _law_book_here,3 _law_ring,4 _law_cell,5 _law_at,6 _law_turn,7 _law_other,8 _law_found -/
noncomputable def zcn:FnDef:=⟨5,9,[
 .asg 5 (.bin .mod (.var 4) (.bf .len (.var 3))),
 .asg 6 (.bin .add (.slice (.var 3) (some (.var 5)) .none) (.slice (.var 3) .none (some (.var 5)))),
 .asg 7 (.own (.bf .list (.var 6))),
 .setIdx (.var 7) (.bin .mod (.bin .fdiv (.var 4) (.int 7)) (.bf .len (.var 3))) (.bin .mod (.bin .fdiv (.var 4) (.int 49)) (.var 0)),
 .ifs (.cmp .eq (.bin .mod (.bin .fdiv (.var 4) (.int 3)) (.int 5)) (.int 1)) [
  .asg 7 (.bin .add (.var 6) (.var 6))] [],
 .asg 8 (.call false "is_ring_of" [.var 0,.var 1,.var 2,.var 7]),
 .ifs (.or [.not (.isinst (.var 8) [.bool]),.cmp .ne (.var 8) (.call false "_law_is_ring" [.var 7,.var 1,.var 2])]) [
  .ret (.bool false)] [],
 .ret (.cmp .is (.call false "is_ring_of" [.var 0,.var 1,.var 2,.var 6]) (.bool true))]⟩
def za3 (P:Tab):Prop:=P "_law_told_of"=some zcn∧zaj P∧za9 P
theorem za3.self {P:Tab}(u:za3 P):P "_law_told_of"=some zcn:=And.left u
theorem za3.is_ring_of {P:Tab}(u:za3 P):zaj P:=And.left (And.right u)
theorem za3.l_is_ring {P:Tab}(u:za3 P):za9 P:=And.right (And.right u)
/- law: 0 _law_script,1 _law_signs,2 _law_size,3 _law_book_here,4 _law_handed,5 _law_told,6 _law_why,7 _law_cell,8 _law_copy,9 _law_again,10 _law_word_here -/
noncomputable def zie:FnDef:=⟨1,11,[
 .asgT [1,2] (.call false "_law_pair" [.call false "_law_cell_at" [.var 0,.int 0]]),
 .asg 3 (.call false "_law_book" [.var 0,.int 1,.var 1,.var 2,.int 4]),
 .asg 4 (.own (.comp (.bf .list (.var 10)) 10 (.seq (.var 3)) .none)),
 .asg 5 (.call true "_law_asked" [.var 1,.var 2,.var 4]),
 .asg 6 (.call false "lack" [.var 1,.var 2,.var 4]),
 .ifs (.cmp .ne (.var 4) (.var 3)) [
  .ret (.bool false)] [],
 .ifs (.isinst (.var 5) [.tuple]) [
  .ret (.and [.cmp .eq (.var 5) (.tup [.int 5]),.cmp .isNot (.var 6) .none,.call false "_law_has_none" [.var 3]])] [],
 .ifs (.or [.cmp .isNot (.var 6) .none,.not (.call false "_law_is_ring" [.var 5,.var 2,.var 3])]) [
  .ret (.bool false)] [],
 .asg 7 (.call false "_law_cell_at" [.var 0,.int 10]),
 .ifs (.or [.not (.call false "_law_told_of" [.var 1,.var 2,.var 4,.bf .list (.var 5),.var 7]),.cmp .ne (.var 4) (.var 3)]) [
  .ret (.bool false)] [],
 .asg 8 (.bf .list (.var 5)),
 .expr (.append (.var 5) (.int 0)),
 .expr (.clear (.var 4)),
 .asg 9 (.call false "_law_asked" [.var 1,.var 2,.comp (.bf .list (.var 10)) 10 (.seq (.var 3)) .none]),
 .ret (.and [.cmp .eq (.var 9) (.var 8),.cmp .eq (.var 5) (.bin .add (.var 8) (.list [.int 0]))])]⟩
def zbf (P:Tab):Prop:=P "law"=some zie∧zdI P∧zbh P∧zbg P∧zbt P∧zc1 P∧zbz P∧za9 P∧za3 P
theorem zbf.self {P:Tab}(u:zbf P):P "law"=some zie:=And.left u
theorem zbf.l_pair {P:Tab}(u:zbf P):zdI P:=And.left (And.right u)
theorem zbf.l_cell_at {P:Tab}(u:zbf P):zbh P:=And.left (And.right (And.right u))
theorem zbf.l_book {P:Tab}(u:zbf P):zbg P:=And.left (And.right (And.right (And.right u)))
theorem zbf.l_asked {P:Tab}(u:zbf P):zbt P:=And.left (And.right (And.right (And.right (And.right u))))
theorem zbf.lack {P:Tab}(u:zbf P):zc1 P:=And.left (And.right (And.right (And.right (And.right (And.right u)))))
theorem zbf.l_has_none {P:Tab}(u:zbf P):zbz P:=And.left (And.right (And.right (And.right (And.right (And.right (And.right u))))))
theorem zbf.l_is_ring {P:Tab}(u:zbf P):za9 P:=And.left (And.right (And.right (And.right (And.right (And.right (And.right (And.right u)))))))
theorem zbf.l_told_of {P:Tab}(u:zbf P):za3 P:=And.right (And.right (And.right (And.right (And.right (And.right (And.right (And.right u)))))))
noncomputable def tl:List (String × FnDef × List String):=[
 ("is_among",zdN,["thing","low","high"]),
 ("how_many",zdO,["signs","size","found","turn"]),
 ("need_signs",zcS,["signs"]),
 ("need_size",zdb,["size"]),
 ("need_both",zdd,["signs","size"]),
 ("is_word",ze3,["signs","word"]),
 ("need_ring",zdc,["signs","ring","sign"]),
 ("read_at",ze0,["ring","size","place"]),
 ("words_on",zdM,["ring","size"]),
 ("need_book",zde,["signs","size","book","met","word"]),
 ("onward",zgB,["book","found","word"]),
 ("come_to",ze5,["ways","start","found","waiting","joint"]),
 ("lack_of",zcT,["book","ways","ends","joint","other","found"]),
 ("lack",zlA,["signs","size","book"]),
 ("is_ring_of",zcU,["signs","size","book","ring"]),
 ("goes_on",ze4,["left","joint","many","met","waiting","words","here","sign","other"]),
 ("next_sign",zda,["left","joint","many","sign","other"]),
 ("ring_of",zeZ,["signs","size","book","left","word","first","joint","found","many","sign"]),
 ("_law_cell_at",zeX,["_law_script","_law_k"]),
 ("_law_classes",zeW,["_law_e","_law_found"]),
 ("_law_pair",zlx,["_law_cell","_law_some"]),
 ("_law_word",zlv,["_law_signs","_law_size","_law_number","_law_found","_law_step"]),
 ("_law_turns",zid,["_law_word_here","_law_found","_law_place","_law_turn"]),
 ("_law_book",zfH,["_law_script","_law_first","_law_signs","_law_size","_law_many","_law_cell","_law_book_here","_law_k","_law_number","_law_word_here","_law_more","_law_at"]),
 ("_law_asked",zif,["_law_signs","_law_size","_law_book_here","_law_e"]),
 ("_law_from",zly,["_law_ring","_law_place","_law_size","_law_found"]),
 ("_law_is_ring",zeV,["_law_ring","_law_size","_law_book_here","_law_words"]),
 ("_law_has_none",zdL,["_law_book_here","_law_word_here","_law_joint","_law_begin","_law_end","_law_found","_law_at"]),
 ("_law_told_of",zcn,["_law_signs","_law_size","_law_book_here","_law_ring","_law_cell","_law_at","_law_turn","_law_other","_law_found"]),
 ("law",zie,["_law_script","_law_signs","_law_size","_law_book_here","_law_handed","_law_told","_law_why","_law_cell","_law_copy","_law_again"])]
noncomputable def fns:List String:=["is_among","how_many","need_signs","need_size","need_both","is_word","need_ring","read_at","words_on","need_book","onward","come_to","lack_of","lack","is_ring_of","goes_on","next_sign","ring_of","_law_cell_at","_law_classes","_law_pair","_law_word","_law_turns","_law_book","_law_asked","_law_from","_law_is_ring","_law_has_none","_law_told_of","law"]
theorem zbV:zap (tabOf tl):=rfl
theorem zgG:za8 (tabOf tl):=rfl
theorem ze7:zbe (tabOf tl):=And.intro rfl zbV
theorem zdf:za5 (tabOf tl):=And.intro rfl zbV
theorem zfN:zab (tabOf tl):=And.intro rfl (And.intro ze7 (And.intro zdf zgG))
theorem zhz:zbm (tabOf tl):=And.intro rfl zbV
theorem zdg:zaM (tabOf tl):=And.intro rfl zbV
theorem zhy:zcl (tabOf tl):=rfl
theorem zgF:zay (tabOf tl):=And.intro rfl (And.intro zdf (And.intro zdg zhy))
theorem zco:zai (tabOf tl):=And.intro rfl (And.intro zfN zhz)
theorem zi2:zcZ (tabOf tl):=rfl
theorem zhB:zcm (tabOf tl):=rfl
theorem zei:za2 (tabOf tl):=And.intro rfl (And.intro zi2 zhB)
theorem zlI:zc1 (tabOf tl):=And.intro rfl (And.intro zco zei)
theorem ze8:zaj (tabOf tl):=And.intro rfl (And.intro zco (And.intro zdg zgF))
theorem zhA:zbU (tabOf tl):=rfl
theorem zfM:zaL (tabOf tl):=And.intro rfl zhA
theorem zhx:za6 (tabOf tl):=And.intro rfl (And.intro zco (And.intro zei zfM))
theorem zeh:zbh (tabOf tl):=rfl
theorem zhw:zbM (tabOf tl):=rfl
theorem zlF:zdI (tabOf tl):=rfl
theorem zlE:zdH (tabOf tl):=rfl
theorem zjP:zcF (tabOf tl):=rfl
theorem zlH:zbg (tabOf tl):=And.intro rfl (And.intro zeh (And.intro zlE zjP))
theorem zjQ:zbt (tabOf tl):=And.intro rfl (And.intro zhx zhw)
theorem zlG:zdJ (tabOf tl):=rfl
theorem zeg:za9 (tabOf tl):=And.intro rfl zlG
theorem zgE:zbz (tabOf tl):=rfl
theorem zhv:za3 (tabOf tl):=And.intro rfl (And.intro ze8 zeg)
theorem znM:zbf (tabOf tl):=And.intro rfl (And.intro zlF (And.intro zeh (And.intro zlH (And.intro zjQ (And.intro zlI (And.intro zgE (And.intro zeg zhv)))))))
end L09
section
variable {n:Nat}{h:H}{F:Fn}
theorem zqh {α:Type}{t:Watch}{x:Nat}{body:List V→H→RS}(l:List α) (c:α→V) (Inv:List α→List V→H→Prop) (hw:∀ p ρ g,Inv p ρ g→t.ok g=true)
  (hb:∀ p a q ρ g,l=p++a::q→Inv p ρ g→∃ ρ' g',body (ρ.set x (c a)) g=.ok .next ρ' g'∧Inv (p++[a]) ρ' g'){ρ:List V}(h0:Inv [] ρ h) :
  ∃ ρ' g',forL t (bind1 x) body (l.map c) ρ h=.ok .next ρ' g'∧Inv l ρ' g':=by
 have key:∀ (q p:List α) (ρ:List V) (g:H),l=p++q→Inv p ρ g→∃ ρ' g',forL t (bind1 x) body (q.map c) ρ g=.ok .next ρ' g'∧Inv l ρ' g':=by
  intro q
  induction q with
  |nil=>intro p ρ g e hi;rw[List.append_nil] at e;subst e;exact⟨ρ,g,by rw[List.map_nil,zns,if_pos (hw _ _ _ hi)],hi⟩
  |cons a q ih =>
   intro p ρ g e hi;obtain⟨ρ1,g1,e1,i1⟩:=hb p a q ρ g e hi;obtain⟨ρ2,g2,e2,i2⟩:=ih (p++[a]) ρ1 g1 (by rw[e,List.append_assoc];rfl) i1
   refine⟨ρ2,g2,?_,i2⟩;rw[List.map_cons,zk3,if_pos (hw _ _ _ hi)];show(body (ρ.set x (c a)) g).then _=_;rw[e1,RS.then_next,e2]
 exact key l [] ρ h rfl h0
theorem zdQ {α:Type}{t:Watch}{x:Nat}{it:PIt}{body:List PS}{ρ:List V}{h':H}{l:List α}{c:α→V}(Inv:List α→List V→H→Prop)
  (hi:evIt true F ρ it h=.ok (l.map c,t) h') (hw:∀ p ρ g,Inv p ρ g→t.ok g=true) (h0:Inv [] ρ h')
  (hb:∀ p a q ρ g,l=p++a::q→Inv p ρ g→∃ ρ' g',exSs true F body (ρ.set x (c a)) g=.ok .next ρ' g'∧Inv (p++[a]) ρ' g') :
  ∃ ρ' g',exS true F (.for1 x it body) ρ h=.ok .next ρ' g'∧Inv l ρ' g':=by
 rw[s_for1',if_neg (by decide),hi,R.st_ok]
 exact zqh (x:=x) (body:=fun ρ h=>exSs true F body ρ h) l c Inv hw hb h0
theorem zcM {s:PS}{ss:List PS}{ρ ρ':List V}{h':H}{r:R V}(e:exS true F s ρ h=.ok .next ρ' h') (k:(exSs true F ss ρ' h').out=r):(exSs true F (s::ss) ρ h).out=r:=by
 rw[ss_cons',e,RS.then_next];exact k
end
namespace L09
section
variable {P:Tab}{n:Nat}{h:H}{F:Fn}
theorem zjM {test:List V→H→R V}{body:List V→H→RS}(f:Nat→List V) (g:Nat→H) (m:Nat)
  (ht:∀ i,i < m→test (f i) (g i)=.ok (.bool true) (g i)) (hb:∀ i,i < m→body (f i) (g i)=.ok .next (f (i+1)) (g (i+1))) (he:test (f m) (g m)=.ok (.bool false) (g m)) :
  ∀ k i,i+k=m→∀ n,k < n→whileL test body n (f i) (g i)=.ok .next (f m) (g m):=by
 intro k
 induction k with
 |zero =>
  intro i hi n hn;rw[Nat.add_zero] at hi;subst hi
  cases n with
  |zero=>exact absurd hn (Nat.not_lt_zero _)
  |succ n =>
   show((test (f i) (g i)).st (f i) _)=_;rw[he];rfl
 |succ k ih =>
  intro i hi n hn;have lt:i < m:=by rw[←hi];exact Nat.lt_add_of_pos_right (Nat.succ_pos k)
  cases n with
  |zero=>exact absurd hn (Nat.not_lt_zero _)
  |succ n =>
   show((test (f i) (g i)).st (f i) _)=_;rw[ht i lt];show(body (f i) (g i)).then _=_;rw[hb i lt,RS.then_next];exact ih (i+1) (by rw[Nat.add_assoc,Nat.add_comm 1 k];exact hi) n (Nat.lt_of_succ_lt_succ hn)
theorem zos {F:Fn}{t:PE}{body ss:List PS}{ρ:List V}{h:H}{r:R V}(f:Nat→List V) (g:Nat→H) (m:Nat) (hm:m < turns) (hρ:f 0=ρ) (hh:g 0=h)
  (ht:∀ i,i < m→evE true F (f i) t (g i)=.ok (.bool true) (g i)) (hb:∀ i,i < m→exSs true F body (f i) (g i)=.ok .next (f (i+1)) (g (i+1))) (he:evE true F (f m) t (g m)=.ok (.bool false) (g m))
  (k:(exSs true F ss (f m) (g m)).out=r):(exSs true F (.while t body::ss) ρ h).out=r:=by
 subst hρ hh;rw[ss_cons',zdY,if_neg (by decide),zjM f g m ht hb he m 0 (Nat.zero_add m) turns hm,RS.then_next];exact k
noncomputable def rd (l:List Nat) (z p:Nat):List Nat:=(List.range z).map fun t=>l.getD ((p+t) % l.length) 0
theorem zeu (l:List Nat) (z p:Nat):(rd l z p).length=z:=by simp[rd]
theorem zh3 {l:List Nat}(hl:0 < l.length) (i:Nat):l[i % l.length]?=some (l.getD (i % l.length) 0):=by
 have:=Nat.mod_lt i hl;simp[List.getElem?_eq_getElem this]
noncomputable def rws (l:List Nat) (z:Nat):List (List Nat):=(List.range l.length).map (rd l z)
theorem zfW (l:List Nat) (z:Nat):(rws l z).length=l.length:=by simp[rws]
theorem zkD {F:Fn}{ρ:List V}{i:Nat}{w:V}{vs:List V}(e:ρ[i]?=some w) (hl:litems h w=some vs):evE true F ρ (.bf .len (.var i)) h=.ok (.int vs.length) h:=by
 rw[zmZ (f:=.len) rfl,zba e (zbY hl).val,R.bind_ok,zkE hl];rfl
theorem zld {F:Fn}{ρ:List V}{f:String}{i j:Nat}{v w:V}(e:ρ[i]?=some v) (hv:v.val) (e':ρ[j]?=some w) (hw:w.val):evE true F ρ (.call false f [.var i,.var j]) h=pcall h (F true f [v,w] h):=by
 rw[zaq,zcK,zba e hv,R.bind_ok,zcK,zba e' hw];rfl
theorem zoY {F:Fn}{ρ:List V}{f g:String}{k:Int}{i:Nat}{v:V}(e:ρ[i]?=some v) (hv:v.val):evE true F ρ (.call false f [.glob g k,.var i]) h=pcall h (F true f [.int k,v] h):=by
 rw[zaq,zcK,zb4,R.bind_ok,zcK,zba e hv];rfl
theorem zd6 {m:Nat}(hm:m≤999999):m < turns:=by
 exact Nat.lt_of_le_of_lt hm (show 999999 < 1000000 by decide)
theorem zmf {p N:Nat}(h0:0 < N) (i:Nat):(p+(i+1)) % N=if(p+i) % N+1=N then 0 else(p+i) % N+1:=by
 rw[←Nat.add_assoc,← Nat.mod_add_mod]
 by_cases e:(p+i) % N+1=N
 ·rw[if_pos e,e,Nat.mod_self]
 ·rw[if_neg e,Nat.mod_eq_of_lt (Nat.lt_of_le_of_ne (Nat.mod_lt _ h0) e)]
theorem zoM (h:H) (l:List Nat):frz h.length (h++[.list (V.nats l)]) (.ref h.length)=some (.lst (V.nats l)) :=
 zdz (Nat.le_refl _) (by simp)
theorem zak {F:Fn}{ρ:List V}{e:PE}{es:List PE}{v:V}{vs:List V}(e1:evE true F ρ e h=.ok v h) (e2:evEs true F ρ es h=.ok vs h):evEs true F ρ (e::es) h=.ok (v::vs) h:=by rw[zcK,e1,R.bind_ok,e2];rfl
theorem zob (l:List Nat) (p:Nat) (hp:p < l.length):rd l l.length p=l.drop p++l.take p:=by
 refine List.ext_getElem? fun i=>?_
 by_cases hi:i < l.length
 ·have e1:(rd l l.length p)[i]?=some (l.getD ((p+i) % l.length) 0):=by
   unfold rd;rw[List.getElem?_map,List.getElem?_range hi];rfl
  rw[e1,← zh3 (Nat.zero_lt_of_lt hp)]
  by_cases h1:p+i < l.length
  ·rw[Nat.mod_eq_of_lt h1,List.getElem?_append_left (by rw[List.length_drop];exact Nat.lt_sub_iff_add_lt'.2 h1),List.getElem?_drop]
  ·have h2:=Nat.le_of_not_lt h1
   rw[List.getElem?_append_right (by rw[List.length_drop];exact Nat.sub_le_iff_le_add'.2 h2),List.length_drop,Nat.sub_sub_right i (Nat.le_of_lt hp),Nat.add_comm i p,Nat.mod_eq_sub_mod h2,Nat.mod_eq_of_lt (Nat.sub_lt_left_of_lt_add h2 (Nat.add_lt_add hp hi)),List.getElem?_take_of_lt (Nat.sub_lt_left_of_lt_add h2 (by rw[Nat.add_comm p i];exact Nat.add_lt_add_right hi p))]
 ·have h2:=Nat.le_of_not_lt hi
  rw[List.getElem?_eq_none (by rw[zeu];exact h2),List.getElem?_eq_none (by rw[List.length_append,List.length_drop,List.length_take,Nat.min_eq_left (Nat.le_of_lt hp),Nat.sub_add_cancel (Nat.le_of_lt hp)];exact h2)]
theorem zhk (u:zbh P) (s:List Int) (k:Nat):pcall h (run P (n+1) true "_law_cell_at" [V.ints s,.int k] h)=.ok (.int (cellAt s k)) h:=by
 rw[zju u n true s k h,zbA rfl]
theorem zeD (x:Int) (m:Nat) (hm:0 < m):x.fmod m=((x.fmod m).toNat:Int)∧(x.fmod m).toNat < m:=by
 obtain⟨j,hj,e⟩:=zch x m hm;rw[e];exact⟨by simp,by simpa using hj⟩
noncomputable def zi (l:List Nat):List Int:=l.map fun d:Nat=>(d:Int)
theorem zm6 {a b:List Nat}(e:zi a=zi b):a=b:=by
 unfold zi at e;exact List.map_inj_right (fun x y h=>Int.natCast_inj.1 h) |>.1 e
theorem zbT (l:List Nat):asInts (V.nats l)=some (zi l):=by
 induction l with
 |nil=>rfl
 |cons d l ih=>rw[zbO,asInts,ih];rfl
theorem zcO {α β:Type}{f:V→Option α}(c:β→V) (k:β→α):∀ (l:List β),(∀ b∈l,f (c b)=some (k b))→keyed f (l.map c)=some (l.map fun b=>(k b,c b))
 |[],_=>rfl
 |b::l,e=>by
  rw[List.map_cons,zeJ,e b (List.mem_cons_self ..),zcO c k l fun x hx=>e x (List.mem_cons_of_mem _ hx)];rfl
theorem znx {F:Fn}{ρ:List V}{a b:PE}{h:H}{v w:V}{t:Bool}(ea:evE true F ρ a h=.ok v h) (eb:evE true F ρ b h=.ok w h) (e:pyEq h v w=some t):evE true F ρ (.cmp .ne a b) h=.ok (.bool (!t)) h:=by
 rw[zal,ea,R.bind_ok,eb,R.bind_ok];show R.opt (Option.map V.bool (Option.map (!·) (pyEq h v w))) h=_;rw[e];rfl
theorem zny {F:Fn}{ρ:List V}{a b:PE}{h:H}{v w:V}{t:Bool}(ea:evE true F ρ a h=.ok v h) (eb:evE true F ρ b h=.ok w h) (e:pyEq h v w=some t):evE true F ρ (.cmp .eq a b) h=.ok (.bool t) h:=by
 rw[zal,ea,R.bind_ok,eb,R.bind_ok];show R.opt (Option.map V.bool (pyEq h v w)) h=_;rw[e];rfl
theorem ziA {x:Nat}{v:V}{vs:List V}(e:ρ[x]?=some v) (hl:litems h v=some vs):evE true F ρ (.bf .list (.var x)) h=.ok (.lst vs) h:=by
 rw[zmZ (f:=.list) rfl,zba e (zbY hl).val,R.bind_ok]
 rcases zaf hl with rfl|⟨i,rfl,hc⟩
 ·rfl
 ·show R.opt (Option.map _ (match h[i]? with|some (.list vs)=>some vs|_=>Option.none)) h=_
  rw[hc];rfl
theorem zdS {F:Fn}{ρ:List V}{h:H}{e:PE}{vs:List V}(ee:evE true F ρ e h=.ok (.lst vs) h):evE true F ρ (.own e) h=.ok (.ref h.length) (h++[.list vs]):=by
 rw[zaF,ee];rfl
end
noncomputable def turn (w:List Nat) (p:Nat):List Nat:=w.drop p++w.take p
theorem zcp (w:List Nat) (p:Nat):(turn w p).length=w.length:=by
 unfold turn;rw[List.length_append,Nat.add_comm,← List.length_append,List.take_append_drop]
theorem zik {w:List Nat}{p d:Nat}(h:d∈turn w p):d∈w:=by
 rcases List.mem_append.1 h with h|h
 ·exact List.mem_of_mem_drop h
 ·exact List.mem_of_mem_take h
theorem zlK {w:List Nat}{p:Nat}(h:p < w.length):turn (turn w p) 1=turn w (p+1):=by
 unfold turn;rw[List.drop_eq_getElem_cons h,List.cons_append,List.drop_succ_cons,List.drop_zero,List.take_succ_cons,List.take_zero,List.append_assoc,List.take_succ_eq_append_getElem h]
theorem zlL {w:List Nat}:turn w w.length=w:=by
 unfold turn;rw[List.drop_length,List.take_length,List.nil_append]
theorem zjT (w:List Nat):turn w 0=w:=by unfold turn;rw[List.drop_zero,List.take_zero,List.append_nil]
noncomputable def tf (w:List Nat):Nat→List (List Nat)
 |0=>[]
 |p+1=>if turn w p∈tf w p then tf w p else tf w p++[turn w p]
theorem zpq (w:List Nat) (p:Nat):tf w (p+1)=if turn w p∈tf w p then tf w p else tf w p++[turn w p]:=rfl
theorem zek {w t:List Nat}:∀ {p:Nat},t∈tf w p↔∃ i,i < p∧t=turn w i
 |0=>⟨fun h=>(nomatch h),fun⟨_,h,_⟩=>(nomatch h)⟩
 |p+1=>by
  have ih:=zek (w:=w) (t:=t) (p:=p);have aux:t∈tf w (p+1)↔t∈tf w p∨t=turn w p:=by
   rw[zpq]
   by_cases h:turn w p∈tf w p
   ·rw[if_pos h]
    exact⟨.inl,fun q=>q.elim id fun e=>e ▸ h⟩
   ·rw[if_neg h,List.mem_append,List.mem_singleton]
  rw[aux,ih];exact⟨fun q=>q.elim (fun⟨i,h,e⟩=>⟨i,Nat.lt_succ_of_lt h,e⟩) fun e=>⟨p,Nat.lt_succ_self p,e⟩,fun⟨i,h,e⟩=>(Nat.lt_succ_iff_lt_or_eq.1 h).elim (fun h=>.inl ⟨i,h,e⟩) fun q=>.inr (q ▸ e)⟩
theorem zfP {w:List Nat}:∀ {p:Nat},(tf w p).Nodup
 |0=>.nil
 |p+1=>by
  rw[zpq]
  by_cases h:turn w p∈tf w p
  ·rw[if_pos h];exact zfP
  ·rw[if_neg h,List.nodup_append]
   exact⟨zfP,by simp,fun a ha b hb=>by rw[List.mem_singleton.1 hb];exact fun q=>h (q ▸ ha)⟩
theorem zfm {w:List Nat}:∀ {p:Nat},(tf w p).length≤p
 |0=>Nat.le_refl _
 |p+1=>by
  rw[zpq]
  by_cases h:turn w p∈tf w p
  ·rw[if_pos h];exact Nat.le_succ_of_le zfm
  ·rw[if_neg h,List.length_append];exact Nat.add_le_add_right zfm 1
theorem zpr {w t:List Nat}(h:t∈tf w w.length):turn t 1∈tf w w.length:=by
 obtain⟨i,hi,rfl⟩:=zek.1 h;rw[zlK hi]
 by_cases e:i+1 < w.length
 ·exact zek.2 ⟨_,e,rfl⟩
 ·have:i+1=w.length:=Nat.le_antisymm hi (Nat.not_lt.1 e)
  rw[this,zlL];exact zek.2 ⟨0,Nat.lt_of_le_of_lt (Nat.zero_le _) hi,(zjT w).symm⟩
theorem zfx {h:H}{a b:V}{x:List Nat}{L:List (List Nat)}(ha:frz 0 h a=some (.lst (V.nats x))) (hb:frz 0 h b=some (.lst (V.lists L))):isIn h a b=some (decide (x∈L)):=by
 unfold isIn;rw[ha,hb];show(if(V.ok 8 (.lst (V.nats x))&&V.ok 8 (.lst (V.lists L)))=true then some ((V.lists L).any fun y=>peq y (.lst (V.nats x))) else Option.none)=_;rw[zd3 x 6,zf4 L 5,if_pos (show(true&&true)=true from rfl)];refine congrArg some ?_;unfold V.lists;rw[List.any_map];have e:((fun y=>peq y (V.lst (V.nats x)))∘fun l:List Nat=>V.lst (V.nats l))=fun l=>decide (l=x):=funext fun l=>zey l x
 rw[e]
 clear ha hb e
 induction L with
 |nil=>rfl
 |cons l L ih=>rw[List.any_cons,ih,decide_eq_decide.2 (List.mem_cons (a:=x) (b:=l) (l:=L)),Bool.decide_or,decide_eq_decide.2 (eq_comm (a:=l) (b:=x))]
section
variable {q:Bool}{F:Fn}{ρ:List V}{h h':H}{e t:PE}{v:V}{x:Nat}{ss a b:List PS}
theorem zbE (he:evE q F ρ e h=.ok v h'):exSs q F (.asg x e::ss) ρ h=exSs q F ss (ρ.set x v) h':=by rw[ss_cons',s_asg',he];rfl
theorem zbD (he:evE q F ρ e h=.ok v h'):exSs q F (.expr e::ss) ρ h=exSs q F ss ρ h':=by rw[ss_cons',s_expr',he];rfl
theorem zc0 (ht:evE q F ρ t h=.ok (.bool true) h'):exSs q F (.ifs t a b::ss) ρ h=exSs q F (a++ss) ρ h':=by rw[ss_cons',s_ifs,ht,zeb];rfl
theorem zcG (ht:evE q F ρ t h=.ok (.bool false) h'):exSs q F (.ifs t a b::ss) ρ h=exSs q F (b++ss) ρ h':=by rw[ss_cons',s_ifs,ht,zeb];rfl
theorem zlt {i c:Nat}{vs:List V}{a:PE}{y:V}(ei:ρ[i]?=some (.ref c)) (hc:h[c]?=some (.list vs)) (ea:evE q F ρ a h=.ok y h) (hl:vs.length≤1000):evE q F ρ (.append (.var i) a) h=.ok .none (h.set c (.list (vs++[y]))):=by
 rw[zaE,zba ei trivial,R.bind_ok,if_pos (zdo hc),ea,R.bind_ok,zbI hc _ .none (vs++[y]) rfl (by rw[List.length_append];exact Nat.le_trans (Nat.succ_le_succ hl) (by decide))]
theorem zmP {i:Nat}{W:List Nat}{lo:PE}{k:Nat}(ei:ρ[i]?=some (.lst (V.nats W))) (el:evE q F ρ lo h=.ok (.int k) h):evE q F ρ (.slice (.var i) (some lo) .none) h=.ok (.lst (V.nats (W.drop k))) h:=by
 rw[e_slice,zba ei trivial,R.bind_ok];show(((evE q F ρ lo h).bind fun v h=>R.ok (some v) h).bind fun l h=>(R.ok Option.none h).bind fun u h=>R.opt (zbp h _ l u) h)=_;rw[el,R.bind_ok,R.bind_ok,R.bind_ok,zdv rfl,zeC];rfl
theorem zqw {i:Nat}{W:List Nat}{hi:PE}{k:Nat}(ei:ρ[i]?=some (.lst (V.nats W))) (el:evE q F ρ hi h=.ok (.int k) h):evE q F ρ (.slice (.var i) .none (some hi)) h=.ok (.lst (V.nats (W.take k))) h:=by
 rw[e_slice,zba ei trivial,R.bind_ok];show((R.ok Option.none h).bind fun l h=>(((evE q F ρ hi h).bind fun v h=>R.ok (some v) h).bind fun u h=>R.opt (zbp h _ l u) h))=_;rw[R.bind_ok,el,R.bind_ok,R.bind_ok,zfT rfl,zeB];rfl
end
theorem zbs (h:H) (c:Cell):(h++[c])[h.length]?=some c:=by rw[List.getElem?_append_right (Nat.le_refl _),Nat.sub_self];rfl
theorem zer (h:H) (c d:Cell):(h++[c]).set h.length d=h++[d]:=by rw[List.set_append_right _ _ (Nat.le_refl _),Nat.sub_self];rfl
theorem zae (L:List (List Nat)):(V.lists L).length=L.length:=List.length_map ..
theorem zbC (A B:List (List Nat)):V.lists (A++B)=V.lists A++V.lists B:=List.map_append ..
theorem lists_plains (L:List (List Nat)):V.plains (V.lists L)=true:=zkj fun v hv=>by
 obtain⟨l,_,rfl⟩:=List.mem_map.1 hv;exact zbJ l
theorem zgM {h:H}{a:V}{i:Nat}{vs:List V}(e:h[i]?=some (.list vs)):pyIn h a (.ref i)=isIn h a (.ref i):=by
 show(match h[i]? with|some (.dict es)=>if keyOk a then some (dfind a es).isSome else Option.none|_=>isIn h a (.ref i))=_
 rw[e]
noncomputable def lastT (W:List Nat):Nat→V
 |0=>.undef
 |p+1=>.lst (V.nats (turn W p))
theorem range_at {n:Nat}{p q:List Nat}{a:Nat}(h:List.range n=p++a::q):a=p.length∧p.length < n:=by
 have e:=congrArg (·[p.length]?) h;simp only[List.getElem?_append_right (Nat.le_refl _),Nat.sub_self,List.getElem?_cons_zero] at e;obtain⟨h1,h2⟩:=List.getElem?_eq_some_iff.1 e;rw[List.length_range] at h1;rw[List.getElem_range] at h2;exact⟨h2.symm,h1⟩
theorem zjS {P:Tab}(u:zcF P) (n:Nat) (h:H) (W:List Nat) (hW:W.length≤1000):run P (n+1) true "_law_turns" [.lst (V.nats W)] h=.ok (.ref h.length) (h++[.list (V.lists (tf W W.length))]):=by
 refine start u.self rfl (ρ:=[.lst (V.nats W),.undef,.undef,.undef]) rfl ?_;refine zaT (v:=.ref h.length) (h':=h++[.list []]) rfl rfl ?_;have hlen:∀ (ρ:List V) (g:H),evE true (run P n) (.lst (V.nats W)::ρ) (.bf .len (.var 0)) g=.ok (.int W.length) g:=fun ρ g=>by
  rw[zmZ (f:=.len) rfl,zba (v:=.lst (V.nats W)) rfl trivial,R.bind_ok,(IsL.lst g W).len];rfl
 refine zkx (l:=List.range W.length) (fun p w=>[.lst (V.nats W),.ref h.length,w,lastT W p.length]) (fun p=>h++[.list (V.lists (tf W p.length))]) .undef (zeM (hlen _ _) (Nat.le_trans hW (by decide))) (fun z_=>rfl) rfl rfl ?_ ?_
 ·intro p a q w hp
  obtain⟨rfl,hlt⟩:=range_at hp;rw[List.length_append,List.length_singleton];generalize p.length=i at *
  have e2:evE true (run P n) [V.lst (V.nats W),.ref h.length,.int i,lastT W i] (.var 2) (h++[.list (V.lists (tf W i))])=.ok (.int i) (h++[.list (V.lists (tf W i))]):=zba (v:=.int i) rfl trivial;have e3:evE true (run P n) [V.lst (V.nats W),.ref h.length,.int i,lastT W i] (.bin .add (.slice (.var 0) (some (.var 2)) .none) (.slice (.var 0) .none (some (.var 2)))) (h++[.list (V.lists (tf W i))])=.ok (.lst (V.nats (turn W i))) (h++[.list (V.lists (tf W i))]):=by
   rw[zbF,zmP rfl e2,R.bind_ok,zqw rfl e2,R.bind_ok,addLL _ _ _ (by rw[nats_length,nats_length,Nat.add_comm,← List.length_append,List.take_append_drop];exact Nat.le_trans hW (by decide)),← zam];rfl
  show exSs true (run P n) _ [V.lst (V.nats W),.ref h.length,.int i,lastT W i] _=_;rw[zbE e3];show exSs true (run P n) _ [V.lst (V.nats W),.ref h.length,.int i,.lst (V.nats (turn W i))] _=_;have ei:(h++[Cell.list (V.lists (tf W i))])[h.length]?=some (.list (V.lists (tf W i))):=zbs _ _;have e4:evE true (run P n) [V.lst (V.nats W),.ref h.length,.int i,.lst (V.nats (turn W i))] (.cmp .notIn (.var 3) (.var 1)) (h++[.list (V.lists (tf W i))])=.ok (.bool (!decide (turn W i∈tf W i))) (h++[.list (V.lists (tf W i))]):=by
   rw[e_cmp,zba (v:=.lst (V.nats (turn W i))) rfl trivial,R.bind_ok,zba (v:=.ref h.length) rfl trivial,R.bind_ok];show R.opt (((pyIn _ _ (.ref h.length)).map (!·)).map V.bool) _=_;rw[zgM ei,zfx (zcQ _ _ _ (zbJ _)) (zcR (zaa ei) (lists_plains _))];rfl
  by_cases hm:turn W i∈tf W i
  ·rw[decide_eq_true hm] at e4
   rw[zcG e4,zpq,if_pos hm];rfl
  ·rw[decide_eq_false hm] at e4
   rw[zc0 e4];show exSs _ _ [.expr _] _ _=_;rw[zbD (zlt rfl ei (zba (v:=.lst (V.nats (turn W i))) rfl trivial) (by rw[zae];exact Nat.le_trans zfm (Nat.le_trans (Nat.le_of_lt hlt) hW))),zer,zpq,if_neg hm,zbC];rfl
 ·intro w
  rw[List.length_range];exact zbw (zba (v:=.ref h.length) rfl trivial)
structure Bk (s z m:Nat) (B:List (List Nat)):Prop where
 nodup:B.Nodup
 len:∀ w∈B,w.length=z
 lt:∀ w∈B,∀ d∈w,d < s
 rot:∀ w∈B,turn w 1∈B
 cnt:B.length≤m
theorem Bk.nil (s z:Nat):Bk s z 0 []:=⟨.nil,fun z_ h=>(nomatch h),fun z_ h=>(nomatch h),fun z_ h=>(nomatch h),Nat.le_refl _⟩
noncomputable def more (B:List (List Nat)) (W:List Nat):List (List Nat):=B++(tf W W.length).filter fun t=>!decide (t∈B)
theorem Bk.add {s z m:Nat}{B:List (List Nat)}(b:Bk s z m B){W:List Nat}(hW:W.length=z) (hl:∀ d∈W,d < s):Bk s z (m+z) (more B W):=by
 have mem:∀ {t},t∈more B W↔t∈B∨t∈tf W W.length:=fun {t}=>by
  unfold more;rw[List.mem_append,List.mem_filter];refine⟨fun h=>h.imp id And.left,fun h=>?_⟩
  by_cases e:t∈B
  ·exact .inl e
  ·exact .inr ⟨h.resolve_left e,by rw[decide_eq_false e];rfl⟩
 refine⟨?_,fun w hw=>?_,fun w hw d hd=>?_,fun w hw=>?_,?_⟩
 ·unfold more
  rw[List.nodup_append];refine⟨b.nodup,zfP.filter _,fun x hx y hy e=>?_⟩;have:=(List.mem_filter.1 hy).2;rw[←e,decide_eq_true hx] at this
  cases this
 ·rcases mem.1 hw with h|h
  ·exact b.len w h
  ·obtain⟨i,_,rfl⟩:=zek.1 h
   rw[zcp];exact hW
 ·rcases mem.1 hw with h|h
  ·exact b.lt w h d hd
  ·obtain⟨i,_,rfl⟩:=zek.1 h
   exact hl d (zik hd)
 ·rcases mem.1 hw with h|h
  ·exact mem.2 (.inl (b.rot w h))
  ·exact mem.2 (.inr (zpr h))
 ·unfold more
  rw[List.length_append];exact Nat.add_le_add b.cnt (Nat.le_trans (List.length_filter_le ..) (hW ▸ zfm))
theorem zou {B:List (List Nat)}{W:List Nat}(h:0 < W.length):more B W≠[]:=by
 intro e;have h1:turn W 0∈tf W W.length:=zek.2 ⟨0,h,rfl⟩;unfold more at e;obtain⟨rfl,e⟩:=List.append_eq_nil_iff.1 e;have:=List.filter_eq_nil_iff.1 e _ h1;exact this rfl
noncomputable def pre (w:List Nat):List Nat:=w.take (w.length - 1)
noncomputable def suf (w:List Nat):List Nat:=w.drop 1
theorem znS {w:List Nat}(h:0 < w.length):suf w=pre (turn w 1):=by
 unfold suf pre;rw[zcp];unfold turn;rw[List.take_append_of_le_length (by rw[List.length_drop];exact Nat.le_refl _),List.take_of_length_le (by rw[List.length_drop];exact Nat.le_refl _)]
theorem within {α:Type} [DecidableEq α]:∀ {a b:List α},a.Nodup→(∀ x∈a,x∈b)→a.length≤b.length
 |[],_,_,_=>Nat.zero_le _
 |x::a,b,hn,hs=>by
  rw[List.nodup_cons] at hn;have hx:=hs x (List.mem_cons_self ..);have:=within (a:=a) (b:=b.erase x) hn.2 fun y hy=>(List.mem_erase_of_ne (a:=y) (b:=x) fun e=>hn.1 (e ▸ hy)).2 (hs y (List.mem_cons_of_mem _ hy));rw[List.length_erase_of_mem hx] at this;exact Nat.add_le_of_le_sub (List.length_pos_of_mem hx) this
theorem zjn {s z m:Nat}{B0 B:List (List Nat)}{x:List Nat}(b:Bk s z m B0) (hz:0 < z) (hB:∀ w∈B,w∈B0∨w=x){J:List (List Nat)}(hJ:J.Nodup) (hs:∀ j∈J,∃ w∈B,j=pre w∨j=suf w):J.length≤m+2:=by
 refine Nat.le_trans (within (b:=B0.map pre++[pre x,suf x]) hJ fun j hj=>?_) (by rw[List.length_append,List.length_map];exact Nat.add_le_add_right b.cnt 2)
 obtain⟨w,hw,e⟩:=hs j hj;rw[List.mem_append]
 rcases hB w hw with h|rfl
 ·refine .inl ?_
  rcases e with rfl|rfl
  ·exact List.mem_map.2 ⟨w,h,rfl⟩
  ·exact List.mem_map.2 ⟨_,b.rot w h,(znS (by rw[b.len w h];exact hz)).symm⟩
 ·refine .inr ?_
  rcases e with rfl|rfl
  ·exact List.mem_cons_self ..
  ·exact List.mem_cons_of_mem _ (List.mem_cons_self ..)
section
variable {P:Tab}{n:Nat}{h g:H}
noncomputable def Eb (s:List Int) (f S Z:Nat) (c:Int) (bk k nu wd mo at' tn:V):List V:=[V.ints s,.int f,.int S,.int Z,.int 4,.int c,bk,k,nu,wd,mo,at',tn]
theorem zpV (u:zbg P){s:List Int}{f S Z:Nat}{c:Int}{bk nu wd mo at' tn:V}(k:Nat) (hk:k≤1000):∃ N:Nat,evE true (run P (n+1)) (Eb s f S Z c bk (.int k) nu wd mo at' tn)
  (.bin .mod (.bin .mul (.bin .add (.call false "_law_cell_at" [.var 0,.bin .add (.bin .add (.var 1) (.int 2)) (.var 7)]) (.bin .mul (.int 101) (.var 7))) (.int 48271)) (.int 1000003)) g=.ok (.int N) g:=by
 have i1:evE true (run P (n+1)) (Eb s f S Z c bk (.int k) nu wd mo at' tn) (.bin .add (.bin .add (.var 1) (.int 2)) (.var 7)) g=.ok (.int ((f+2+k:Nat):Int)) g:=(zfi (zfi (x:=f) (y:=2) rfl rfl) (y:=k) rfl).trans (by rw[Int.natCast_add,Int.natCast_add];rfl)
 have m1:=zc9 (y:=1000003) (zmY (y:=48271) (zfi (zdU (zba (i:=0) (v:=V.ints s) rfl trivial) i1 (zhk (n:=n) u.l_cell_at s (f+2+k))) (zmY (a:=.int 101) (b:=.var 7) (x:=101) (y:=k) rfl rfl (Nat.lt_of_le_of_lt hk (by decide)))) (b:=.int 48271) rfl (by decide)) (b:=.int 1000003) rfl (by decide)
 obtain⟨e1,_⟩:=zeD ((cellAt s (f+2+k)+101 * (k:Int)) * 48271) 1000003 (by decide)
 exact⟨_,m1.trans (by rw[←e1];rfl)⟩
theorem zjy {F:Fn}{ρ:List V}{a b:PE}{x y:Bool}(ea:evE true F ρ a g=.ok (.bool x) g) (eb:x=true→evE true F ρ b g=.ok (.bool y) g):evE true F ρ (.and [a,b]) g=.ok (.bool (x&&y)) g:=by
 rw[e_and,e_and2,ea,R.bind_ok]
 cases x with
 |false=>rfl
 |true=>exact eb rfl
theorem zpY {F:Fn}{ρ:List V}{r i:Nat}{B:List (List Nat)}(ei:ρ[i]?=some (.ref r)) (hr:g[r]?=some (.list (V.lists B))):evE true F ρ (.cmp .ne (.var i) (.list [])) g=.ok (.bool (!decide (B=[]))) g:=by
 rw[e_cmp,zba ei trivial,R.bind_ok];show R.opt (((pyEq g (.ref r) (.lst (V.lists []))).map (!·)).map V.bool) g=_;rw[zki (zcR (zaa hr) (lists_plains _)) (zcQ _ _ _ rfl)];rfl
theorem zmi {F:Fn}{ρ:List V}{a b:PE}{x y:Nat}(ea:evE true F ρ a g=.ok (.int x) g) (eb:evE true F ρ b g=.ok (.int y) g) (hy:0 < y):evE true F ρ (.bin .mod a b) g=.ok (.int ((x % y:Nat):Int)) g :=
 (zc9 ea eb (Int.natCast_ne_zero.2 (Nat.ne_of_gt hy))).trans (by rw[Int.fmod_eq_emod_of_nonneg _ (Int.natCast_nonneg y)];rfl)
theorem zpZ {F:Fn}{ρ:List V}{a b:PE}{x y:Nat}(ea:evE true F ρ a g=.ok (.int x) g) (eb:evE true F ρ b g=.ok (.int y) g) (hy:0 < y):evE true F ρ (.bin .fdiv a b) g=.ok (.int ((x / y:Nat):Int)) g :=
 (zdr ea eb (Int.natCast_ne_zero.2 (Nat.ne_of_gt hy))).trans (by rw[ziI])
end
section
variable {P:Tab}{n:Nat}{h g:H}{F:Fn}{ρ:List V}
theorem zk0 (g:H) (L:List (List Nat)):frz g.length (g++[.list (V.lists L)]) (.ref g.length)=some (.lst (V.lists L)):=by
 show frzAt 4 g.length _ g.length=_;rw[zc8,if_neg (Nat.lt_irrefl _),zbs];show Option.map _ (V.mapRefs _ (V.lists L))=_;rw[zaA _ _ (lists_plains L)];rfl
theorem znN (u:zcF P) (W:List Nat) (hW:W.length≤1000):pcall g (run P (n+1) true "_law_turns" [.lst (V.nats W)] g)=.ok (.lst (V.lists (tf W W.length))) g:=by
 rw[zjS u n g W hW,zdk _ _ (zk0 g _)]
theorem ziB {B:List (List Nat)}{j:Nat}{w:List Nat}(e:B[j]?=some w):(V.lists B)[j]?=some (.lst (V.nats w)):=by
 unfold V.lists;rw[List.getElem?_map,e];rfl
theorem zgW {B:List (List Nat)}{j:Nat}(hj:j < B.length):(V.lists B)[j]?=some (.lst (V.nats B[j])):=ziB (List.getElem?_eq_getElem hj)
theorem zqS {a e:PE}{v:V}{l:List Nat}{p:Nat}(ea:evE true F ρ a h=.ok v h) (hl:IsL h v l) (ee:evE true F ρ e h=.ok (.int p) h):evE true F ρ (.slice a .none (some e)) h=.ok (.lst (V.nats (l.take p))) h:=by
 rw[zaz,ea,R.bind_ok,zpD,R.bind_ok,zpC,ee,R.bind_ok,R.bind_ok,zfT hl p,zeB];rfl
theorem zhH {a e:PE}{v:V}{l:List Nat}{p:Nat}(ea:evE true F ρ a h=.ok v h) (hl:IsL h v l) (ee:evE true F ρ e h=.ok (.int p) h):evE true F ρ (.slice a (some e) .none) h=.ok (.lst (V.nats (l.drop p))) h:=by
 rw[zaz,ea,R.bind_ok,zpC,ee,R.bind_ok,R.bind_ok,zpD,R.bind_ok,zdv hl p,zeC];rfl
theorem zbk {a:PE}{v:V}{vs:List V}(ea:evE true F ρ a h=.ok v h) (hl:litems h v=some vs):evE true F ρ (.bf .len a) h=.ok (.int vs.length) h:=by
 rw[zmZ (f:=.len) rfl,ea,R.bind_ok,zkE hl];rfl
theorem zfy {a i:PE}{v x:V}{vs:List V}{j:Nat}(ea:evE true F ρ a h=.ok v h) (ei:evE true F ρ i h=.ok (.int j) h) (hl:litems h v=some vs) (hj:vs[j]?=some x):evE true F ρ (.idx a i) h=.ok x h:=by
 rw[zar,ea,R.bind_ok,ei,R.bind_ok,ziF hl hj];rfl
theorem zeU {a b:PE}{v w:V}{vs ws:List V}(ea:evE true F ρ a h=.ok v h) (eb:evE true F ρ b h=.ok w h) (hv:litems h v=some vs) (hw:litems h w=some ws) (hl:vs.length+ws.length≤1000000):evE true F ρ (.bin .add a b) h=.ok (.lst (vs++ws)) h:=by
 rw[zbF,ea,R.bind_ok,eb,R.bind_ok,zqI hv hw hl];rfl
theorem zdm {a b:PE}{v w:V}{x:List Nat}{L:List (List Nat)}(ea:evE true F ρ a h=.ok v h) (eb:evE true F ρ b h=.ok w h) (hv:IsL h v x) (hw:litems h w=some (V.lists L)):evE true F ρ (.cmp .notIn a b) h=.ok (.bool (!decide (x∈L))) h:=by
 rw[zal,ea,R.bind_ok,eb,R.bind_ok];show R.opt (((pyIn h v w).map (!·)).map V.bool) h=_;have e:pyIn h v w=isIn h v w:=by
  rcases zaf hw with rfl|⟨i,rfl,hc⟩
  ·rfl
  ·exact zgM hc
 rw[e,zfx hv.frz (zcR hw (lists_plains _))];rfl
theorem zjJ (u:zbg P){s:List Int}{f S Z:Nat}{c:Int}{r N:Nat}{k wd mo at' tn:V}{B:List (List Nat)}{m:Nat}{ss:List PS}(hS:0 < S) (hZ:1≤Z∧Z≤8) (b:Bk S Z m B) (hm:m≤1000) (hr:g[r]?=some (.list (V.lists B))):∃ W:List Nat,(W.length=Z∧∀ d∈W,d < S) ∧
  exSs true (run P (n+1)) (.asg 9 (.call false "_law_word" [.var 2,.var 3,.var 8]) ::
  .ifs (.and [.cmp .eq (.bin .mod (.bin .fdiv (.var 8) (.int 65536)) (.int 3)) (.int 1),.cmp .ne (.var 6) (.list [])]) [
   .asg 9 (.bin .add (.slice (.idx (.var 6) (.bin .mod (.bin .fdiv (.var 8) (.int 7)) (.bf .len (.var 6)))) (some (.int 1)) .none) (.list [.bin .mod (.var 8) (.var 2)]))] []::ss) (Eb s f S Z c (.ref r) k (.int N) wd mo at' tn) g=exSs true (run P (n+1)) ss (Eb s f S Z c (.ref r) k (.int N) (.lst (V.nats W)) mo at' tn) g:=by
 have e1:evE true (run P (n+1)) (Eb s f S Z c (.ref r) k (.int N) wd mo at' tn) (.call false "_law_word" [.var 2,.var 3,.var 8]) g=.ok (.lst (V.nats (word S Z N))) g :=
  zbu (zba (v:=.int S) rfl trivial) (zba (v:=.int Z) rfl trivial) (zba (v:=.int N) rfl trivial) (by rw[ziy u.l_word n S Z N hS (Nat.le_trans hZ.2 (by decide)) g,zbA (zbJ _)])
 rw[zbE e1];show ∃ W:List Nat,(W.length=Z∧∀ d∈W,d < S)∧exSs true (run P (n+1)) _ (Eb s f S Z c (.ref r) k (.int N) (.lst (V.nats (word S Z N))) mo at' tn) g=_;have hl:=zc2 S Z N;have hd:=zjK hS Z N;generalize word S Z N=W0 at hl hd;have hN:evE true (run P (n+1)) (Eb s f S Z c (.ref r) k (.int N) (.lst (V.nats W0)) mo at' tn) (.var 8) g=.ok (.int N) g:=rfl;have h6:evE true (run P (n+1)) (Eb s f S Z c (.ref r) k (.int N) (.lst (V.nats W0)) mo at' tn) (.var 6) g=.ok (.ref r) g:=rfl
 have t:=zjy (zfh (y:=1) (zmi (zpZ (b:=.int 65536) (y:=65536) hN rfl (by decide)) (b:=.int 3) (y:=3) rfl (by decide)) (b:=.int 1) rfl) fun z_=>zpY (F:=run P (n+1)) (ρ:=Eb s f S Z c (.ref r) k (.int N) (.lst (V.nats W0)) mo at' tn) (i:=6) rfl hr
 generalize hx:(decide (((N / 65536 % 3:Nat):Int)=1)&&!decide (B=[]))=x at t
 cases x with
 |false=>exact⟨W0,⟨hl,hd⟩,zcG t⟩
 |true =>
  rw[Bool.and_eq_true] at hx;have hB:0 < B.length:=List.length_pos_iff.2 fun e=>by rw[decide_eq_true e] at hx;exact absurd hx.2 (by decide)
  have hj:=Nat.mod_lt (N / 7) hB;generalize ej:N / 7 % B.length=j at hj;have e7:evE true (run P (n+1)) (Eb s f S Z c (.ref r) k (.int N) (.lst (V.nats W0)) mo at' tn) (.bin .mod (.bin .fdiv (.var 8) (.int 7)) (.bf .len (.var 6))) g=.ok (.int j) g:=by
   rw[←ej];exact zmi (zpZ (b:=.int 7) (y:=7) hN rfl (by decide)) ((zbk h6 (zaa hr)).trans (by rw[zae])) hB
  have w:=zeU (zhH (p:=1) (zfy h6 e7 (zaa hr) (zgW hj)) (IsL.lst _ _) (e:=.int 1) rfl) (b:=.list [.bin .mod (.var 8) (.var 2)]) (w:=.lst (V.nats [N % S])) (ws:=V.nats [N % S]) (by
   rw[zaw,zcK,zmi hN (y:=S) (zba (v:=.int S) rfl trivial) hS];rfl) rfl rfl (by rw[nats_length,nats_length,List.length_drop,b.len _ (List.getElem_mem hj)];exact Nat.le_trans (Nat.add_le_add_right (Nat.sub_le ..) 1) (Nat.le_trans (Nat.succ_le_succ hZ.2) (by decide)))
  rw[←zam] at w;refine⟨_,⟨?_,fun d hm=>?_⟩,(zc0 t).trans (zbE w)⟩
  ·rw[List.length_append,List.length_drop,b.len _ (List.getElem_mem hj)];exact Nat.sub_add_cancel hZ.1
  ·rcases List.mem_append.1 hm with hm|hm
   ·exact b.lt _ (List.getElem_mem hj) d (List.mem_of_mem_drop hm)
   ·rw[List.mem_singleton.1 hm];exact Nat.mod_lt _ hS
end
section
variable {P:Tab}{n:Nat}{h g:H}{F:Fn}{ρ:List V}
theorem zlo (u:zbg P){s:List Int}{f S Z:Nat}{c:Int}{r:Nat}{k nu mo at':V}{B:List (List Nat)}{W:List Nat}{ss:List PS}(hW:W.length≤1000) (hB:B.length≤1000) (hr:g[r]?=some (.list (V.lists B))) :
  exSs true (run P (n+1)) (.asg 6 (.own (.bin .add (.var 6) (.comp (.var 12) 12 (.seq (.call false "_law_turns" [.var 9])) (some (.cmp .notIn (.var 12) (.var 6))))))::ss) (Eb s f S Z c (.ref r) k nu (.lst (V.nats W)) mo at' .undef) g
   = exSs true (run P (n+1)) ss (Eb s f S Z c (.ref g.length) k nu (.lst (V.nats W)) mo at' .undef) (g++[.list (V.lists (more B W))]):=by
 have ci:evIt true (run P (n+1)) (Eb s f S Z c (.ref r) k nu (.lst (V.nats W)) mo at' .undef) (.seq (.call false "_law_turns" [.var 9])) g=.ok ((tf W W.length).map fun l=>V.lst (V.nats l),Option.none) g :=
  zfw (zdV (zba (v:=.lst (V.nats W)) rfl trivial) (znN u.l_turns W hW))
 have ce:=zcB (F:=run P (n+1)) (elt:=.var 12) (cond:=.cmp .notIn (.var 12) (.var 6)) (x:=12) ci rfl (fun l=>V.lst (V.nats l)) (fun t=>!decide (t∈B)) (fun a z_=>zdm (ρ:=Eb s f S Z c (.ref r) k nu (.lst (V.nats W)) mo at' (.lst (V.nats a))) (v:=.lst (V.nats a)) (w:=.ref r) rfl rfl (IsL.lst _ _) (zaa hr)) (fun a z_ z_=>zba (v:=.lst (V.nats a)) rfl trivial)
  (zcH (vs:=V.lists ((tf W W.length).filter fun t=>!decide (t∈B))) (by rw[zae];exact Nat.le_trans (List.length_filter_le ..) (Nat.le_trans zfm (Nat.le_trans hW (by decide)))))
 have e:=zeU (ρ:=Eb s f S Z c (.ref r) k nu (.lst (V.nats W)) mo at' .undef) (a:=.var 6) (v:=.ref r) rfl ce (zaa hr) rfl (by rw[zae,zae];exact Nat.le_trans (Nat.add_le_add hB (Nat.le_trans (List.length_filter_le ..) (Nat.le_trans zfm hW))) (by decide))
 rw[zbE (zdS e),← zbC];rfl
noncomputable def InvB (s:List Int) (f S Z:Nat) (c:Int) (h:H) (p:List Nat) (ρ:List V) (g:H):Prop :=
 ∃ (B:List (List Nat)) (r:Nat) (k nu wd:V) (x:H),ρ=Eb s f S Z c (.ref r) k nu wd .undef .undef .undef∧g=h++x∧h.length≤r∧g[r]?=some (.list (V.lists B))∧Bk S Z (p.length * Z) B∧(0 < p.length→B≠[])
theorem zmv (u:zbg P){s:List Int}{f S Z:Nat}{c:Int}(hS:0 < S) (hZ:1≤Z∧Z≤8){p:List Nat}{i:Nat}(hi:i≤4) (hp:p.length≤4){ρ:List V}(I:InvB s f S Z c h p ρ g) :
  ∃ ρ' g',exSs true (run P (n+1)) [
  .asg 8 (.bin .mod (.bin .mul (.bin .add (.call false "_law_cell_at" [.var 0,.bin .add (.bin .add (.var 1) (.int 2)) (.var 7)]) (.bin .mul (.int 101) (.var 7))) (.int 48271)) (.int 1000003)),
  .asg 9 (.call false "_law_word" [.var 2,.var 3,.var 8]),
  .ifs (.and [.cmp .eq (.bin .mod (.bin .fdiv (.var 8) (.int 65536)) (.int 3)) (.int 1),.cmp .ne (.var 6) (.list [])]) [
   .asg 9 (.bin .add (.slice (.idx (.var 6) (.bin .mod (.bin .fdiv (.var 8) (.int 7)) (.bf .len (.var 6)))) (some (.int 1)) .none) (.list [.bin .mod (.var 8) (.var 2)]))] [],
  .asg 6 (.own (.bin .add (.var 6) (.comp (.var 12) 12 (.seq (.call false "_law_turns" [.var 9])) (some (.cmp .notIn (.var 12) (.var 6))))))] (ρ.set 7 (.int i)) g=.ok .next ρ' g'∧InvB s f S Z c h (p++[i]) ρ' g':=by
 obtain⟨B,r,k,nu,wd,x,rfl,rfl,h1,h2,b,h3⟩:=I;have pz:p.length * Z≤4 * 8:=Nat.mul_le_mul hp hZ.2;obtain⟨N,eN⟩:=zpV (n:=n) (g:=h++x) (s:=s) (f:=f) (S:=S) (Z:=Z) (c:=c) (bk:=.ref r) (nu:=nu) (wd:=wd) (mo:=.undef) (at':=.undef) (tn:=.undef) u i (Nat.le_trans hi (by decide))
 obtain⟨W,⟨hl,hd⟩,eW⟩:=zjJ (n:=n) (g:=h++x) (s:=s) (f:=f) (c:=c) (N:=N) (k:=.int i) (wd:=wd) (mo:=.undef) (at':=.undef) (tn:=.undef) (ss:=[.asg 6 (.own (.bin .add (.var 6) (.comp (.var 12) 12 (.seq (.call false "_law_turns" [.var 9])) (some (.cmp .notIn (.var 12) (.var 6))))))]) u hS hZ b (Nat.le_trans pz (by decide)) h2
 have hW:W.length≤1000:=by rw[hl];exact Nat.le_trans hZ.2 (by decide)
 refine⟨_,_,(zbE eN).trans (eW.trans (zlo u hW (Nat.le_trans b.cnt (Nat.le_trans pz (by decide))) h2)),more B W,(h++x).length,_,_,_,x++[.list (V.lists (more B W))],rfl,(List.append_assoc ..),?_,zbs _ _,?_,fun z_=>zou (by rw[hl];exact hZ.1)⟩
 ·rw[List.length_append];exact Nat.le_add_right ..
 ·rw[List.length_append,List.length_singleton,Nat.add_mul,Nat.one_mul];exact b.add hl hd
end
theorem zeN {α β:Type}{lt:α→α→Bool}{lt':β→β→Bool}(f:α→β) (e:∀ a b,lt' (f a) (f b)=lt a b):∀ l:List α,isort lt' (l.map f)=(isort lt l).map f
 |[]=>rfl
 |x::xs=>by
  have ins:∀ l:List α,isort.insertBy' lt' (f x) (l.map f)=(isort.insertBy' lt x l).map f:=by
   intro l
   induction l with
   |nil=>rfl
   |cons y l ih =>
    rw[List.map_cons,zd8,zd8,e y x]
    cases lt y x with
    |true=>rw[if_pos rfl,if_pos rfl,ih,List.map_cons]
    |false=>rfl
  rw[List.map_cons,zoF,zeN f e xs,ins];rfl
noncomputable def wlt (a b:List Nat):Bool:=lexLt (zi a) (zi b)
theorem zf3:Ord wlt:=⟨fun a=>zhT _,fun a b c=>zkC _ _ _,fun a b h1 h2=>zm6 (zhS _ _ h1 h2)⟩
noncomputable def srt (l:List (List Nat)):List (List Nat):=isort wlt l
theorem zcq (l:List (List Nat)):(srt l).Perm l:=zbK l
theorem zj4 (l:List (List Nat)):(srt l).Pairwise fun a b=>wlt b a=false:=zd7 (lt:=wlt) (le:=fun a b=>wlt b a=false) (fun a b e=>zf3.asymm e) (fun a b e=>e) (fun a b c e1 e2=>zf3.le_tr e1 e2) l
theorem zgJ {α:Type}{le:α→α→Prop}:∀ {a b:List α},a.Perm b→a.Pairwise le→b.Pairwise le→(∀ x y,le x y→le y x→x=y)→a=b
 |[],b,p,_,_,_=>(List.nil_perm.1 p).symm
 |x::a,[],p,_,_,_=>absurd p.length_eq (by simp)
 |x::a,y::b,p,ha,hb,anti=>by
  have hx:x∈y::b:=p.mem_iff.1 (List.mem_cons_self ..);have hy:y∈x::a:=p.mem_iff.2 (List.mem_cons_self ..);have e:x=y:=by
   rcases List.mem_cons.1 hx with e|hx'
   ·exact e
   ·rcases List.mem_cons.1 hy with e|hy'
    ·exact e.symm
    ·exact anti x y ((List.pairwise_cons.1 ha).1 y hy') ((List.pairwise_cons.1 hb).1 x hx')
  subst e;rw[zgJ (List.perm_cons x |>.1 p) (List.pairwise_cons.1 ha).2 (List.pairwise_cons.1 hb).2 anti]
theorem znd {a b:List (List Nat)}(p:a.Perm b):srt a=srt b :=
 zgJ ((zcq a).trans (p.trans (zcq b).symm)) (zj4 a) (zj4 b) fun x y h1 h2=>zf3.tot x y h2 h1
theorem zj5 (l:List (List Nat)):(srt l).length=l.length:=(zcq l).length_eq
theorem zhE {l:List (List Nat)}{x:List Nat}:x∈srt l↔x∈l:=(zcq l).mem_iff
theorem zlN {a b:List (List Nat)}(ha:a.Nodup) (hb:b.Nodup) (h:∀ x,x∈a↔x∈b):srt a=srt b:=znd ((List.perm_ext_iff_of_nodup ha hb).2 h)
theorem zj7 {c:List Nat→V}{ts:List (List Nat)}(h64:ts.length < 64):sortBy lexLt (ts.map fun t=>(zi t,c t))=some ((srt ts).map c):=by
 have e:isort (fun a b:List Int × V=>lexLt a.1 b.1) (ts.map fun t=>(zi t,c t))=(srt ts).map fun t=>(zi t,c t):=zeN (lt:=wlt) (fun t=>(zi t,c t)) (fun a b=>rfl) ts;unfold sortBy;rw[if_pos,e,List.map_map];rfl
 rw[Bool.and_eq_true];refine⟨decide_eq_true (by rw[List.length_map];exact h64),?_⟩
 rw[List.all_eq_true];intro p hp;rw[List.all_eq_true];intro q hq;obtain⟨a,_,rfl⟩:=List.mem_map.1 hp;obtain⟨b,_,rfl⟩:=List.mem_map.1 hq;exact decide_eq_true fun e=>by rw[zm6 e]
theorem zbW (h:H) (ts:List (List Nat)) (h64:ts.length < 64):sortVs h (V.lists ts)=some (V.lists (srt ts)):=by
 cases ts with
 |nil=>rfl
 |cons t ts =>
  have e1:keyed keyI (V.lists (t::ts))=none:=rfl;have e2:keyed (keyL h) (V.lists (t::ts))=some ((t::ts).map fun t=>(zi t,.lst (V.nats t))):=zcO (f:=keyL h) (fun t:List Nat=>V.lst (V.nats t)) zi _ fun t z_=>zbT t;unfold sortVs;rw[e1,e2];exact zj7 h64
noncomputable def V.tw (l:List Nat):V:=.tup (V.nats l)
noncomputable def tups (ls:List (List Nat)):List V:=ls.map V.tw
theorem zeo (h:H) (ts:List (List Nat)) (h64:ts.length < 64) (h0:ts.length < 2∨∀ t∈ts,t≠[]):sortVs h (tups ts)=some (tups (srt ts)):=by
 cases ts with
 |nil=>rfl
 |cons t ts =>
  have e1:keyed keyI (tups (t::ts))=none:=rfl;have e2:keyed (keyL h) (tups (t::ts))=none:=rfl;have e4:∀ t:List Nat,t≠[]→keyT1 (V.tw t)=some (zi t):=fun t ht=>by
   cases t with
   |nil=>exact absurd rfl ht
   |cons d l=>exact zbT (d::l)
  unfold sortVs;rw[e1,e2]
  by_cases ha:∀ x∈t::ts,x≠[]
  ·have e3:keyed keyT1 (tups (t::ts))=some ((t::ts).map fun t=>(zi t,V.tw t)):=zcO (f:=keyT1) V.tw zi _ fun t ht=>e4 t (ha t ht)
   show(match keyed keyT1 (tups (t::ts)) with
    |some l=>sortBy lexLt l
    |none=>if(tups (t::ts)).length < 2 then some (tups (t::ts)) else Option.none)=_
   rw[e3];exact zj7 h64
  ·have h1:=h0.resolve_right ha
   have e:ts=[]:=List.eq_nil_of_length_eq_zero (Nat.lt_one_iff.1 (Nat.lt_of_succ_lt_succ h1));subst e;have e5:t=[]:=Classical.byContradiction fun e=>ha fun x hx=>by rw[List.mem_singleton.1 hx];exact e
   subst e5
   rfl
theorem zkA {h:H}{L:List (V × List Nat)}{p:V × List Nat}(hL:∀ q∈p::L,IsL h q.1 q.2):∃ q∈p::L,minVs h ((p::L).map (·.1))=some q.1∧∀ t∈p::L,wlt t.2 q.2=false:=by
 have key:∀ (L:List (V × List Nat)) (p:V × List Nat),∃ q∈p::L,zcN (zi p.2) p.1 (L.map fun t=>(zi t.2,t.1))=q.1∧∀ t∈p::L,wlt t.2 q.2=false:=by
  intro L
  induction L with
  |nil=>intro p;exact⟨p,List.mem_cons_self ..,rfl,fun t ht=>by rw[List.mem_singleton.1 ht];exact zf3.irr _⟩
  |cons a L ih =>
   intro p;rw[List.map_cons,zeE]
   cases hlt:lexLt (zi a.2) (zi p.2) with
   |true =>
    obtain⟨q,hq,e,hm⟩:=ih a;refine⟨q,List.mem_cons_of_mem _ hq,e,fun t ht=>?_⟩
    rcases List.mem_cons.1 ht with rfl|ht
    ·exact zf3.le_tr (hm a (List.mem_cons_self ..)) (zf3.asymm hlt)
    ·exact hm t ht
   |false =>
    obtain⟨q,hq,e,hm⟩:=ih p;refine⟨q,?_,e,fun t ht=>?_⟩
    ·rcases List.mem_cons.1 hq with rfl|hq
     ·exact List.mem_cons_self ..
     ·exact List.mem_cons_of_mem _ (List.mem_cons_of_mem _ hq)
    ·rcases List.mem_cons.1 ht with rfl|ht
     ·exact hm _ (List.mem_cons_self ..)
     ·rcases List.mem_cons.1 ht with rfl|ht
      ·exact zf3.le_tr (hm p (List.mem_cons_self ..)) hlt
      ·exact hm t (List.mem_cons_of_mem _ ht)
 obtain⟨q,hq,e,hm⟩:=key L p;refine⟨q,hq,?_,hm⟩;unfold minVs;rw[zcO (f:=keyL h) (fun t:V × List Nat=>t.1) (fun t=>zi t.2) (p::L) fun t ht=>by
  unfold keyL;rw[show litems h t.1=some (V.nats t.2) from hL t ht];exact zbT t.2]
 exact congrArg some e
theorem zcI {h:H}{v:V}{vs:List V}(hl:litems h v=some vs):sitems h v=some vs:=by
 rcases zaf hl with rfl|⟨i,rfl,hc⟩
 ·rfl
 ·show(match (match h[i]? with|some (.dict es)=>some es|_=>Option.none) with|some es=>some (es.map Prod.fst)|Option.none=>litems h (.ref i))=_
  rw[hc];exact hl
theorem zeq {h:H}{r:Nat}{es:List (V × V)}(hc:h[r]?=some (.dict es)):sitems h (.ref r)=some (es.map (·.1)):=by
 show(match (match h[r]? with|some (.dict es)=>some es|_=>Option.none) with|some es=>some (es.map Prod.fst)|Option.none=>litems h (.ref r))=_
 rw[hc]
theorem zbN {F:Fn}{ρ:List V}{h:H}{a:PE}{v:V}{vs S:List V}(ea:evE true F ρ a h=.ok v h) (hl:sitems h v=some vs) (hs:sortVs h vs=some S):evE true F ρ (.bf .sorted a) h=.ok (.lst S) h:=by
 rw[zmZ (f:=.sorted) rfl,ea,R.bind_ok];show R.opt ((sitems h v).bind fun vs=>(sortVs h vs).map V.lst) h=_;rw[hl,Option.bind_some,hs];rfl
structure GB (S Z:Nat) (B:List (List Nat)):Prop where
 nodup:B.Nodup
 ne:B≠[]
 len:∀ w∈B,w.length=Z
 lt:∀ w∈B,∀ d∈w,d < S
 few:∃ B0 x,Bk S Z 32 B0∧∀ w∈B,w∈B0∨w=x
theorem GB.of {S Z:Nat}{A B:List (List Nat)}(b:GB S Z A) (p:B.Perm A):GB S Z B:=by
 obtain⟨B0,x,b0,hx⟩:=b.few;exact⟨p.nodup_iff.2 b.nodup,fun e=>b.ne (by subst e;exact(List.nil_perm.1 p)),fun w hw=>b.len w (p.mem_iff.1 hw),fun w hw=>b.lt w (p.mem_iff.1 hw),B0,x,b0,fun w hw=>hx w (p.mem_iff.1 hw)⟩
theorem GB.cnt {S Z:Nat}{B:List (List Nat)}(b:GB S Z B):B.length≤33:=by
 obtain⟨B0,x,b0,hx⟩:=b.few;refine Nat.le_trans (within (b:=B0++[x]) b.nodup fun w hw=>?_) (by rw[List.length_append];exact Nat.add_le_add_right b0.cnt 1)
 rw[List.mem_append,List.mem_singleton];exact hx w hw
theorem Bk.le {s z m k:Nat}{B:List (List Nat)}(b:Bk s z m B) (h:m≤k):Bk s z k B:=⟨b.nodup,b.len,b.lt,b.rot,Nat.le_trans b.cnt h⟩
section
variable {P:Tab}{n:Nat}{h g:H}{F:Fn}{ρ:List V}
def At (h g:H) (r:Nat) (B:List (List Nat)):Prop:=h.length≤r∧g[r]?=some (.list (V.lists B))∧g.take h.length=h
theorem At.set {r:Nat}{B B':List (List Nat)}(a:At h g r B):At h (g.set r (.list (V.lists B'))) r B' :=
 ⟨a.1,by rw[List.getElem?_set_self (List.getElem?_eq_some_iff.1 a.2.1).1],by rw[List.take_set_of_le a.1];exact a.2.2⟩
theorem zpF {o i:PE}{r j:Nat}{B:List (List Nat)}(eo:evE true F ρ o g=.ok (.ref r) g) (ei:evE true F ρ i g=.ok (.int j) g) (a:At h g r B) (hj:j < B.length) (hB:B.length≤1000):∃ v,evE true F ρ (.popAt o i) g=.ok v (g.set r (.list (V.lists (B.eraseIdx j)))):=by
 refine⟨.lst (V.nats B[j]),?_⟩;rw[zaD,eo,R.bind_ok,if_pos (zdo a.2.1),ei,R.bind_ok];refine zbI a.2.1 _ _ _ ?_ ?_
 ·have hp:place (V.lists B).length (j:Int)=some j:=by
   unfold place;rw[if_pos (Int.natCast_nonneg j),zae,if_pos (Int.ofNat_lt.2 hj)];rfl
  rw[hp,Option.bind_some,zgW hj];show some _=_;unfold V.lists;rw[List.eraseIdx_eq_take_drop_succ,List.eraseIdx_eq_take_drop_succ,List.map_append,List.map_take,List.map_drop]
 ·rw[zae]
  exact Nat.le_trans (List.eraseIdx_sublist B j).length_le (Nat.le_trans hB (by decide))
theorem zlq {s:List Int}{f S Z:Nat}{c mo:Int}{r:Nat}{k nu wd:V}{B:List (List Nat)}{ss:List PS}{m:Nat}(hm:m≤32) (b:Bk S Z m B) (hB:B≠[]) (a:At h g r B):∃ B1 g1,(B1.Sublist B∧B1≠[])∧At h g1 r B1 ∧
  exSs true F (.ifs (.and [.cmp .eq (.bin .mod (.var 10) (.int 4)) (.int 1),.cmp .gt (.bf .len (.var 6)) (.int 1)]) [
  .expr (.popAt (.var 6) (.bin .mod (.bin .fdiv (.var 10) (.int 4)) (.bf .len (.var 6))))] []::ss) (Eb s f S Z c (.ref r) k nu wd (.int mo) .undef .undef) g=exSs true F ss (Eb s f S Z c (.ref r) k nu wd (.int mo) .undef .undef) g1:=by
 have h6:evE true F (Eb s f S Z c (.ref r) k nu wd (.int mo) .undef .undef) (.var 6) g=.ok (.ref r) g:=rfl;have hl:=(zbk h6 (zaa a.2.1)).trans (by rw[zae])
 have t:=zjy (b:=.cmp .gt (.bf .len (.var 6)) (.int 1)) (y:=decide ((1:Int) < (B.length:Int))) (zfh (y:=1) (zc9 (a:=.var 10) (b:=.int 4) (x:=mo) (y:=4) rfl rfl (by decide)) (b:=.int 1) rfl) (fun z_=>by
  rw[zal,hl];show R.opt ((pyCmp .gt g (.int B.length) (.int 1)).map V.bool) g=_;rw[cmp_gt_int];rfl)
 generalize hx:(decide (mo.fmod 4=1)&&decide ((1:Int) < (B.length:Int)))=x at t
 cases x with
 |false=>exact⟨B,g,⟨List.Sublist.refl _,hB⟩,a,zcG t⟩
 |true =>
  rw[Bool.and_eq_true,decide_eq_true_eq,decide_eq_true_eq] at hx;have h1:1 < B.length:=Int.ofNat_lt.1 hx.2;obtain⟨e1,l1⟩:=zeD (mo.fdiv 4) B.length (Nat.lt_trans Nat.zero_lt_one h1);generalize ((mo.fdiv 4).fmod (B.length:Int)).toNat=j at e1 l1;have ej:=(zc9 (zdr (a:=.var 10) (b:=.int 4) (x:=mo) (y:=4) rfl rfl (by decide)) hl (Int.natCast_ne_zero.2 (Nat.ne_of_gt (Nat.lt_trans Nat.zero_lt_one h1)))).trans (by rw[e1])
  obtain⟨v,ep⟩:=zpF h6 ej a l1 (Nat.le_trans b.cnt (Nat.le_trans hm (by decide)))
  refine⟨_,_,⟨List.eraseIdx_sublist ..,fun e=>?_⟩,a.set,(zc0 t).trans (zbD ep)⟩;have:=congrArg List.length e;rw[List.length_eraseIdx_of_lt l1] at this;exact absurd this (Nat.ne_of_gt (Nat.sub_pos_of_lt h1))
theorem zmW {s:List Int}{f S Z:Nat}{c mo:Int}{r:Nat}{k nu:V}{B:List (List Nat)}{W:List Nat}{ss:List PS}(hB:B.length≤1000) (a:At h g r B):∃ B1 g1,(B1=B∨B1=B++[W]∧W ∉ B)∧At h g1 r B1 ∧
  exSs true F (.ifs (.and [.cmp .eq (.bin .mod (.var 10) (.int 4)) (.int 2),.cmp .notIn (.var 9) (.var 6)]) [
  .expr (.append (.var 6) (.var 9))] []::ss) (Eb s f S Z c (.ref r) k nu (.lst (V.nats W)) (.int mo) .undef .undef) g=exSs true F ss (Eb s f S Z c (.ref r) k nu (.lst (V.nats W)) (.int mo) .undef .undef) g1:=by
 have t:=zjy (zfh (y:=2) (zc9 (F:=F) (ρ:=Eb s f S Z c (.ref r) k nu (.lst (V.nats W)) (.int mo) .undef .undef) (a:=.var 10) (b:=.int 4) (x:=mo) (y:=4) rfl rfl (by decide)) (b:=.int 2) rfl) (fun z_=>zdm (a:=.var 9) (b:=.var 6) (v:=.lst (V.nats W)) (w:=.ref r) rfl rfl (IsL.lst g W) (zaa a.2.1))
 generalize hx:(decide (mo.fmod 4=2)&&!decide (W∈B))=x at t
 cases x with
 |false=>exact⟨B,g,.inl rfl,a,zcG t⟩
 |true =>
  rw[Bool.and_eq_true] at hx;have hW:W ∉ B:=fun e=>by rw[decide_eq_true e] at hx;exact absurd hx.2 (by decide)
  refine⟨B++[W],_,.inr ⟨rfl,hW⟩,a.set,(zc0 t).trans ((zbD (zlt (y:=.lst (V.nats W)) rfl a.2.1 rfl (by rw[zae];exact hB))).trans ?_)⟩
  rw[zbC];rfl
end
section
variable {P:Tab}{n:Nat}{h g:H}{F:Fn}{ρ:List V}
theorem zlp (u:zbg P){s:List Int}{f S Z:Nat}{c:Int}(hS:0 < S) (hZ:1≤Z∧Z≤8):∃ (B:List (List Nat)) (r:Nat) (k nu wd:V) (g:H),(Bk S Z 32 B∧B≠[])∧At h g r B ∧
  exS true (run P (n+1)) (.for1 7 (.range1 (.bin .add (.int 1) (.bin .mod (.var 5) (.var 4)))) [
  .asg 8 (.bin .mod (.bin .mul (.bin .add (.call false "_law_cell_at" [.var 0,.bin .add (.bin .add (.var 1) (.int 2)) (.var 7)]) (.bin .mul (.int 101) (.var 7))) (.int 48271)) (.int 1000003)),
  .asg 9 (.call false "_law_word" [.var 2,.var 3,.var 8]),
  .ifs (.and [.cmp .eq (.bin .mod (.bin .fdiv (.var 8) (.int 65536)) (.int 3)) (.int 1),.cmp .ne (.var 6) (.list [])]) [
   .asg 9 (.bin .add (.slice (.idx (.var 6) (.bin .mod (.bin .fdiv (.var 8) (.int 7)) (.bf .len (.var 6)))) (some (.int 1)) .none) (.list [.bin .mod (.var 8) (.var 2)]))] [],
  .asg 6 (.own (.bin .add (.var 6) (.comp (.var 12) 12 (.seq (.call false "_law_turns" [.var 9])) (some (.cmp .notIn (.var 12) (.var 6))))))]) (Eb s f S Z c (.ref h.length) .undef .undef .undef .undef .undef .undef) (h++[.list []])=.ok .next (Eb s f S Z c (.ref r) k nu wd .undef .undef .undef) g:=by
 obtain⟨e1,l1⟩:=zeD c 4 (by decide)
 generalize (c.fmod ((4:Nat):Int)).toNat=j at e1 l1;have ei:evE true (run P (n+1)) (Eb s f S Z c (.ref h.length) .undef .undef .undef .undef .undef .undef) (.bin .add (.int 1) (.bin .mod (.var 5) (.var 4))) (h++[.list []])=.ok (.int ((1+j:Nat):Int)) (h++[.list []]):=(zfi (x:=1) rfl (zc9 (x:=c) (y:=4) rfl rfl (by decide))).trans (by rw[Int.natCast_add,← e1];rfl)
 obtain⟨ρ',g',e,B,r,k,nu,wd,x,rfl,rfl,h1,h2,b,h3⟩:=zdQ (F:=run P (n+1)) (x:=7) (l:=List.range (1+j)) (c:=fun i:Nat=>V.int i) (InvB s f S Z c h) (zeM ei (Nat.le_trans (Nat.add_le_add_left (Nat.le_of_lt l1) 1) (by decide))) (fun z_ z_ z_ z_=>rfl) ⟨[],h.length,_,_,_,[.list []],rfl,rfl,Nat.le_refl _,zbs _ _,by rw[List.length_nil,Nat.zero_mul];exact Bk.nil S Z,fun q=>absurd q (Nat.lt_irrefl _)⟩ (fun p a q ρ g hp I=>by
  obtain⟨rfl,hlt⟩:=range_at hp;have:p.length≤4:=Nat.le_trans (Nat.le_of_lt hlt) (by rw[Nat.add_comm];exact l1)
  exact zmv u hS hZ this this I)
 rw[List.length_range] at b h3;exact⟨B,r,k,nu,wd,_,⟨b.le (Nat.mul_le_mul (show 1+j≤4 by rw[Nat.add_comm];exact l1) hZ.2),h3 (Nat.add_pos_left Nat.one_pos j)⟩,⟨h1,h2,List.take_left' rfl⟩,e⟩
theorem zqf {g:H}{r:Nat}{L:List (List Nat)}(h1:h.length≤r) (h2:g[r]?=some (.list (V.lists L))):frz h.length g (.ref r)=some (.lst (V.lists L)):=by
 show frzAt 4 h.length _ r=_;rw[zc8,if_neg (Nat.not_lt.2 h1),h2];show Option.map _ (V.mapRefs _ (V.lists L))=_;rw[zaA _ _ (lists_plains L)];rfl
theorem zqC (u:zbg P) (s:List Int){f S Z:Nat}(hS:0 < S) (hZ:1≤Z∧Z≤8):∃ B,GB S Z B∧pcall h (run P (n+2) true "_law_book" [V.ints s,.int f,.int S,.int Z,.int 4] h)=.ok (.lst (V.lists B)) h:=by
 suffices hh:∃ B,GB S Z B∧∃ v g,g.take h.length=h∧frz h.length g v=some (.lst (V.lists B))∧run P (n+2) true "_law_book" [V.ints s,.int f,.int S,.int Z,.int 4] h=.ok v g by
  obtain⟨B,gb,v,g,e1,e2,e3⟩:=hh;refine⟨B,gb,?_⟩;rw[e3];show(if g.take h.length=h then R.opt (frz h.length g v) h else .bad)=_;rw[if_pos e1,e2];rfl
 have c0:evE true (run P (n+1)) [V.ints s,.int f,.int S,.int Z,.int 4,.undef,.undef,.undef,.undef,.undef,.undef,.undef,.undef] (.call false "_law_cell_at" [.var 0,.var 1]) h=.ok (.int (cellAt s f)) h:=zdU (zba (v:=V.ints s) rfl trivial) rfl (zhk (n:=n) u.l_cell_at s f);generalize cellAt s f=c at c0;obtain⟨B,r,k,nu,wd,g,⟨b,hB⟩,a,e1⟩:=zlp (n:=n) (h:=h) (s:=s) (f:=f) (c:=c) u hS hZ;have ec:evE true (run P (n+1)) (Eb s f S Z c (.ref r) k nu wd .undef .undef .undef) (.call false "_law_cell_at" [.var 0,.bin .add (.var 1) (.int 1)]) g=.ok (.int (cellAt s (f+1))) g:=zdU (zba (v:=V.ints s) rfl trivial) (zfi (x:=f) (y:=1) rfl rfl) (zhk (n:=n) u.l_cell_at s (f+1))
 generalize cellAt s (f+1)=mo at ec;obtain⟨B1,g1,⟨sub,hB1⟩,a1,e2⟩:=zlq (F:=run P (n+1)) (s:=s) (f:=f) (c:=c) (mo:=mo) (k:=k) (nu:=nu) (wd:=wd) (ss:=zfH.body.drop 5) (Nat.le_refl 32) b hB a;obtain⟨eN,_⟩:=zeD (mo.fdiv 4 * 48271) 1000003 (by decide)
 generalize ((mo.fdiv 4 * 48271).fmod ((1000003:Nat):Int)).toNat=N at eN;have ew:evE true (run P (n+1)) (Eb s f S Z c (.ref r) k nu wd (.int mo) .undef .undef) (.call false "_law_word" [.var 2,.var 3,.bin .mod (.bin .mul (.bin .fdiv (.var 10) (.int 4)) (.int 48271)) (.int 1000003)]) g1=.ok (.lst (V.nats (word S Z N))) g1 :=
  zbu (zba (v:=.int S) rfl trivial) (zba (v:=.int Z) rfl trivial) ((zc9 (zmY (zdr (a:=.var 10) (b:=.int 4) (x:=mo) (y:=4) rfl rfl (by decide)) (b:=.int 48271) rfl (by decide)) (b:=.int 1000003) rfl (by decide)).trans (by rw[show(mo.fdiv 4 * 48271).fmod (1000003:Int)=N from eN])) (by rw[ziy u.l_word n S Z N hS (Nat.le_trans hZ.2 (by decide)) g1,zbA (zbJ _)])
 have wl:=zc2 S Z N;have wd':=zjK hS Z N;generalize word S Z N=W at ew wl wd';have hn1:B1.length≤32:=Nat.le_trans sub.length_le b.cnt;obtain⟨B2,g2,hB2,a2,e3⟩:=zmW (F:=run P (n+1)) (s:=s) (f:=f) (S:=S) (Z:=Z) (c:=c) (mo:=mo) (k:=k) (nu:=nu) (W:=W) (ss:=zfH.body.drop 7) (Nat.le_trans hn1 (by decide)) a1
 have gb2:GB S Z B2:=by
  have m1:∀ w∈B2,w∈B∨w=W:=fun w hw=>by
   rcases hB2 with rfl|⟨rfl,_⟩
   ·exact .inl (sub.mem hw)
   ·exact(List.mem_append.1 hw).imp (fun q=>sub.mem q) List.mem_singleton.1
  refine⟨?_,?_,fun w hw=>?_,fun w hw=>?_,B,W,b,m1⟩
  ·rcases hB2 with rfl|⟨rfl,hW⟩
   ·exact b.nodup.sublist sub
   ·rw[List.nodup_append]
    exact⟨b.nodup.sublist sub,(by simp),fun x hx y hy e=>hW (by rw[List.mem_singleton.1 hy] at e;rw[←e];exact hx)⟩
  ·rcases hB2 with rfl|⟨rfl,_⟩
   ·exact hB1
   ·exact List.append_ne_nil_of_right_ne_nil _ (List.cons_ne_nil _ _)
  ·rcases m1 w hw with hw|rfl
   ·exact b.len w hw
   ·exact wl
  ·rcases m1 w hw with hw|rfl
   ·exact b.lt w hw
   ·exact wd'
 have hl2:0 < B2.length:=List.length_pos_iff.2 gb2.ne;obtain⟨e4,l4⟩:=zeD (c.fdiv 4) B2.length hl2;generalize ((c.fdiv 4).fmod (B2.length:Int)).toNat=j at e4 l4;have h6:∀ (x:V),evE true (run P (n+1)) (Eb s f S Z c (.ref r) k nu (.lst (V.nats W)) (.int mo) x .undef) (.var 6) g2=.ok (.ref r) g2:=fun x=>rfl;have ej:evE true (run P (n+1)) (Eb s f S Z c (.ref r) k nu (.lst (V.nats W)) (.int mo) .undef .undef) (.bin .mod (.bin .fdiv (.var 5) (.var 4)) (.bf .len (.var 6))) g2=.ok (.int j) g2:=(zc9 (zdr (x:=c) (y:=4) rfl rfl (by decide)) ((zbk (h6 _) (zaa a2.2.1)).trans (by rw[zae])) (Int.natCast_ne_zero.2 (Nat.ne_of_gt hl2))).trans (by rw[e4])
 have hv:∀ (lo hi:Option V) (A:List (List Nat)),zbp g2 (.ref r) lo hi=some (.lst (V.lists A))→R.opt (zbp g2 (.ref r) lo hi) g2=.ok (.lst (V.lists A)) g2:=fun z_ z_ z_ e=>by rw[e];rfl
 have ea:evE true (run P (n+1)) (Eb s f S Z c (.ref r) k nu (.lst (V.nats W)) (.int mo) (.int j) .undef) (.bin .add (.slice (.var 6) (some (.var 11)) .none) (.slice (.var 6) .none (some (.var 11)))) g2=.ok (.lst (V.lists (B2.drop j++B2.take j))) g2:=by
  rw[zbC];refine zeU (hv (some (.int j)) Option.none _ ?_) (hv Option.none (some (.int j)) _ ?_) rfl rfl ?_
  ·rw[zdv (zaa a2.2.1)];unfold V.lists;rw[List.map_drop]
  ·rw[zfT (zaa a2.2.1)];unfold V.lists;rw[List.map_take]
  ·rw[zae,zae,Nat.add_comm,← List.length_append,List.take_append_drop];exact Nat.le_trans gb2.cnt (by decide)
 have gb3:=gb2.of (B:=B2.drop j++B2.take j) (List.perm_append_comm.trans (by rw[List.take_append_drop]))
 have hg3:∀ L,(g2++[Cell.list (V.lists L)]).take h.length=h:=fun L=>by
  rw[List.take_append_of_le_length,a2.2.2];exact Nat.le_trans a2.1 (Nat.le_of_lt (List.getElem?_eq_some_iff.1 a2.2.1).1)
 have hr3:h.length≤g2.length:=Nat.le_trans a2.1 (Nat.le_of_lt (List.getElem?_eq_some_iff.1 a2.2.1).1);generalize B2.drop j++B2.take j=B3 at ea gb3;have go:∀ res,(exSs true (run P (n+1)) (zfH.body.drop 9) (Eb s f S Z c (.ref g2.length) k nu (.lst (V.nats W)) (.int mo) (.int j) .undef) (g2++[.list (V.lists B3)])).out=res→run P (n+2) true "_law_book" [V.ints s,.int f,.int S,.int Z,.int 4] h=res:=fun res hres =>
  start u.self rfl (ρ:=[V.ints s,.int f,.int S,.int Z,.int 4,.undef,.undef,.undef,.undef,.undef,.undef,.undef,.undef]) rfl (zaT c0 rfl (zaT (v:=.ref h.length) (h':=h++[.list []]) rfl (ρ':=Eb s f S Z c (.ref h.length) .undef .undef .undef .undef .undef .undef) rfl (zcM e1 (zaT ec rfl ((congrArg RS.out e2).trans (zaT ew rfl ((congrArg RS.out e3).trans (zaT ej rfl (zaT (zdS ea) rfl hres)))))))))
 have t:=zfh (q:=true) (F:=run P (n+1)) (ρ:=Eb s f S Z c (.ref g2.length) k nu (.lst (V.nats W)) (.int mo) (.int j) .undef) (h:=g2++[.list (V.lists B3)]) (y:=1) (zc9 (zdr (a:=.var 10) (b:=.int 4) (x:=mo) (y:=4) rfl rfl (by decide)) (b:=.int 2) (y:=2) rfl (by decide)) (b:=.int 1) rfl
 generalize decide ((mo.fdiv 4).fmod 2=1)=x at t
 cases x with
 |false=>exact⟨B3,gb3,_,_,hg3 B3,zqf hr3 (zbs _ _),go _ (zb1 t (zbw rfl))⟩
 |true =>
  refine⟨srt B3,gb3.of (zcq B3),.lst (V.lists (srt B3)),_,hg3 B3,zcQ _ _ _ (lists_plains _),go _ (zgT t (zaT (v:=.lst (V.lists (srt B3))) (h':=g2++[.list (V.lists B3)]) ?_ rfl (zbw rfl)))⟩;exact zbN (a:=.var 6) (v:=.ref g2.length) rfl (zcI (zaa (zbs _ _))) (zbW _ _ (Nat.lt_of_le_of_lt gb3.cnt (by decide)))
end
theorem zix:∀ {a b:List Nat},V.nats a=V.nats b→a=b
 |[],[],_=>rfl
 |[],_::_,e=>nomatch e
 |_::_,[],e=>nomatch e
 |x::a,y::b,e=>by
  rw[zbO,zbO] at e;obtain⟨e1,e2⟩:=List.cons.inj e;rw[zix e2,Int.natCast_inj.1 (V.int.inj e1)]
theorem zjR {a b:List Nat}(e:V.tw a=V.tw b):a=b:=zix (V.tup.inj e)
theorem zcz (t:List Nat):keyOk (V.tw t)=true:=by
 show(asInts (V.nats t)).isSome=true;rw[zbT];rfl
theorem zhg (k k' v:V):∀ es:List (V × V),dfind k (dput k' v es)=if k=k' then some v else dfind k es
 |[]=>rfl
 |(k0,v0)::es=>by
  rw[zhh]
  by_cases e:k'=k0
  ·rw[if_pos e,zcC,zcC]
   subst e
   by_cases e2:k=k'
   ·rw[if_pos e2,if_pos e2]
   ·rw[if_neg e2,if_neg e2,if_neg e2]
  ·rw[if_neg e,zcC,zcC,zhg k k' v es]
   by_cases e2:k=k0
   ·subst e2
    rw[if_pos rfl,if_neg (fun q=>e q.symm),if_pos rfl]
   ·rw[if_neg e2,if_neg e2]
theorem ziQ (k v:V):∀ es:List (V × V),(dput k v es).length≤es.length+1
 |[]=>Nat.le_refl _
 |(k',v')::es=>by
  rw[zhh]
  by_cases e:k=k'
  ·rw[if_pos e];exact Nat.le_succ _
  ·rw[if_neg e,List.length_cons,List.length_cons];exact Nat.succ_le_succ (ziQ k v es)
noncomputable def dk (f:List Nat→V) (K:List (List Nat)):List (V × V):=K.map fun j=>(V.tw j,f j)
theorem zbQ (f:List Nat→V) (t:List Nat):∀ K:List (List Nat),dfind (V.tw t) (dk f K)=if t∈K then some (f t) else Option.none
 |[]=>rfl
 |j::K=>by
  show(if V.tw t=V.tw j then some (f j) else dfind (V.tw t) (dk f K))=_
  by_cases e:t=j
  ·subst e;rw[if_pos rfl,if_pos (List.mem_cons_self ..)]
  ·rw[if_neg fun q=>e (zjR q),zbQ f t K]
   by_cases h:t∈K
   ·rw[if_pos h,if_pos (List.mem_cons_of_mem _ h)]
   ·rw[if_neg h,if_neg fun q=>(List.mem_cons.1 q).elim e h]
theorem ziR (f:List Nat→V) (K:List (List Nat)) (t:List Nat):dk f (K++[t])=dk f K++[(V.tw t,f t)]:=List.map_append ..
theorem dput_new {f:List Nat→V}{t:List Nat}{v:V}:∀ {K:List (List Nat)},t ∉ K→dput (V.tw t) v (dk f K)=dk f K++[(V.tw t,v)]
 |[],_=>rfl
 |j::K,h=>by
  show(if V.tw t=V.tw j then _ else(V.tw j,f j)::dput (V.tw t) v (dk f K))=_;rw[if_neg fun q=>h (by rw[zjR q];exact List.mem_cons_self ..),dput_new fun q=>h (List.mem_cons_of_mem _ q)];rfl
theorem zfA (f:List Nat→V) (K:List (List Nat)):(dk f K).length=K.length:=List.length_map ..
theorem zh4 (f:List Nat→V) (K:List (List Nat)):(dk f K).map (·.1)=tups K:=by
 unfold dk tups;rw[List.map_map];rfl
section
variable {P:Tab}{n:Nat}{h g:H}{F:Fn}{ρ:List V}
theorem zfR {o i e:PE}{ss:List PS}{r:Nat}{t:List Nat}{v:V}{es:List (V × V)}(ee:evE true F ρ e h=.ok v h) (eo:evE true F ρ o h=.ok (.ref r) h) (ei:evE true F ρ i h=.ok (V.tw t) h) (hr:h[r]?=some (.dict es)) (hl:es.length≤1000) :
  exSs true F (.setIdx o i e::ss) ρ h=exSs true F ss ρ (h.set r (.dict (dput (V.tw t) v es))):=by
 have e:seti h (.ref r) (V.tw t) v=some (h.set r (.dict (dput (V.tw t) v es))):=by
  unfold seti;dsimp only;rw[hr];dsimp only;rw[zcz,decide_eq_true hl];rfl
 rw[ss_cons',zjA,ee,R.st_ok,eo,R.st_ok,ei,R.st_ok,e];rfl
theorem zkV {r:Nat}{t:List Nat}{es:List (V × V)}(hr:h[r]?=some (.dict es)):pyIn h (V.tw t) (.ref r)=some (dfind (V.tw t) es).isSome:=by
 show(match h[r]? with|some (.dict es)=>if keyOk (V.tw t) then some (dfind (V.tw t) es).isSome else Option.none|_=>isIn h (V.tw t) (.ref r))=_
 rw[hr];show(if keyOk (V.tw t) then some (dfind (V.tw t) es).isSome else Option.none)=_;rw[zcz];rfl
theorem zrn {a b:PE}{r:Nat}{t:List Nat}{f:List Nat→V}{K:List (List Nat)}(ea:evE true F ρ a h=.ok (V.tw t) h) (eb:evE true F ρ b h=.ok (.ref r) h) (hr:h[r]?=some (.dict (dk f K))):evE true F ρ (.cmp .isin a b) h=.ok (.bool (decide (t∈K))) h:=by
 rw[zal,ea,R.bind_ok,eb,R.bind_ok];show R.opt ((pyIn h (V.tw t) (.ref r)).map V.bool) h=_;rw[zkV hr,zbQ]
 by_cases e:t∈K
 ·rw[if_pos e,decide_eq_true e];rfl
 ·rw[if_neg e,decide_eq_false e];rfl
theorem zgU {a b:PE}{r:Nat}{t:List Nat}{f:List Nat→V}{K:List (List Nat)}(ea:evE true F ρ a h=.ok (V.tw t) h) (eb:evE true F ρ b h=.ok (.ref r) h) (hr:h[r]?=some (.dict (dk f K))):evE true F ρ (.cmp .notIn a b) h=.ok (.bool (!decide (t∈K))) h:=by
 rw[zal,ea,R.bind_ok,eb,R.bind_ok];show R.opt (((pyIn h (V.tw t) (.ref r)).map (!·)).map V.bool) h=_;rw[zkV hr,zbQ]
 by_cases e:t∈K
 ·rw[if_pos e,decide_eq_true e];rfl
 ·rw[if_neg e,decide_eq_false e];rfl
theorem zdP {a:PE}{v:V}{l:List Nat}(ea:evE true F ρ a h=.ok v h) (hl:IsL h v l):evE true F ρ (.bf .tuple a) h=.ok (V.tw l) h:=by
 rw[zmZ (f:=.tuple) rfl,ea,R.bind_ok]
 rcases zaf hl with rfl|⟨i,rfl,hc⟩
 ·rfl
 ·show R.opt (Option.map _ (match h[i]? with|some (.list vs)=>some vs|_=>Option.none)) h=_
  rw[hc];rfl
structure HB (h:H) (bv:V) (L:List (V × List Nat)):Prop where
 it:litems h bv=some (L.map (·.1))
 wd:∀ p∈L,IsL h p.1 p.2
theorem HB.app {bv:V}{L:List (V × List Nat)}(b:HB h bv L) (k:H):HB (h++k) bv L:=⟨zfv b.it k,fun p hp=>(b.wd p hp).app k⟩
structure GW (S Z:Nat) (B:List (List Nat)):Prop where
 nodup:B.Nodup
 ne:B≠[]
 len:∀ w∈B,w.length=Z
 lt:∀ w∈B,∀ d∈w,d < S
 few:B.length≤1000
theorem zrv {a b c:PE}{x y z:Bool}(ea:evE true F ρ a h=.ok (.bool x) h) (eb:evE true F ρ b h=.ok (.bool y) h) (ec:evE true F ρ c h=.ok (.bool z) h):evE true F ρ (.or [a,b,c]) h=.ok (.bool (x||(y||z))) h:=by
 rw[zaK,zoe,ea,R.bind_ok]
 cases x with
 |true=>rfl
 |false =>
  show evOr true F ρ [b,c] h=_;rw[zoe,eb,R.bind_ok]
  cases y with
  |true=>rfl
  |false=>exact ec
theorem zcf {a:PE}{x:Bool}(ea:evE true F ρ a h=.ok (.bool x) h):evE true F ρ (.not a) h=.ok (.bool (!x)) h:=by rw[zb3,ea];rfl
theorem zon {a b:PE}{x y:Bool}(ea:evE true F ρ a h=.ok (.bool x) h) (eb:evE true F ρ b h=.ok (.bool y) h):evE true F ρ (.or [a,b]) h=.ok (.bool (x||y)) h:=by
 rw[zaK,zoe,ea,R.bind_ok]
 cases x with
 |true=>rfl
 |false=>exact eb
theorem ziE {a:PE}{v:V}{vs:List V}(ea:evE true F ρ a h=.ok v h) (hl:litems h v=some vs):evE true F ρ (.isinst a [.list]) h=.ok (.bool true) h:=by
 rw[zaH,ea,R.bind_ok,show isTys h v [.list]=some true by unfold isTys;rw[zkR hl]];rfl
theorem zgn {w:V}{vs:List V}(hl:litems h w=some vs):∃ t:Watch,∀ k,iterOf (h++k) w=some (vs,t)∧t.ok (h++k)=true:=by
 rcases zaf hl with rfl|⟨i,rfl,hc⟩
 ·exact⟨Option.none,fun k=>⟨rfl,rfl⟩⟩
 ·refine⟨some (i,.list vs),fun k=>?_⟩
  have e:(h++k)[i]?=some (.list vs):=by rw[List.getElem?_append_left (List.getElem?_eq_some_iff.1 hc).1];exact hc
  refine⟨?_,decide_eq_true e⟩;show(match (h++k)[i]? with|some (.list vs)=>some (vs,some (i,Cell.list vs))|some (.dict es)=>some (es.map Prod.fst,some (i,.dict es))|none=>Option.none)=_
  rw[e]
structure Fit (S Z:Nat):Prop where
 s1:1≤S
 s9:S≤9
 z1:1≤Z
 z8:Z≤8
 few:S ^ Z≤256
theorem zkG {a b c:PE}{x y z:Nat}(ea:evE true F ρ a h=.ok (.int x) h) (eb:evE true F ρ b h=.ok (.int y) h) (ec:evE true F ρ c h=.ok (.int z) h) (h1:x≤y) (h2:y≤z):evE true F ρ (.cmp2 .le .le a b c) h=.ok (.bool true) h:=by
 rw[zaS,ea,R.bind_ok,eb,R.bind_ok,cmp_le_int,decide_eq_true (Int.ofNat_le.2 h1)];show(evE true F ρ c h).bind _=_;rw[ec,R.bind_ok,cmp_le_int,decide_eq_true (Int.ofNat_le.2 h2)];rfl
theorem zeT (u:zap P){a lo hi:Nat}(h1:lo≤a) (h2:a≤hi):pcall h (run P (n+1) true "is_among" [.int a,.int lo,.int hi] h)=.ok (.bool true) h:=by
 rw[start u.self rfl (ρ:=[.int a,.int lo,.int hi]) rfl (zbw (zkG (F:=run P n) (ρ:=[.int a,.int lo,.int hi]) (h:=h) (a:=.var 1) (b:=.var 0) (c:=.var 2) rfl rfl rfl h1 h2)),pcall_bool]
theorem zqA (u:zab P){S Z:Nat}(f:Fit S Z):pcall h (run P (n+3) true "need_both" [.int S,.int Z] h)=.ok .none h:=by
 have e1:pcall h (run P (n+2) true "need_signs" [.int S] h)=.ok .none h:=by
  rw[start u.need_signs.self rfl (ρ:=[.int S]) rfl (zb1 (h':=h) (r:=.ok .none h) (zcf (zbu (b:=.int 1) (c:=.glob "MOST_SIGNS" 9) (zba (v:=.int S) rfl trivial) rfl rfl (zeT (n:=n) u.need_signs.is_among (lo:=1) (hi:=9) f.s1 f.s9))) rfl),pcall_none]
 have e2:pcall h (run P (n+2) true "need_size" [.int Z] h)=.ok .none h:=by
  rw[start u.need_size.self rfl (ρ:=[.int Z]) rfl (zb1 (h':=h) (r:=.ok .none h) (zcf (zbu (b:=.int 1) (c:=.glob "MOST_SIZE" 8) (zba (v:=.int Z) rfl trivial) rfl rfl (zeT (n:=n) u.need_size.is_among (lo:=1) (hi:=8) f.z1 f.z8))) rfl),pcall_none]
 have e3:evE true (run P (n+2)) [.int S,.int Z] (.cmp .gt (.call false "how_many" [.var 0,.var 1]) (.glob "MOST_WORDS" 256)) h=.ok (.bool false) h:=by
  rw[zal,zdU (a:=.var 0) (b:=.var 1) (v:=.int S) (w:=.int Z) rfl rfl (by rw[zh0 u.how_many (n+1) S (Nat.lt_of_le_of_lt f.s9 (by decide)) Z (Nat.le_trans f.z8 (by decide)),pcall_int]),R.bind_ok]
  show R.opt ((pyCmp .gt h (.int ((S:Int) ^ Z)) (.int 256)).map V.bool) h=_;rw[cmp_gt_int,← Int.natCast_pow,decide_eq_false (p:=(256:Int) < ((S ^ Z:Nat):Int)) (Int.not_lt.2 (Int.ofNat_le.2 f.few))];rfl
 rw[start u.self rfl (ρ:=[.int S,.int Z]) rfl (zce (zdV (a:=.var 0) (zba (v:=.int S) rfl trivial) e1) (zce (zdV (a:=.var 1) (zba (v:=.int Z) rfl trivial) e2) (zb1 (r:=.ok .none h) e3 rfl))),pcall_none]
theorem zpj (u:zbm P){S:Nat}{w:V}{l:List Nat}(hl:IsL h w l) (h1:1≤l.length) (h8:l.length≤8) (hd:∀ d∈l,d < S):pcall h (run P (n+2) true "is_word" [.int S,w] h)=.ok (.bool true) h:=by
 have v1:evE true (run P (n+1)) [.int S,w,.undef] (.var 1) h=.ok w h:=zba rfl hl.val;have ln:=zbk v1 hl;rw[nats_length] at ln;obtain⟨t,ht,hto⟩:=zgm hl;have hit:evIt true (run P (n+1)) [.int S,w,.undef] (.seq (.var 1)) h=.ok (l.map V.nat,t) h:=by rw[zof,v1,R.bind_ok,ht];rfl
 have ec:=zdB (F:=run P (n+1)) (ρ:=[.int S,w,.undef]) (elt:=.call false "is_among" [.var 2,.int 0,.bin .sub (.var 0) (.int 1)]) (x:=2) hit hto (fun z_=>.bool true) (fun d hm=>zbu (v:=.int d) (w:=.int 0) (x:=.int ((S - 1:Nat):Int)) rfl rfl ((zmX (x:=S) (y:=1) rfl rfl).trans (by rw[Int.ofNat_sub (Nat.lt_of_le_of_lt (Nat.zero_le _) (hd d hm))];rfl)) (zeT (n:=n) u.is_among (lo:=0) (Nat.zero_le _) (Nat.le_sub_one_of_lt (hd d hm)))) (zcH (by rw[List.length_map];exact Nat.le_trans h8 (by decide)))
 rw[start u.self rfl (ρ:=[.int S,w,.undef]) rfl (zb1 (zon (zcf (ziE v1 hl)) (zcf (zkG (x:=1) rfl ln (z:=8) rfl h1 h8))) (zbw (v:=.bool true) ?_)),pcall_bool];rw[zmZ (f:=.all) rfl,ec,R.bind_ok,bf_all,asBools_map l fun z_=>true];show R.ok (V.bool ((l.map fun z_=>true).all id)) h=_;rw[List.all_map];exact congrArg (fun b=>R.ok (V.bool b) h) (List.all_eq_true.2 fun z_ z_=>rfl)
theorem zmg (u:zai P){S Z:Nat}{bv:V}{L:List (V × List Nat)}(hf:Fit S Z) (b:HB h bv L) (w:GW S Z (L.map (·.2))):run P (n+4) true "need_book" [.int S,.int Z,bv] h=.ok .none (h++[.dict (dk (fun z_=>.bool true) (L.map (·.2)))]):=by
 have hv:=(zbY b.it).val;refine start u.self rfl (ρ:=[.int S,.int Z,bv,.undef,.undef]) rfl ?_;refine zce (h':=h) ?_ (zb1 (h':=h) ((zon (zcf (ziE (a:=.var 2) (zba (v:=bv) rfl hv) b.it)) (zfh (y:=0) (zbk (a:=.var 2) (zba (v:=bv) rfl hv) b.it) (b:=.int 0) rfl)).trans ?_) (zaT (v:=.ref h.length) (h':=h++[.dict (dk (fun z_=>.bool true) [])]) rfl (ρ':=[.int S,.int Z,bv,.ref h.length,.undef]) rfl ?_))
 ·rw[zld (v:=.int S) (w:=.int Z) rfl trivial rfl trivial,zqA u.need_both hf]
 ·have:¬ (((L.map (·.1)).length:Nat):Int)=0:=fun e=>w.ne (by
   rw[List.length_map] at e;rw[List.eq_nil_of_length_eq_zero (Int.natCast_eq_zero.1 e)];rfl)
  rw[decide_eq_false this];rfl
 ·obtain⟨t,ht⟩:=zgn b.it
  refine zkx (l:=L) (c:=(·.1)) (t:=t) (fun z_ w=>[.int S,.int Z,bv,.ref h.length,w]) (fun p=>h++[.dict (dk (fun z_=>.bool true) (p.map (·.2)))]) .undef (h':=h++[.dict (dk (fun z_=>.bool true) [])]) ?_ (fun p=>(ht _).2) rfl rfl ?_ fun w=>rfl
  ·rw[i_seq,zba (v:=bv) rfl hv,R.bind_ok,(ht _).1];rfl
  ·intro p a q x hp
   have ha:a∈L:=by rw[hp];exact List.mem_append_right _ (List.mem_cons_self ..)
   have hm:a.2∈L.map (·.2):=List.mem_map.2 ⟨a,ha,rfl⟩;have new:a.2 ∉ p.map (·.2):=fun e=>by
    have:=w.nodup;rw[hp,List.map_append,List.nodup_append] at this;exact this.2.2 _ e _ (List.mem_cons_self ..) rfl
   have hlen:p.length≤1000:=by
    have:=w.few;rw[hp,List.length_map,List.length_append] at this;exact Nat.le_trans (Nat.le_add_right ..) this
   show exSs true (run P (n+3)) _ [.int S,.int Z,bv,.ref h.length,a.1] _=.ok .next [.int S,.int Z,bv,.ref h.length,a.1] _;generalize hd:dk (fun z_=>V.bool true) (p.map (·.2))=es;have hr:(h++[Cell.dict es])[h.length]?=some (.dict (dk (fun z_=>V.bool true) (p.map (·.2)))):=by rw[hd];exact zbs _ _
   have hw:=(b.wd a ha).app [Cell.dict es];have v4:evE true (run P (n+3)) [.int S,.int Z,bv,.ref h.length,a.1] (.var 4) (h++[.dict es])=.ok a.1 (h++[.dict es]):=zba rfl hw.val;have c1:evE true (run P (n+3)) [.int S,.int Z,bv,.ref h.length,a.1] (.call false "is_word" [.var 0,.var 4]) (h++[.dict es])=.ok (.bool true) (h++[.dict es]):=by
    rw[zld (v:=.int S) (w:=a.1) rfl trivial rfl hw.val,zpj (n:=n+1) u.is_word hw (by rw[w.len _ hm];exact hf.z1) (by rw[w.len _ hm];exact hf.z8) (w.lt _ hm)]
   have c2:=znx (F:=run P (n+3)) (ρ:=[.int S,.int Z,bv,.ref h.length,a.1]) (a:=.bf .len (.var 4)) (b:=.var 1) (w:=.int Z) (t:=true) (zbk v4 hw) rfl (by rw[pyEq_int,nats_length,w.len _ hm,decide_eq_true rfl])
   have c3:=zrn (F:=run P (n+3)) (ρ:=[.int S,.int Z,bv,.ref h.length,a.1]) (a:=.bf .tuple (.var 4)) (b:=.var 3) (zdP v4 hw) rfl hr;rw[decide_eq_false new] at c3;rw[zcG (zrv (zcf c1) c2 c3)];show exSs true (run P (n+3)) [.setIdx (.var 3) (.bf .tuple (.var 4)) (.bool true)] _ _=_;rw[zfR (o:=.var 3) rfl rfl (zdP v4 hw) hr (by rw[zfA,List.length_map];exact hlen),dput_new new,zer,List.map_append,List.map_singleton,ziR];rfl
theorem zkz (u:zai P){S Z:Nat}{bv:V}{L:List (V × List Nat)}(hf:Fit S Z) (b:HB h bv L) (w:GW S Z (L.map (·.2))):pcall h (run P (n+4) true "need_book" [.int S,.int Z,bv] h)=.ok .none h:=by
 rw[zmg u hf b w,zdk _ _ rfl]
end
def Ext (h g:H):Prop:=g.take h.length=h
theorem Ext.refl (h:H):Ext h h:=List.take_length
theorem Ext.app {h g:H}(e:Ext h g) (k:H):Ext h (g++k):=by
 unfold Ext at *
 rw[List.take_append_of_le_length,e];rw[←e,List.length_take];exact Nat.min_le_right ..
theorem Ext.set {h g:H}(e:Ext h g){r:Nat}(hr:h.length≤r) (c:Cell):Ext h (g.set r c):=by
 unfold Ext at *
 rw[List.take_set_of_le hr,e]
theorem Ext.len {h g:H}(e:Ext h g):h.length≤g.length:=by
 unfold Ext at e;rw[←e,List.length_take];exact Nat.min_le_right ..
theorem Ext.eq {h g:H}(e:Ext h g):h++g.drop h.length=g:=by
 unfold Ext at e
 conv=>lhs;lhs;rw[←e]
 exact List.take_append_drop ..
theorem Ext.L {h g:H}(e:Ext h g){v:V}{l:List Nat}(i:IsL h v l):IsL g v l:=by rw[←e.eq];exact i.app _
theorem Ext.B {h g:H}(e:Ext h g){v:V}{L:List (V × List Nat)}(i:HB h v L):HB g v L:=by rw[←e.eq];exact i.app _
theorem Ext.W {h g:H}(e:Ext h g){t:Watch}{v:V}{vs:List V}(i:∀ k,iterOf (h++k) v=some (vs,t)∧t.ok (h++k)=true):iterOf g v=some (vs,t)∧t.ok g=true:=by rw[←e.eq];exact i _
theorem Ext.tr {h g k:H}(e1:Ext h g) (e2:Ext g k):Ext h k:=by
 unfold Ext at *
 have:=congrArg (List.take h.length) e2;rw[List.take_take,Nat.min_eq_left (Ext.len e1),e1] at this;exact this
noncomputable def touch (K:List (List Nat)) (j:List Nat):List (List Nat):=if j∈K then K else K++[j]
theorem zb9 {K:List (List Nat)}{j x:List Nat}:x∈touch K j↔x∈K∨x=j:=by
 unfold touch
 by_cases h:j∈K
 ·rw[if_pos h];exact⟨.inl,fun q=>q.elim id fun e=>e ▸ h⟩
 ·rw[if_neg h,List.mem_append,List.mem_singleton]
theorem zej (K:List (List Nat)) (j:List Nat):(touch K j).length≤K.length+1:=by
 unfold touch
 by_cases h:j∈K
 ·rw[if_pos h];exact Nat.le_succ _
 ·rw[if_neg h,List.length_append];exact Nat.le_refl _
structure Ways (b:Nat) (g:H) (d:Nat) (K:List (List Nat)) (r:List Nat→Nat) (T:List Nat→List V):Prop where
 dc:g[d]?=some (.dict (dk (fun j=>.ref (r j)) K))
 ls:∀ j∈K,g[r j]?=some (.list (T j))
 nd:K.Nodup
 inj:∀ i∈K,∀ j∈K,r i=r j→i=j
 lo:∀ j∈K,b≤r j
section
variable {P:Tab}{n b d:Nat}{h g:H}{F:Fn}{ρ:List V}{K:List (List Nat)}{r:List Nat→Nat}{T:List Nat→List V}
theorem zj9 {o k e:PE}{j:List Nat}{v:V}{res:R V}(eo:evE true F ρ o g=.ok (.ref d) g) (ek:evE true F ρ k g=.ok (V.tw j) g){es:List (V × V)}(hd:g[d]?=some (.dict es)) (ee:evE true F ρ e g=.ok v h){es':List (V × V)}(hd':h[d]?=some (.dict es')) (hr:(match dfind (V.tw j) es' with
  |some v=>R.ok v h
  |Option.none=>if es'.length≤1000 then .ok v (h.set d (.dict (es'++[(V.tw j,v)]))) else .bad)=res):evE true F ρ (.setdef o k e) g=res:=by
 have hc:dcell g (.ref d)=true:=by
  show(match g[d]? with|some (.dict _)=>true|_=>false)=true
  rw[hd]
 rw[zaO,eo,R.bind_ok,if_pos hc,ek,R.bind_ok,ee,R.bind_ok];show(match h[d]? with|some (.dict es)=>if keyOk (V.tw j) then _ else R.bad|_=>.bad)=_
 rw[hd'];show(if keyOk (V.tw j) then _ else R.bad)=_;rw[zcz,if_pos rfl];exact hr
theorem Ways.touch (W:Ways b g d K r T) (j:List Nat) (hb:b≤g.length) (hK:K.length≤1000) (hT:j ∉ K→T j=[]) (hbd:b≤d):∃ g' r',Ways b g' d (L09.touch K j) r' T∧b≤g'.length∧(∀ h,h.length≤b→Ext h g→Ext h g') ∧
  ∀ (F:Fn) (ρ:List V) (o k:PE),evE true F ρ o g=.ok (.ref d) g→evE true F ρ k g=.ok (V.tw j) g→evE true F ρ (.setdef o k (.own (.list []))) g=.ok (.ref (r' j)) g':=by
 have up:∀ i,i < g.length→(g++[Cell.list []])[i]?=g[i]?:=fun i hi=>List.getElem?_append_left hi;have lt:∀ {i:Nat}{c:Cell},g[i]?=some c→i < g.length:=fun e=>(List.getElem?_eq_some_iff.1 e).1;have hd1:(g++[Cell.list []])[d]?=some (.dict (dk (fun j=>.ref (r j)) K)):=(up _ (lt W.dc)).trans W.dc
 by_cases hj:j∈K
 ·refine⟨g++[.list []],r,?_,?_,fun h hh e=>e.app _,fun F ρ o k eo ek=>?_⟩
  ·unfold L09.touch;rw[if_pos hj]
   exact⟨hd1,fun i hi=>(up _ (lt (W.ls i hi))).trans (W.ls i hi),W.nd,W.inj,W.lo⟩
  ·rw[List.length_append];exact Nat.le_trans hb (Nat.le_add_right ..)
  ·refine zj9 eo ek W.dc (h:=g++[.list []]) (v:=.ref g.length) rfl hd1 ?_
   rw[zbQ,if_pos hj]
 ·refine⟨(g++[Cell.list []]).set d (.dict (dk (fun j=>.ref (r j)) K++[(V.tw j,.ref g.length)])),fun i=>if i=j then g.length else r i,?_,?_,fun h hh e=>(e.app _).set (Nat.le_trans hh hbd) _,fun F ρ o k eo ek=>?_⟩
  ·unfold L09.touch;rw[if_neg hj]
   have ne:∀ {i:Nat}{vs:List V},(g++[Cell.list []])[i]?=some (.list vs)→d≠i:=fun e q=>by subst q;rw[hd1] at e;cases e
   have rk:∀ i∈K,(if i=j then g.length else r i)=r i:=fun i hi=>if_neg fun(e:i=j)=>hj (e ▸ hi);refine⟨?_,fun i hi=>?_,?_,fun x hx y hy e=>?_,fun i hi=>?_⟩
   ·rw[List.getElem?_set_self (by rw[List.length_append];exact Nat.lt_add_right _ (lt W.dc)),ziR,if_pos rfl]
    refine congrArg some (congrArg Cell.dict (congrArg (·++_) (List.map_congr_left fun i hi=>?_)));dsimp only;rw[rk i hi]
   ·rcases List.mem_append.1 hi with hi|hi
    ·have e:=(up _ (lt (W.ls i hi))).trans (W.ls i hi)
     rw[rk i hi,List.getElem?_set_ne (ne e),e]
    ·rw[List.mem_singleton] at hi;subst hi
     have e:(g++[Cell.list []])[g.length]?=some (.list []):=zbs _ _;rw[if_pos rfl,List.getElem?_set_ne (ne e),e,hT hj]
   ·rw[List.nodup_append]
    exact⟨W.nd,by simp,fun x hx y hy e=>hj (by rw[List.mem_singleton.1 hy] at e;rw[←e];exact hx)⟩
   ·have old:∀ i∈K,r i≠g.length:=fun i hi=>Nat.ne_of_lt (lt (W.ls i hi))
    rcases List.mem_append.1 hx with kx|kx<;>rcases List.mem_append.1 hy with ky|ky
    ·rw[rk x kx,rk y ky] at e;exact W.inj x kx y ky e
    ·rw[rk x kx,if_pos (List.mem_singleton.1 ky)] at e;exact absurd e (old x kx)
    ·rw[rk y ky,if_pos (List.mem_singleton.1 kx)] at e;exact absurd e.symm (old y ky)
    ·rw[List.mem_singleton.1 kx,List.mem_singleton.1 ky]
   ·rcases List.mem_append.1 hi with hi|hi
    ·rw[rk i hi];exact W.lo i hi
    ·rw[List.mem_singleton.1 hi,if_pos rfl];exact hb
  ·rw[List.length_set,List.length_append];exact Nat.le_trans hb (Nat.le_add_right ..)
  ·refine zj9 eo ek W.dc (h:=g++[.list []]) (v:=.ref g.length) rfl hd1 ?_
   rw[zbQ,if_neg hj];dsimp only;rw[if_pos rfl,zfA];exact if_pos hK
theorem Ways.push (W:Ways b g d K r T){j:List Nat}(hj:j∈K) (l:List V):Ways b (g.set (r j) (.list l)) d K r (fun i=>if i=j then l else T i):=by
 have lt:r j < g.length:=(List.getElem?_eq_some_iff.1 (W.ls j hj)).1;refine⟨?_,fun i hi=>?_,W.nd,W.inj,W.lo⟩
 ·rw[List.getElem?_set_ne (fun e=>by have:=W.ls j hj;rw[e,W.dc] at this;cases this)];exact W.dc
 ·by_cases e:i=j
  ·subst e;rw[if_pos rfl,List.getElem?_set_self lt]
  ·rw[if_neg e,List.getElem?_set_ne fun q=>e (W.inj i hi j hj q.symm)];exact W.ls i hi
end
noncomputable def tails (B:List (List Nat)) (j:List Nat):List (List Nat):=(B.filter fun w=>decide (pre w=j)).map suf
def isJ (B:List (List Nat)) (j:List Nat):Prop:=∃ w∈B,j=pre w∨j=suf w
noncomputable def tV (B:List (List Nat)) (j:List Nat):List V:=tups (tails B j)
theorem zj1 (B:List (List Nat)) (w:List Nat):(fun j=>if j=pre w then tups (tails B (pre w)++[suf w]) else tV B j)=tV (B++[w]):=by
 funext j
 unfold tV tails;rw[List.filter_append,List.map_append]
 by_cases e:j=pre w
 ·rw[if_pos e,List.filter_cons_of_pos (p:=fun w=>decide (pre w=j)) (decide_eq_true e.symm),e];rfl
 ·rw[if_neg e,List.filter_cons_of_neg (p:=fun w=>decide (pre w=j)) (by rw[decide_eq_false fun q=>e q.symm];exact Bool.false_ne_true)];exact congrArg tups (List.append_nil _).symm
theorem zgH {B:List (List Nat)}{j:List Nat}(h:∀ w∈B,pre w≠j):tails B j=[]:=by
 unfold tails;rw[List.filter_eq_nil_iff.2];rfl
 intro w hw e;exact h w hw (of_decide_eq_true e)
theorem zoG {B:List (List Nat)}{w j:List Nat}:isJ (B++[w]) j↔(isJ B j∨j=pre w)∨j=suf w:=by
 constructor
 ·rintro⟨x,hx,e⟩
  rcases List.mem_append.1 hx with hx|hx
  ·exact .inl (.inl ⟨x,hx,e⟩)
  ·rw[List.mem_singleton.1 hx] at e
   exact e.elim (fun e=>.inl (.inr e)) .inr
 ·rintro((⟨x,hx,e⟩|e)|e)
  ·exact⟨x,List.mem_append_left _ hx,e⟩
  ·exact⟨w,List.mem_append_right _ (List.mem_cons_self ..),.inl e⟩
  ·exact⟨w,List.mem_append_right _ (List.mem_cons_self ..),.inr e⟩
theorem zo0 (n:Nat):cut n (-1)=n - 1:=by
 unfold cut;rw[if_pos (by decide)]
 cases n with
 |zero=>rfl
 |succ m=>rw[zeA];rfl
theorem znY {α:Type}(vs:List α):slc vs Option.none (some (-1))=vs.take (vs.length - 1):=by
 show(vs.take (cut vs.length (-1))).drop 0=_;rw[zo0,List.drop_zero]
section
variable {P:Tab}{n b d:Nat}{h g:H}{F:Fn}{ρ:List V}{K:List (List Nat)}{r:List Nat→Nat}
theorem zdi {a:PE}{v:V}{l:List Nat}(ea:evE true F ρ a h=.ok v h) (hl:IsL h v l):evE true F ρ (.slice a .none (some (.neg 1))) h=.ok (.lst (V.nats (pre l))) h:=by
 rw[zaz,ea,R.bind_ok,zpD,R.bind_ok,zpC];show R.opt (zbp h v Option.none (some (.int (-1)))) h=_;rw[zfU hl _ _ Option.none (some (-1)) rfl rfl,znY,nats_length,zeB];rfl
theorem zfo {a:PE}{v:V}{l:List Nat}(ea:evE true F ρ a h=.ok v h) (hl:IsL h v l):evE true F ρ (.slice a (some (.int 1)) .none) h=.ok (.lst (V.nats (suf l))) h:=zhH (p:=1) ea hl rfl
theorem zb0 {o a:PE}{c:Nat}{vs:List V}{y:V}{g':H}(eo:evE true F ρ o g=.ok (.ref c) g') (hc:g'[c]?=some (.list vs)) (ea:evE true F ρ a g'=.ok y g') (hl:vs.length≤1000):evE true F ρ (.append o a) g=.ok .none (g'.set c (.list (vs++[y]))):=by
 rw[zaE,eo,R.bind_ok,if_pos (zdo hc),ea,R.bind_ok,zbI hc _ .none (vs++[y]) rfl (by rw[List.length_append];exact Nat.le_trans (Nat.succ_le_succ hl) (by decide))]
inductive InvO (h:H) (bv:V) (p:List (V × List Nat)):List V→H→Prop
 |mk (K:List (List Nat)) (r:List Nat→Nat) (w:V) (g:H) (x:Ext h g) (W:Ways h.length g h.length K r (tV (p.map (·.2)))) (hK:∀ j,j∈K↔isJ (p.map (·.2)) j) (hl:K.length≤2 * p.length):InvO h bv p [bv,.ref h.length,w] g
theorem zhP {bv:V}{p:List (V × List Nat)}{a:V × List Nat}(hp:p.length≤400) (ha:IsL h a.1 a.2) (I:InvO h bv p ρ g):∃ ρ' g',exSs true F [
  .expr (.append (.setdef (.var 1) (.bf .tuple (.slice (.var 2) .none (some (.neg 1)))) (.own (.list []))) (.bf .tuple (.slice (.var 2) (some (.int 1)) .none))),
  .expr (.setdef (.var 1) (.bf .tuple (.slice (.var 2) (some (.int 1)) .none)) (.own (.list [])))] (ρ.set 2 a.1) g=.ok .next ρ' g'∧InvO h bv (p++[a]) ρ' g':=by
 obtain⟨K,r,w,g,e,W,hK,hl⟩:=I;have pe:∀ g',Ext h g'→evE true F [bv,.ref h.length,a.1] (.bf .tuple (.slice (.var 2) .none (some (.neg 1)))) g'=.ok (V.tw (pre a.2)) g':=fun g' e'=>zdP (zdi (zba (v:=a.1) rfl (e'.L ha).val) (e'.L ha)) (IsL.lst _ _);have se:∀ g',Ext h g'→evE true F [bv,.ref h.length,a.1] (.bf .tuple (.slice (.var 2) (some (.int 1)) .none)) g'=.ok (V.tw (suf a.2)) g':=fun g' e'=>zdP (zfo (zba (v:=a.1) rfl (e'.L ha).val) (e'.L ha)) (IsL.lst _ _)
 obtain⟨g1,r1,W1,b1,x1,v1⟩:=W.touch (pre a.2) e.len (Nat.le_trans hl (Nat.le_trans (Nat.mul_le_mul_left 2 hp) (by decide))) (fun q=>congrArg tups (zgH fun w hw e=>q ((hK _).2 ⟨w,hw,.inl e.symm⟩))) (Nat.le_refl _)
 have e1:=x1 h (Nat.le_refl _) e;have mj:pre a.2∈touch K (pre a.2):=zb9.2 (.inr rfl);have W2:=W1.push mj (tups (tails (p.map (·.2)) (pre a.2)++[suf a.2]));rw[zj1] at W2;have hle:(tups (tails (p.map (·.2)) (pre a.2))).length≤1000:=by
  unfold tups tails;rw[List.length_map,List.length_map];refine Nat.le_trans (List.length_filter_le ..) ?_;rw[List.length_map];exact Nat.le_trans hp (by decide)
 have s1:=zb0 (v1 F [bv,.ref h.length,a.1] (.var 1) _ rfl (pe g e)) (show g1[r1 (pre a.2)]?=some (.list (tups (tails (p.map (·.2)) (pre a.2)))) from W1.ls _ mj) (se g1 e1) hle;have e2:=e1.set (W1.lo _ mj) (.list (tups (tails (p.map (·.2)) (pre a.2))++[V.tw (suf a.2)]));have tt:tups (tails (p.map (·.2)) (pre a.2))++[V.tw (suf a.2)]=tups (tails (p.map (·.2)) (pre a.2)++[suf a.2]):=by unfold tups;rw[List.map_append];rfl
 rw[tt] at s1 e2;generalize g1.set (r1 (pre a.2)) (.list (tups (tails (p.map (·.2)) (pre a.2)++[suf a.2])))=g2 at s1 e2 W2;have k2:=zej K (pre a.2);have mm:∀ j,j∈touch (touch K (pre a.2)) (suf a.2)↔isJ ((p++[a]).map (·.2)) j:=fun j=>by
  rw[List.map_append,List.map_singleton,zoG,zb9,zb9,hK]
 obtain⟨g3,r3,W3,b3,x3,v3⟩:=W2.touch (suf a.2) e2.len (Nat.le_trans k2 (Nat.le_trans (Nat.succ_le_succ (Nat.le_trans hl (Nat.mul_le_mul_left 2 hp))) (by decide))) (fun q=>congrArg tups (zgH fun w hw e=>q (zb9.2 (by
  rcases List.mem_append.1 hw with hw|hw
  ·exact .inl ((hK _).2 ⟨w,hw,.inl e.symm⟩)
  ·rw[List.mem_singleton.1 hw] at e;exact .inr e.symm)))) (Nat.le_refl _)
 have k3:=zej (touch K (pre a.2)) (suf a.2);refine⟨_,g3,?_,_,r3,a.1,_,x3 h (Nat.le_refl _) e2,?_,mm,?_⟩
 ·show exSs true F _ [bv,.ref h.length,a.1] g=_
  rw[zbD s1,zbD (v3 F [bv,.ref h.length,a.1] (.var 1) _ rfl (se g2 e2))];rfl
 ·rw[List.map_append];exact W3
 ·rw[List.length_append];exact Nat.le_trans k3 (Nat.succ_le_succ (Nat.le_trans k2 (Nat.succ_le_succ hl)))
theorem zjk (u:zcZ P){bv:V}{L:List (V × List Nat)}(hb:HB h bv L) (hL:L.length≤400):∃ g K r,run P (n+1) true "onward" [bv] h=.ok (.ref h.length) g∧Ext h g∧Ways h.length g h.length K r (tV (L.map (·.2)))∧∀ j,j∈K↔isJ (L.map (·.2)) j:=by
 have hv:=(zbY hb.it).val;obtain⟨t,ht⟩:=zgn hb.it;have e0:Ext h (h++[Cell.dict []]):=(Ext.refl h).app _;obtain⟨ρ',g',e,⟨K,r,w,g',x,W,hK,_⟩⟩:=zdQ (F:=run P n) (h:=h++[.dict []]) (x:=2) (it:=.seq (.var 0)) (body:=[
  .expr (.append (.setdef (.var 1) (.bf .tuple (.slice (.var 2) .none (some (.neg 1)))) (.own (.list []))) (.bf .tuple (.slice (.var 2) (some (.int 1)) .none))),
  .expr (.setdef (.var 1) (.bf .tuple (.slice (.var 2) (some (.int 1)) .none)) (.own (.list [])))]) (ρ:=[bv,.ref h.length,.undef]) (t:=t) (l:=L) (c:=(·.1)) (h':=h++[.dict []]) (InvO h bv) (by rw[i_seq,zba (v:=bv) rfl hv,R.bind_ok,(ht _).1];rfl) (fun p ρ g I=>by
   obtain⟨_,_,_,_,e,_⟩:=I;exact(e.W ht).2) ⟨[],fun z_=>0,.undef,_,e0,⟨zbs _ _,fun z_ h=>(nomatch h),.nil,fun z_ h=>(nomatch h),fun z_ h=>(nomatch h)⟩,fun j=>⟨fun h=>(nomatch h),fun⟨_,h,_⟩=>(nomatch h)⟩,Nat.zero_le _⟩ (fun p a q ρ g hp I=>by
   have ha:a∈L:=by rw[hp];exact List.mem_append_right _ (List.mem_cons_self ..)
   refine zhP ?_ (hb.wd a ha) I;rw[hp,List.length_append] at hL;exact Nat.le_trans (Nat.le_add_right ..) hL)
 exact⟨g',K,r,start u.self rfl (ρ:=[bv,.undef,.undef]) rfl (zaT (v:=.ref h.length) (h':=h++[.dict []]) rfl (ρ':=[bv,.ref h.length,.undef]) rfl (zcM e (zbw rfl))),x,W,hK⟩
end
inductive Rch (B:List (List Nat)) (s:List Nat):List Nat→Prop
 |base:Rch B s s
 |step {w:List Nat}:w∈B→Rch B s (pre w)→Rch B s (suf w)
theorem zgI {B:List (List Nat)}{j t:List Nat}:t∈tails B j↔∃ w∈B,pre w=j∧suf w=t:=by
 unfold tails;rw[List.mem_map];exact⟨fun⟨w,hw,e⟩=>⟨w,(List.mem_filter.1 hw).1,of_decide_eq_true (List.mem_filter.1 hw).2,e⟩,fun⟨w,hw,e1,e2⟩=>⟨w,List.mem_filter.2 ⟨hw,decide_eq_true e1⟩,e2⟩⟩
theorem Rch.isJ {B:List (List Nat)}{s x:List Nat}(hs:isJ B s) (r:Rch B s x):isJ B x:=by
 cases r with
 |base=>exact hs
 |step hw _=>exact⟨_,hw,.inr rfl⟩
structure Cm (B:List (List Nat)) (s:List Nat) (D Wt M:List (List Nat)):Prop where
 nd:M.Nodup
 nd2:(D++Wt).Nodup
 mem:∀ x,x∈M↔x∈D∨x∈Wt
 rch:∀ x∈M,Rch B s x
theorem Cm.one {B:List (List Nat)}{s:List Nat}:Cm B s [] [s] [s]:=⟨List.nodup_cons.2 ⟨fun h=>(nomatch h),.nil⟩,List.nodup_cons.2 ⟨fun h=>(nomatch h),.nil⟩,fun x=>⟨.inr,fun h=>h.resolve_left fun h=>(nomatch h)⟩,fun x hx=>by rw[List.mem_singleton.1 hx];exact .base⟩
theorem Cm.add {B:List (List Nat)}{s t:List Nat}{D Wt M:List (List Nat)}(c:Cm B s D Wt M) (ht:t ∉ M) (hr:Rch B s t):Cm B s D (Wt++[t]) (M++[t]):=by
 refine⟨?_,?_,fun x=>?_,fun x hx=>?_⟩
 ·rw[List.nodup_append]
  exact⟨c.nd,by simp,fun x hx y hy e=>ht (by rw[List.mem_singleton.1 hy] at e;rw[←e];exact hx)⟩
 ·rw[←List.append_assoc,List.nodup_append]
  exact⟨c.nd2,by simp,fun x hx y hy e=>ht (by rw[List.mem_singleton.1 hy] at e;rw[←e];exact(c.mem x).2 (List.mem_append.1 hx))⟩
 ·rw[List.mem_append,List.mem_append,c.mem,or_assoc]
 ·rcases List.mem_append.1 hx with hx|hx
  ·exact c.rch x hx
  ·rw[List.mem_singleton.1 hx];exact hr
theorem Cm.take {B:List (List Nat)}{s t:List Nat}{D Wt M:List (List Nat)}(c:Cm B s D (Wt++[t]) M):Cm B s (D++[t]) Wt M:=by
 have p:(D++(Wt++[t])).Perm (D++[t]++Wt):=by
  rw[List.append_assoc];exact(List.perm_append_comm).append_left D
 refine⟨c.nd,p.nodup_iff.1 c.nd2,fun x=>?_,c.rch⟩;rw[c.mem,List.mem_append,List.mem_append,or_assoc,or_comm (a:=x∈Wt)]
section
variable {P:Tab}{n b d:Nat}{h g:H}{F:Fn}{ρ:List V}{K:List (List Nat)}{r:List Nat→Nat}{B:List (List Nat)}{s:List Nat}
theorem zfV {t:PE}{body:List PS}(Inv:Nat→List V→H→Prop) (Post:List V→H→Prop) (m:Nat) (hm:m < turns) (h0:Inv m ρ h)
  (hs:∀ k ρ g,Inv k ρ g→(evE true F ρ t g=.ok (.bool false) g∧Post ρ g)∨(evE true F ρ t g=.ok (.bool true) g∧∃ k' ρ' g',k'+1=k∧exSs true F body ρ g=.ok .next ρ' g'∧Inv k' ρ' g')) :
  ∃ ρ' g',exS true F (.while t body) ρ h=.ok .next ρ' g'∧Post ρ' g':=by
 rw[zdY,if_neg (by decide)]
 have key:∀ N k,k < N→∀ ρ g,Inv k ρ g→∃ ρ' g',whileL (fun ρ h=>evE true F ρ t h) (fun ρ h=>exSs true F body ρ h) N ρ g=.ok .next ρ' g'∧Post ρ' g':=by
  intro N
  induction N with
  |zero=>intro k hk;exact absurd hk (Nat.not_lt_zero _)
  |succ N ih =>
   intro k hk ρ g I
   rcases hs k ρ g I with⟨e,p⟩|⟨e,k',ρ1,g1,hk',e1,I1⟩
   ·refine⟨ρ,g,?_,p⟩
    show((evE true F ρ t g).st ρ _)=_;rw[e];rfl
   ·obtain⟨ρ2,g2,e2,p⟩:=ih k' (Nat.lt_of_succ_lt_succ (show k'+1 < N+1 by rw[hk'];exact hk)) ρ1 g1 I1
    refine⟨ρ2,g2,?_,p⟩;show((evE true F ρ t g).st ρ _)=_;rw[e];show(exSs true F body ρ g).then _=_;rw[e1,RS.then_next,e2]
 exact key turns m hm ρ h h0
noncomputable def tt:List Nat→V:=fun z_=>.bool true
noncomputable def HC (g:H) (M Wt:List (List Nat)):H:=g++[.dict (dk tt M),.list (tups Wt)]
theorem zpg (M Wt:List (List Nat)):(HC g M Wt)[g.length]?=some (.dict (dk tt M)):=by
 unfold HC;rw[List.getElem?_append_right (Nat.le_refl _),Nat.sub_self];rfl
theorem zpf (M Wt:List (List Nat)):(HC g M Wt)[g.length+1]?=some (.list (tups Wt)):=by
 unfold HC;rw[List.getElem?_append_right (Nat.le_add_right ..),Nat.add_sub_cancel_left];rfl
theorem zqJ (M M' Wt:List (List Nat)):(HC g M Wt).set g.length (.dict (dk tt M'))=HC g M' Wt:=by
 unfold HC;rw[List.set_append_right _ _ (Nat.le_refl _),Nat.sub_self];rfl
theorem zm5 (M Wt Wt':List (List Nat)):(HC g M Wt).set (g.length+1) (.list (tups Wt'))=HC g M Wt':=by
 unfold HC;rw[List.set_append_right _ _ (Nat.le_add_right ..),Nat.add_sub_cancel_left];rfl
theorem zqQ {M Wt:List (List Nat)}{i:Nat}{c:Cell}(e:g[i]?=some c):(HC g M Wt)[i]?=some c:=by
 unfold HC;rw[List.getElem?_append_left (List.getElem?_eq_some_iff.1 e).1];exact e
theorem zd1 (A:List (List Nat)) (t:List Nat):tups A++[V.tw t]=tups (A++[t]):=by unfold tups;rw[List.map_append];rfl
theorem tups_len (A:List (List Nat)):(tups A).length=A.length:=List.length_map ..
noncomputable def ctBody:List PS:=[
   .ifs (.cmp .notIn (.var 4) (.var 2)) [
    .setIdx (.var 2) (.var 4) (.bool true),
    .expr (.append (.var 3) (.var 4))] []]
noncomputable abbrev Ec (d g:Nat) (s w:V):List V:=[.ref d,s,.ref g,.ref (g+1),w]
theorem zqx {D Wt M:List (List Nat)}{t:List Nat}{sv:V}(c:Cm B s D Wt M) (ht:Rch B s t) (hM:M.length≤1000) (hW:Wt.length≤1000):∃ Wt' M',Cm B s D Wt' M'∧(∀ x∈M,x∈M')∧t∈M'∧exSs true F ctBody (Ec d g.length sv (V.tw t)) (HC g M Wt)=.ok .next (Ec d g.length sv (V.tw t)) (HC g M' Wt'):=by
 have e:=zgU (F:=F) (ρ:=Ec d g.length sv (V.tw t)) (a:=.var 4) (b:=.var 2) (t:=t) rfl rfl (zpg (g:=g) M Wt)
 by_cases h:t∈M
 ·rw[decide_eq_true h] at e
  exact⟨Wt,M,c,fun x hx=>hx,h,(zcG e).trans rfl⟩
 ·rw[decide_eq_false h] at e
  refine⟨Wt++[t],M++[t],c.add h ht,fun x hx=>List.mem_append_left _ hx,List.mem_append_right _ (List.mem_cons_self ..),?_⟩;unfold ctBody;rw[zc0 e];show exSs true F [.setIdx (.var 2) (.var 4) (.bool true),.expr (.append (.var 3) (.var 4))] _ _=_;rw[zfR (o:=.var 2) (i:=.var 4) (t:=t) (v:=.bool true) rfl rfl rfl (zpg M Wt) (by rw[zfA];exact hM),dput_new h,show dk tt M++[(V.tw t,V.bool true)]=dk tt (M++[t]) from(ziR tt M t).symm,zqJ,zbD (zb0 (o:=.var 3) (a:=.var 4) (y:=V.tw t) rfl (zpf (M++[t]) Wt) rfl (by rw[tups_len];exact hW)),zd1,zm5];rfl
end
section
variable {P:Tab}{n b d:Nat}{h g:H}{F:Fn}{ρ:List V}{K:List (List Nat)}{r:List Nat→Nat}{B:List (List Nat)}{s:List Nat}
theorem Cm.inK {D Wt M:List (List Nat)}(c:Cm B s D Wt M) (hK:∀ j,j∈K↔isJ B j) (hs:s∈K):(∀ x∈M,x∈K)∧M.length≤K.length∧(D++Wt).length≤K.length:=by
 have h1:∀ x∈M,x∈K:=fun x hx=>(hK x).2 ((c.rch x hx).isJ ((hK s).1 hs));exact⟨h1,within c.nd h1,within c.nd2 fun x hx=>h1 x ((c.mem x).2 (List.mem_append.1 hx))⟩
theorem znq {a:PE}{v:V}{vs:List V}(ea:evE true F ρ a h=.ok v h) (hl:litems h v=some vs):evE true F ρ (.cmp .gt (.bf .len a) (.int 0)) h=.ok (.bool (decide (0 < vs.length))) h:=by
 rw[zal,zbk ea hl,R.bind_ok];show R.opt ((pyCmp .gt h (.int vs.length) (.int 0)).map V.bool) h=_;rw[cmp_gt_int];exact congrArg (fun x=>R.ok (V.bool x) h) (decide_eq_decide.2 Int.natCast_pos)
theorem ziu {o:PE}{c:Nat}{vs:List V}{y:V}(eo:evE true F ρ o h=.ok (.ref c) h) (hc:h[c]?=some (.list (vs++[y]))) (hl:vs.length≤1000):evE true F ρ (.pop o) h=.ok y (h.set c (.list vs)):=by
 rw[qE_34,eo,R.bind_ok,zbI hc _ y vs _ (Nat.le_trans hl (by decide))]
 rw[List.getLast?_concat,List.dropLast_concat];rfl
theorem zd9 {i:Nat}{t:List Nat}{es:List (V × V)}{v:V}(hd:h[i]?=some (.dict es)) (hv:dfind (V.tw t) es=some v):pyIdx h (.ref i) (V.tw t)=some v:=by
 unfold pyIdx;dsimp only;rw[hd];dsimp only;rw[zcz,if_pos rfl,hv]
theorem zeL {i:Nat}{vs:List V}(e:h[i]?=some (.list vs)):iterOf h (.ref i)=some (vs,some (i,.list vs)):=by
 show(match h[i]? with|some (.list vs)=>some (vs,some (i,Cell.list vs))|some (.dict es)=>some (es.map Prod.fst,some (i,.dict es))|none=>Option.none)=_
 rw[e]
inductive InvC (B:List (List Nat)) (s:List Nat) (g:H) (d N:Nat) (k:Nat):List V→H→Prop
 |mk (D Wt M:List (List Nat)) (w:V) (c:Cm B s D Wt M) (hc:∀ x∈D,∀ y∈tails B x,y∈M) (hm:s∈M) (hk:D.length+k=N):InvC B s g d N k (Ec d g.length (V.tw s) w) (HC g M Wt)
inductive PostC (B:List (List Nat)) (s:List Nat) (g:H) (d:Nat):List V→H→Prop
 |mk (M:List (List Nat)) (w:V) (hn:M.Nodup) (hr:∀ x,x∈M↔Rch B s x):PostC B s g d (Ec d g.length (V.tw s) w) (HC g M [])
inductive InvT (B:List (List Nat)) (s:List Nat) (g:H) (d:Nat) (D M q:List (List Nat)):List V→H→Prop
 |mk (Wt' M':List (List Nat)) (w:V) (c:Cm B s D Wt' M') (hM:∀ x∈M,x∈M') (hq:∀ y∈q,y∈M'):InvT B s g d D M q (Ec d g.length (V.tw s) w) (HC g M' Wt')
theorem zmQ (W:Ways b g d K r (tV B)) (hK:∀ j,j∈K↔isJ B j) (hs:s∈K) (hn:K.length≤1000){D Wt M:List (List Nat)}{t:List Nat}{w:V}(c:Cm B s D (Wt++[t]) M) (hc:∀ x∈D,∀ y∈tails B x,y∈M) (hm:s∈M){k:Nat}(hk:D.length+k=K.length):∃ k' ρ' g',k'+1=k∧exSs true F [.for1 4 (.seq (.idx (.var 0) (.pop (.var 3)))) ctBody] (Ec d g.length (V.tw s) w) (HC g M (Wt++[t]))=.ok .next ρ' g'∧InvC B s g d K.length k' ρ' g':=by
 have c1:=c.take;have htM:t∈M:=(c.mem t).2 (.inr (List.mem_append_right _ (List.mem_cons_self ..)));have htK:t∈K:=(c.inK hK hs).1 t htM;have ls:=W.ls t htK;have pe:evE true F (Ec d g.length (V.tw s) w) (.pop (.var 3)) (HC g M (Wt++[t]))=.ok (V.tw t) (HC g M Wt):=by
  rw[ziu (o:=.var 3) (vs:=tups Wt) (y:=V.tw t) rfl (by rw[zd1];exact zpf _ _) (by
   rw[tups_len];have:=(c.inK hK hs).2.2;rw[List.length_append,List.length_append] at this;exact Nat.le_trans (Nat.le_trans (Nat.le_trans (Nat.le_succ _) (Nat.le_add_left ..)) this) hn),zm5]
 have ie:evIt true F (Ec d g.length (V.tw s) w) (.seq (.idx (.var 0) (.pop (.var 3)))) (HC g M (Wt++[t]))=.ok ((tails B t).map V.tw,some (r t,.list (tups (tails B t)))) (HC g M Wt):=by
  rw[i_seq,zar,show evE true F (Ec d g.length (V.tw s) w) (.var 0) (HC g M (Wt++[t]))=.ok (.ref d) _ from rfl,R.bind_ok,pe,R.bind_ok,zd9 (v:=.ref (r t)) (zqQ W.dc) (by rw[zbQ,if_pos htK]),R.opt_some,R.bind_ok,zeL (zqQ ls)];rfl
 obtain⟨ρ',g',e,⟨Wt',M',w',c',hM',hq⟩⟩:=zdQ (F:=F) (x:=4) (body:=ctBody) (InvT B s g d (D++[t]) M) ie (fun q ρ g' I=>by
   obtain⟨Wt',M',w',_⟩:=I;exact decide_eq_true (zqQ ls)) ⟨Wt,M,w,c1,fun x hx=>hx,fun z_ h=>nomatch h⟩ (fun q a q' ρ g' hp I=>by
   obtain⟨Wt',M',w',c',hM',hq⟩:=I;have ht:Rch B s a:=by
    obtain⟨w,hw,e1,e2⟩:=zgI.1 (show a∈tails B t by rw[hp];exact List.mem_append_right _ (List.mem_cons_self ..))
    rw[←e2];refine .step hw ?_;rw[e1];exact c.rch t htM
   have hl:=(c'.inK hK hs).2;rw[List.length_append] at hl;obtain⟨Wt2,M2,c2,h2,h3,e2⟩:=zqx (F:=F) (d:=d) (g:=g) (sv:=V.tw s) c' ht (Nat.le_trans hl.1 hn) (Nat.le_trans (Nat.le_trans (Nat.le_add_left ..) hl.2) hn);refine⟨_,_,e2,Wt2,M2,_,c2,fun x hx=>h2 x (hM' x hx),fun y hy=>?_⟩
   rcases List.mem_append.1 hy with hy|hy
   ·exact h2 y (hq y hy)
   ·rw[List.mem_singleton.1 hy];exact h3)
 have hl:=(c'.inK hK hs).2.2;rw[List.length_append,List.length_append] at hl;have hk1:1≤k:=Nat.le_of_add_le_add_left (a:=D.length) (by rw[hk];exact Nat.le_trans (Nat.le_add_right ..) hl)
 refine⟨k - 1,_,_,Nat.sub_add_cancel hk1,by rw[ss_cons',e];rfl,D++[t],Wt',M',w',c',fun x hx y hy=>?_,hM' s hm,by
  rw[List.length_append];show D.length+1+(k - 1)=_;rw[Nat.add_assoc,Nat.add_comm 1,Nat.sub_add_cancel hk1];exact hk⟩
 rcases List.mem_append.1 hx with hx|hx
 ·exact hM' y (hc x hx y hy)
 ·rw[List.mem_singleton.1 hx] at hy;exact hq y hy
theorem ziS {i:Nat}(e:ρ[i]?=some (V.tw s)):evE true F ρ (.dict1 (.var i) (.bool true)) g=.ok (.ref g.length) (g++[.dict (dk tt [s])]):=by
 have:setiD (g++[.dict []]) g.length (V.tw s) (.bool true)=some (g++[.dict (dk tt [s])]):=by
  unfold setiD;rw[zbs];dsimp only;rw[zcz,zer];rfl
 rw[zaB,zba e trivial,R.bind_ok];show(match setiD (g++[.dict []]) g.length (V.tw s) (.bool true) with|some h'=>R.ok (V.ref g.length) h'|Option.none=>R.bad)=_
 rw[this]
theorem zmS (u:zcm P) (W:Ways b g d K r (tV B)) (hK:∀ j,j∈K↔isJ B j) (hs:s∈K) (hn:K.length≤1000):∃ M,M.Nodup∧(∀ x,x∈M↔Rch B s x)∧run P (n+1) true "come_to" [.ref d,V.tw s] g=.ok (.ref g.length) (HC g M []):=by
 obtain⟨ρ',g',e,⟨M,w,hM,hr⟩⟩:=zfV (F:=run P n) (t:=.cmp .gt (.bf .len (.var 3)) (.int 0)) (body:=[.for1 4 (.seq (.idx (.var 0) (.pop (.var 3)))) ctBody]) (ρ:=Ec d g.length (V.tw s) .undef) (h:=HC g [s] [s]) (InvC B s g d K.length) (PostC B s g d) K.length (zd6 (Nat.le_trans hn (by decide)))
  ⟨[],[s],[s],.undef,Cm.one,fun z_ h=>(nomatch h),List.mem_cons_self ..,Nat.zero_add _⟩ (fun k ρ g' I=>by
   obtain⟨D,Wt,M,w,c,hc,hm,hk⟩:=I;have t:=znq (F:=run P n) (ρ:=Ec d g.length (V.tw s) w) (a:=.var 3) (v:=.ref (g.length+1)) rfl (zaa (zpf M Wt));rw[tups_len] at t
   rcases List.eq_nil_or_concat Wt with rfl|⟨Wt0,t0,rfl⟩
   ·refine .inl ⟨t,M,w,c.nd,fun x=>⟨c.rch x,fun hx=>?_⟩⟩
    induction hx with
    |base=>exact hm
    |step hw _ ih =>
     refine hc _ (((c.mem _).1 ih).resolve_right fun h=>nomatch h) _ (zgI.2 ⟨_,hw,rfl,rfl⟩)
   ·rw[List.concat_eq_append] at *
    rw[decide_eq_true (by rw[List.length_append];exact Nat.succ_pos _)] at t
    exact .inr ⟨t,zmQ W hK hs hn c hc hm hk⟩)
 refine⟨M,hM,hr,start u.self rfl (ρ:=[.ref d,V.tw s,.undef,.undef,.undef]) rfl (zaT (v:=.ref g.length) (h':=g++[.dict (dk tt [s])]) ?_ (ρ':=[.ref d,V.tw s,.ref g.length,.undef,.undef]) rfl (zaT (v:=.ref (g.length+1)) (h':=HC g [s] [s]) ?_ (ρ':=Ec d g.length (V.tw s) .undef) rfl (zcM e (zbw rfl))))⟩
 ·exact ziS rfl
 ·have e2:evE true (run P n) [.ref d,V.tw s,.ref g.length,.undef,.undef] (.list [.var 1]) (g++[.dict (dk tt [s])])=.ok (.lst (tups [s])) (g++[.dict (dk tt [s])]):=rfl
  rw[zdS e2];unfold HC;rw[List.length_append,List.append_assoc];rfl
end
noncomputable def outs (B:List (List Nat)) (j:List Nat):Nat:=(B.filter fun w=>decide (pre w=j)).length
noncomputable def ins (B:List (List Nat)) (j:List Nat):Nat:=(B.filter fun w=>decide (suf w=j)).length
theorem zj0 (B:List (List Nat)) (j:List Nat):(tails B j).length=outs B j:=List.length_map ..
theorem zc6 {B:List (List Nat)}(w:List Nat):∀ {K:List (List Nat)},K.Nodup→(K.flatMap fun k=>B.filter fun w=>decide (pre w=k)).count w=if pre w∈K then B.count w else 0
 |[],_=>rfl
 |k::K,hn=>by
  rw[List.nodup_cons] at hn;rw[List.flatMap_cons,List.count_append,zc6 w hn.2]
  by_cases e:pre w=k
  ·have h1:(B.filter fun w=>decide (pre w=k)).count w=B.count w:=List.count_filter (decide_eq_true e)
   rw[h1,if_neg (by rw[e];exact hn.1),if_pos (by rw[e];exact List.mem_cons_self ..)];rfl
  ·have h1:(B.filter fun w=>decide (pre w=k)).count w=0:=List.count_eq_zero.2 fun h=>e (of_decide_eq_true (List.mem_filter.1 h).2)
   rw[h1,Nat.zero_add]
   by_cases h2:pre w∈K
   ·rw[if_pos h2,if_pos (List.mem_cons_of_mem _ h2)]
   ·rw[if_neg h2,if_neg fun q=>(List.mem_cons.1 q).elim e h2]
theorem zlh {B K:List (List Nat)}(hn:K.Nodup) (hK:∀ w∈B,pre w∈K) (j:List Nat):(K.flatMap (tails B)).count j=ins B j:=by
 have p:(K.flatMap fun k=>B.filter fun w=>decide (pre w=k)).Perm B:=List.perm_iff_count.2 fun w=>by
  rw[zc6 w hn]
  by_cases h:pre w∈K
  ·rw[if_pos h]
  ·rw[if_neg h];exact(List.count_eq_zero.2 fun q=>h (hK w q)).symm
 have e:K.flatMap (tails B)=(K.flatMap fun k=>B.filter fun w=>decide (pre w=k)).map suf:=by
  rw[List.map_flatMap];rfl
 rw[e,(p.map suf).count_eq,List.count_eq_countP,List.countP_map,List.countP_eq_length_filter];exact congrArg List.length (List.filter_congr fun w z_=>Bool.eq_iff_iff.2 ⟨fun q=>decide_eq_true (eq_of_beq q),fun q=>beq_iff_eq.2 (of_decide_eq_true q)⟩)
structure Cnt (es:List (V × V)) (Tl:List (List Nat)):Prop where
 get:∀ j,(dfind (V.tw j) es).getD (.int 0)=.int (Tl.count j)
 len:es.length≤Tl.length
theorem Cnt.put {es:List (V × V)}{Tl:List (List Nat)}(c:Cnt es Tl) (j:List Nat):Cnt (dput (V.tw j) (.int ((Tl.count j:Nat)+1)) es) (Tl++[j]):=by
 refine⟨fun i=>?_,Nat.le_trans (ziQ ..) (by rw[List.length_append];exact Nat.succ_le_succ c.len)⟩
 rw[zhg,List.count_append]
 by_cases e:i=j
 ·subst e
  rw[if_pos rfl,List.count_singleton_self];rfl
 ·rw[if_neg fun q=>e (zjR q),c.get,List.count_singleton,if_neg (by simpa using fun q=>e q.symm)];rfl
section
variable {P:Tab}{n b d:Nat}{h g:H}{F:Fn}{ρ:List V}{K:List (List Nat)}{r:List Nat→Nat}{B:List (List Nat)}{s:List Nat}
theorem znr {o k:PE}{i:Nat}{t:List Nat}{es:List (V × V)}(eo:evE true F ρ o h=.ok (.ref i) h) (ek:evE true F ρ k h=.ok (V.tw t) h) (hd:h[i]?=some (.dict es)):evE true F ρ (.get o k (.int 0)) h=.ok ((dfind (V.tw t) es).getD (.int 0)) h:=by
 have hc:dcell h (.ref i)=true:=by
  show(match h[i]? with|some (.dict _)=>true|_=>false)=true
  rw[hd]
 rw[zaC,eo,R.bind_ok,if_pos hc,ek,R.bind_ok];show(match h[i]? with|some (.dict es)=>if keyOk (V.tw t) then R.ok ((dfind (V.tw t) es).getD (.int 0)) h else R.bad|_=>.bad)=_
 rw[hd];show(if keyOk (V.tw t) then _ else R.bad)=_;rw[zcz,if_pos rfl]
theorem zkN {i:Nat}{es:List (V × V)}(e:h[i]?=some (.dict es)):iterOf h (.ref i)=some (es.map (·.1),some (i,.dict es)):=by
 show(match h[i]? with|some (.list vs)=>some (vs,some (i,Cell.list vs))|some (.dict es)=>some (es.map Prod.fst,some (i,.dict es))|none=>Option.none)=_
 rw[e]
theorem zck {c:Cell}{i:Nat}{k:H}(e:g[i]?=some c):(g++k)[i]?=some c:=by rw[List.getElem?_append_left (List.getElem?_eq_some_iff.1 e).1];exact e
noncomputable abbrev Ea (bv:V) (d e:Nat) (j o f x:V):List V:=[bv,.ref d,.ref e,j,o,f,x]
noncomputable def enIn:List PS:=[.setIdx (.var 2) (.var 4) (.bin .add (.get (.var 2) (.var 4) (.int 0)) (.int 1))]
noncomputable def enBody:List PS:=[.for1 4 (.seq (.idx (.var 1) (.var 3))) enIn]
inductive InvE (g:H) (bv:V) (d:Nat) (f x:V) (Tl:List (List Nat)):List V→H→Prop
 |mk (es:List (V × V)) (j o:V) (c:Cnt es Tl):InvE g bv d f x Tl (Ea bv d g.length j o f x) (g++[.dict es])
inductive InvD (g:H) (bv:V) (d:Nat) (j f x:V) (Tl:List (List Nat)):List V→H→Prop
 |mk (es:List (V × V)) (o:V) (c:Cnt es Tl):InvD g bv d j f x Tl (Ea bv d g.length j o f x) (g++[.dict es])
theorem zmI (W:Ways b g d K r (tV B)){j:List Nat}(hj:j∈K){bv o f x:V}{es:List (V × V)}{Tl:List (List Nat)}(c:Cnt es Tl) (hT:Tl.length+(tails B j).length≤1000):∃ es' o',Cnt es' (Tl++tails B j) ∧
  exSs true F enBody (Ea bv d g.length (V.tw j) o f x) (g++[.dict es])=.ok .next (Ea bv d g.length (V.tw j) o' f x) (g++[.dict es']):=by
 have ie:evIt true F (Ea bv d g.length (V.tw j) o f x) (.seq (.idx (.var 1) (.var 3))) (g++[.dict es])=.ok ((tails B j).map V.tw,some (r j,.list (tups (tails B j)))) (g++[.dict es]):=by
  rw[i_seq,zar,show evE true F (Ea bv d g.length (V.tw j) o f x) (.var 1) (g++[.dict es])=.ok (.ref d) _ from rfl,R.bind_ok,show evE true F (Ea bv d g.length (V.tw j) o f x) (.var 3) (g++[.dict es])=.ok (V.tw j) _ from rfl,R.bind_ok,zd9 (v:=.ref (r j)) (zck W.dc) (by rw[zbQ,if_pos hj]),R.opt_some,R.bind_ok,zeL (zck (W.ls j hj))];rfl
 obtain⟨ρ',g',e,⟨es',o',c'⟩⟩:=zdQ (F:=F) (x:=4) (body:=enIn) (fun q=>InvD g bv d (V.tw j) f x (Tl++q)) ie (fun q ρ g' I=>by
   obtain⟨es',o',_⟩:=I;exact decide_eq_true (zck (W.ls j hj))) ⟨es,o,by rw[List.append_nil];exact c⟩ (fun q a q' ρ g' hp I=>by
   obtain⟨es',o',c'⟩:=I;have ge:=zfi (znr (F:=F) (ρ:=Ea bv d g.length (V.tw j) (V.tw a) f x) (o:=.var 2) (k:=.var 4) (t:=a) rfl rfl (zbs g (.dict es')) |>.trans (by rw[c'.get])) (b:=.int 1) (y:=1) rfl
   have hl:es'.length≤1000:=by
    refine Nat.le_trans c'.len (Nat.le_trans ?_ hT);rw[hp,List.length_append,List.length_append];exact Nat.add_le_add_left (Nat.le_add_right ..) _
   refine⟨_,_,?_,_,V.tw a,by rw[←List.append_assoc];exact c'.put a⟩
   unfold enIn;show exSs true F _ (Ea bv d g.length (V.tw j) (V.tw a) f x) _=_;rw[zfR (o:=.var 2) (i:=.var 4) (t:=a) ge rfl rfl (zbs _ _) hl,zer];rfl)
 exact⟨es',o',c',by unfold enBody;rw[ss_cons',e];rfl⟩
theorem zmH (W:Ways b g d K r (tV B)) (hK:∀ w∈B,pre w∈K) (hl:(K.flatMap (tails B)).length≤1000){bv f x:V}:∃ es j o,(∀ j,(dfind (V.tw j) es).getD (.int 0)=.int (ins B j)) ∧
  exS true F (.for1 3 (.seq (.var 1)) enBody) (Ea bv d g.length .undef .undef f x) (g++[.dict []])=.ok .next (Ea bv d g.length j o f x) (g++[.dict es]):=by
 have ie:evIt true F (Ea bv d g.length .undef .undef f x) (.seq (.var 1)) (g++[.dict []])=.ok (K.map V.tw,some (d,.dict (dk (fun j=>.ref (r j)) K))) (g++[.dict []]):=by
  rw[i_seq,show evE true F (Ea bv d g.length .undef .undef f x) (.var 1) (g++[.dict []])=.ok (.ref d) _ from rfl,R.bind_ok,zkN (zck W.dc),zh4];rfl
 obtain⟨ρ',g',e,⟨es,j,o,c⟩⟩:=zdQ (F:=F) (x:=3) (body:=enBody) (fun q=>InvE g bv d f x (q.flatMap (tails B))) ie (fun q ρ g' I=>by
   obtain⟨es',j,o',_⟩:=I;exact decide_eq_true (zck W.dc)) ⟨[],_,_,fun j=>rfl,Nat.le_refl _⟩ (fun q a q' ρ g' hp I=>by
   obtain⟨es',j,o',c'⟩:=I;obtain⟨es2,o2,c2,e2⟩:=zmI (F:=F) (bv:=bv) (o:=o') (f:=f) (x:=x) W (j:=a) (by rw[hp];exact List.mem_append_right _ (List.mem_cons_self ..)) c' (by
    refine Nat.le_trans ?_ hl;rw[hp,List.flatMap_append,List.length_append,List.flatMap_cons,List.length_append];exact Nat.add_le_add_left (Nat.le_add_right ..) _)
   refine⟨_,_,e2,es2,V.tw a,o2,?_⟩;rw[List.flatMap_append,List.flatMap_cons,List.flatMap_nil,List.append_nil];exact c2)
 exact⟨es,j,o,fun i=>by rw[c.get,zlh W.nd hK],e⟩
end
noncomputable def ddp (l:List (List Nat)) (k:Nat):List (List Nat):=((List.range k).filter fun i=>!decide (l.getD i []∈l.take i)).map fun i=>l.getD i []
theorem zmO (l:List (List Nat)) (k:Nat):ddp l (k+1)=if l.getD k []∈l.take k then ddp l k else ddp l k++[l.getD k []]:=by
 unfold ddp;rw[List.range_succ,List.filter_append,List.map_append]
 by_cases e:l.getD k []∈l.take k
 ·rw[if_pos e,List.filter_cons_of_neg (by rw[decide_eq_true e];decide)];exact List.append_nil _
 ·rw[if_neg e,List.filter_cons_of_pos (by rw[decide_eq_false e];rfl)];rfl
theorem zdq (l:List (List Nat)):∀ k,k≤l.length→(ddp l k).Nodup∧∀ x,x∈ddp l k↔x∈l.take k
 |0,_=>⟨.nil,fun x=>⟨fun h=>(nomatch h),fun h=>(nomatch h)⟩⟩
 |k+1,hk=>by
  obtain⟨h1,h2⟩:=zdq l k (Nat.le_of_succ_le hk);have e:l.take (k+1)=l.take k++[l.getD k []]:=by
   rw[List.take_succ_eq_append_getElem hk,List.getD_eq_getElem?_getD,List.getElem?_eq_getElem hk];rfl
  rw[zmO,e];generalize l.getD k []=y at *
  by_cases hy:y∈l.take k
  ·rw[if_pos hy]
   refine⟨h1,fun x=>?_⟩;rw[h2,List.mem_append,List.mem_singleton];exact⟨.inl,fun q=>q.elim id fun e=>e ▸ hy⟩
  ·rw[if_neg hy]
   refine⟨?_,fun x=>by rw[List.mem_append,List.mem_append,h2]⟩
   rw[List.nodup_append];exact⟨h1,by simp,fun x hx z hz e=>hy (by rw[List.mem_singleton.1 hz] at e;rw[←e];exact(h2 x).1 hx)⟩
noncomputable def ends2 (B:List (List Nat)):List (List Nat):=B.map pre++B.map suf
noncomputable def JS (B:List (List Nat)):List (List Nat):=srt (ddp (ends2 B) (ends2 B).length)
theorem ziD (B:List (List Nat)):(ddp (ends2 B) (ends2 B).length).Nodup:=(zdq _ _ (Nat.le_refl _)).1
theorem zno {B:List (List Nat)}{x:List Nat}:x∈ddp (ends2 B) (ends2 B).length↔isJ B x:=by
 rw[(zdq _ _ (Nat.le_refl _)).2,List.take_length];unfold ends2 isJ;rw[List.mem_append,List.mem_map,List.mem_map]
 constructor
 ·rintro(⟨w,hw,e⟩|⟨w,hw,e⟩)
  ·exact⟨w,hw,.inl e.symm⟩
  ·exact⟨w,hw,.inr e.symm⟩
 ·rintro⟨w,hw,e|e⟩
  ·exact .inl ⟨w,hw,e.symm⟩
  ·exact .inr ⟨w,hw,e.symm⟩
theorem zfI {B:List (List Nat)}{x:List Nat}:x∈JS B↔isJ B x:=zhE.trans zno
theorem zrq {B K:List (List Nat)}(hn:K.Nodup) (hK:∀ j,j∈K↔isJ B j):srt K=JS B:=zlN hn (ziD B) fun x=>(hK x).trans zno.symm
theorem zm4 (B:List (List Nat)):(JS B).Nodup:=(zcq _).nodup_iff.2 (ziD B)
structure JB (B:List (List Nat)):Prop where
 few:∀ K:List (List Nat),K.Nodup→(∀ j∈K,isJ B j)→K.length < 64
 flat:∀ K:List (List Nat),K.Nodup→(∀ j∈K,isJ B j)→K.length < 2∨∀ t∈K,t≠[]
 ne:B≠[]
 cnt:B.length < 64
theorem zoh (w:List Nat):(pre w).length=w.length - 1:=by unfold pre;rw[List.length_take,Nat.min_eq_left (Nat.sub_le ..)]
theorem zhD (w:List Nat):(suf w).length=w.length - 1:=by unfold suf;rw[List.length_drop]
theorem zkS {B:List (List Nat)}{Z:Nat}(hz:∀ w∈B,w.length=Z){j:List Nat}(hj:isJ B j):j.length=Z - 1:=by
 obtain⟨w,hw,rfl|rfl⟩:=hj
 ·rw[zoh,hz w hw]
 ·rw[zhD,hz w hw]
theorem GB.jb {S Z:Nat}{B:List (List Nat)}(b:GB S Z B) (hZ:1≤Z):JB B:=by
 refine⟨fun K hn hK=>?_,fun K hn hK=>?_,b.ne,Nat.lt_of_le_of_lt b.cnt (by decide)⟩
 ·obtain⟨B0,x,b0,hx⟩:=b.few
  exact Nat.lt_of_le_of_lt (zjn b0 hZ hx hn hK) (by decide)
 ·rcases Nat.eq_or_lt_of_le hZ with e|e
  ·refine .inl (Nat.lt_succ_of_le (within (b:=[[]]) hn fun x hx=>?_))
   have:=zkS b.len (hK x hx);rw[←e] at this;rw[List.eq_nil_of_length_eq_zero this];exact List.mem_cons_self ..
  ·refine .inr fun t ht q=>?_
   have:=zkS b.len (hK t ht);rw[q] at this;exact absurd this (Nat.ne_of_lt (Nat.sub_pos_of_lt e))
def Least (B:List (List Nat)) (m:List Nat):Prop:=m∈B∧∀ t∈B,wlt t m=false
theorem Least.eq {B:List (List Nat)}{a b:List Nat}(ha:Least B a) (hb:Least B b):a=b:=zf3.tot _ _ (hb.2 a ha.1) (ha.2 b hb.1)
theorem zlO {B:List (List Nat)}(hB:B≠[]):∃ m rest,srt B=m::rest∧Least B m:=by
 have hu:=zj4 B;have hp:=zcq B
 cases hs:srt B with
 |nil=>rw[hs] at hp;exact absurd (List.nil_perm.1 hp) hB
 |cons m rest =>
  rw[hs] at hu hp;refine⟨m,rest,rfl,hp.mem_iff.1 (List.mem_cons_self ..),fun t ht=>?_⟩
  rcases List.mem_cons.1 (hp.mem_iff.2 ht) with rfl|h
  ·exact zf3.irr _
  ·exact(List.pairwise_cons.1 hu).1 t h
inductive Lack (b:Nat) (B:List (List Nat)) (v:V) (g:H):Prop
 |uneven (c:Nat) (j:List Nat) (p q:List (List Nat)) (e:v=.tup [.str "uneven",.ref c]) (lo:b≤c) (at':g[c]?=some (.list (V.nats j))) (js:JS B=p++j::q) (ev:∀ i∈p,ins B i=outs B i) (ne:ins B j≠outs B j)
 |apart (c:Nat) (m:List Nat) (M:List (List Nat)) (e:v=.tup [.str "apart",.ref c]) (lo:b≤c) (at':g[c]?=some (.list (V.lists (srt M)))) (ev:∀ i∈JS B,ins B i=outs B i) (le:Least B m) (nd:M.Nodup) (mem:∀ x,x∈M↔Rch B (pre m) x) (lt:M.length < (JS B).length)
 |fine (m:List Nat) (M:List (List Nat)) (e:v=.none) (ev:∀ i∈JS B,ins B i=outs B i) (le:Least B m) (nd:M.Nodup) (mem:∀ x,x∈M↔Rch B (pre m) x) (ge:¬ M.length < (JS B).length)
theorem zkm {B K:List (List Nat)}(hn:K.Nodup) (hK:∀ w∈B,pre w∈K):(K.flatMap (tails B)).length=B.length:=by
 have p:(K.flatMap fun k=>B.filter fun w=>decide (pre w=k)).Perm B:=List.perm_iff_count.2 fun w=>by
  rw[zc6 w hn]
  by_cases h:pre w∈K
  ·rw[if_pos h]
  ·rw[if_neg h];exact(List.count_eq_zero.2 fun q=>h (hK w q)).symm
 have e:K.flatMap (tails B)=(K.flatMap fun k=>B.filter fun w=>decide (pre w=k)).map suf:=by
  rw[List.map_flatMap];rfl
 rw[e,List.length_map,p.length_eq]
section
variable {P:Tab}{n b d:Nat}{h g:H}{F:Fn}{ρ:List V}{K:List (List Nat)}{r:List Nat→Nat}{B:List (List Nat)}{s:List Nat}
theorem callT {f:String}{args:List PE}{vs:List V}{v:V}{h' h'':H}(ea:evEs true F ρ args h=.ok vs h'') (hc:F true f vs h''=.ok v h'):evE true F ρ (.call true f args) h=.ok v h':=by
 rw[zaq,ea,R.bind_ok];exact hc
theorem ziq {α:Type}{F:Fn}{t:Watch}{x:Nat}{it:PIt}{body:List PS}{ρ:List V}{h h':H}{l:List α}{c:α→V}(Inv:List α→List V→H→Prop) (Post:V→List V→H→Prop)
  (hi:evIt true F ρ it h=.ok (l.map c,t) h') (hw:∀ p ρ g,Inv p ρ g→t.ok g=true) (h0:Inv [] ρ h')
  (hb:∀ p a q ρ g,l=p++a::q→Inv p ρ g→(∃ ρ' g',exSs true F body (ρ.set x (c a)) g=.ok .next ρ' g'∧Inv (p++[a]) ρ' g')∨∃ v ρ' g',exSs true F body (ρ.set x (c a)) g=.ok (.ret v) ρ' g'∧Post v ρ' g') :
  (∃ ρ' g',exS true F (.for1 x it body) ρ h=.ok .next ρ' g'∧Inv l ρ' g')∨∃ v ρ' g',exS true F (.for1 x it body) ρ h=.ok (.ret v) ρ' g'∧Post v ρ' g':=by
 rw[s_for1',if_neg (by decide),hi,R.st_ok]
 have key:∀ (q p:List α) (ρ:List V) (g:H),l=p++q→Inv p ρ g→(∃ ρ' g',forL t (bind1 x) (fun ρ h=>exSs true F body ρ h) (q.map c) ρ g=.ok .next ρ' g'∧Inv l ρ' g')∨∃ v ρ' g',forL t (bind1 x) (fun ρ h=>exSs true F body ρ h) (q.map c) ρ g=.ok (.ret v) ρ' g'∧Post v ρ' g':=by
  intro q
  induction q with
  |nil=>intro p ρ g e hi;rw[List.append_nil] at e;subst e;exact .inl ⟨ρ,g,by rw[List.map_nil,zns,if_pos (hw _ _ _ hi)],hi⟩
  |cons a q ih =>
   intro p ρ g e hi;have st:∀ R,(exSs true F body (ρ.set x (c a)) g).then (fun ρ h=>forL t (bind1 x) (fun ρ h=>exSs true F body ρ h) (q.map c) ρ h)=R→forL t (bind1 x) (fun ρ h=>exSs true F body ρ h) ((a::q).map c) ρ g=R:=fun R e=>by
    rw[List.map_cons,zk3,if_pos (hw _ _ _ hi)];exact e
   rcases hb p a q ρ g e hi with⟨ρ1,g1,e1,i1⟩|⟨v,ρ1,g1,e1,i1⟩
   ·rcases ih (p++[a]) ρ1 g1 (by rw[e,List.append_assoc];rfl) i1 with⟨ρ2,g2,e2,i2⟩|⟨v,ρ2,g2,e2,i2⟩
    ·exact .inl ⟨ρ2,g2,st _ (by rw[e1,RS.then_next];exact e2),i2⟩
    ·exact .inr ⟨v,ρ2,g2,st _ (by rw[e1,RS.then_next];exact e2),i2⟩
   ·exact .inr ⟨v,ρ1,g1,st _ (by rw[e1];rfl),i1⟩
 exact key l [] ρ h' rfl h0
theorem zkw {st:PS}{ss:List PS}{v:V}{ρ':List V}{g':H}(e:exS true F st ρ h=.ok (.ret v) ρ' g'):(exSs true F (st::ss) ρ h).out=.ok v g':=by rw[ss_cons',e];rfl
theorem Ways.app {T:List Nat→List V}(W:Ways b g d K r T) (k:H):Ways b (g++k) d K r T:=⟨zck W.dc,fun j hj=>zck (W.ls j hj),W.nd,W.inj,W.lo⟩
theorem zkF {a:PE}{i:Nat}{es:List (V × V)}(ea:evE true F ρ a h=.ok (.ref i) h) (hd:h[i]?=some (.dict es)):evE true F ρ (.bf .len a) h=.ok (.int es.length) h:=by
 rw[zmZ (f:=.len) rfl,ea,R.bind_ok];show R.opt (match h[i]? with|some (.list vs)=>some (V.int vs.length)|some (.dict es)=>some (.int es.length)|none=>Option.none) h=_
 rw[hd];rfl
noncomputable def unBody:List PS:=[
  .ifs (.cmp .ne (.get (.var 2) (.var 3) (.int 0)) (.bf .len (.idx (.var 1) (.var 3)))) [
   .ret (.tup [.str "uneven",.own (.bf .list (.var 3))])] []]
theorem zqR (W:Ways b g d K r (tV B)){j:List Nat}(hj:j∈K){bv o f x:V}{e:Nat}{es:List (V × V)}(he:g[e]?=some (.dict es)) (hc:∀ j,(dfind (V.tw j) es).getD (.int 0)=.int (ins B j)) :
  evE true F (Ea bv d e (V.tw j) o f x) (.cmp .ne (.get (.var 2) (.var 3) (.int 0)) (.bf .len (.idx (.var 1) (.var 3)))) g=.ok (.bool (!decide (ins B j=outs B j))) g:=by
 have e1:=(znr (F:=F) (ρ:=Ea bv d e (V.tw j) o f x) (o:=.var 2) (k:=.var 3) (t:=j) rfl rfl he).trans (by rw[hc])
 have e2:evE true F (Ea bv d e (V.tw j) o f x) (.idx (.var 1) (.var 3)) g=.ok (.ref (r j)) g:=by
  rw[zar,show evE true F (Ea bv d e (V.tw j) o f x) (.var 1) g=.ok (.ref d) _ from rfl,R.bind_ok,show evE true F (Ea bv d e (V.tw j) o f x) (.var 3) g=.ok (V.tw j) _ from rfl,R.bind_ok,zd9 (v:=.ref (r j)) W.dc (by rw[zbQ,if_pos hj])];rfl
 have e3:=(zbk e2 (zaa (W.ls j hj))).trans (by unfold tV;rw[tups_len,zj0])
 exact znx e1 e3 (by rw[pyEq_int,decide_eq_decide.2 Int.natCast_inj])
theorem znL (W:Ways b g d K r (tV B)){j:List Nat}(hj:j∈K){bv o f x:V}{e:Nat}{es:List (V × V)}(he:g[e]?=some (.dict es)) (hc:∀ j,(dfind (V.tw j) es).getD (.int 0)=.int (ins B j)) :
  exSs true F unBody (Ea bv d e (V.tw j) o f x) g=if ins B j=outs B j then .ok .next (Ea bv d e (V.tw j) o f x) g else .ok (.ret (.tup [.str "uneven",.ref g.length])) (Ea bv d e (V.tw j) o f x) (g++[.list (V.nats j)]):=by
 have t:=zqR (F:=F) (bv:=bv) (o:=o) (f:=f) (x:=x) W hj he hc;unfold unBody
 by_cases q:ins B j=outs B j
 ·rw[decide_eq_true q] at t
  rw[if_pos q,zcG t];rfl
 ·rw[decide_eq_false q] at t
  rw[if_neg q,zc0 t];rfl
end
section
variable {P:Tab}{n b d:Nat}{h g:H}{F:Fn}{ρ:List V}{K:List (List Nat)}{r:List Nat→Nat}{B:List (List Nat)}{s:List Nat}
theorem znk {a:PE}{bv:V}{L:List (V × List Nat)}(ea:evE true F ρ a h=.ok bv h) (hb:HB h bv L) (hL:L≠[]):∃ q∈L,evE true F ρ (.bf .min a) h=.ok q.1 h∧Least (L.map (·.2)) q.2:=by
 cases L with
 |nil=>exact absurd rfl hL
 |cons p L =>
  obtain⟨q,hq,e,hm⟩:=zkA hb.wd;refine⟨q,hq,?_,List.mem_map.2 ⟨q,hq,rfl⟩,fun t ht=>?_⟩
  ·rw[zmZ (f:=.min) rfl,ea,R.bind_ok]
   show R.opt ((litems h bv).bind (minVs h)) h=_;rw[hb.it,Option.bind_some,e];rfl
  ·obtain⟨x,hx,rfl⟩:=List.mem_map.1 ht
   exact hm x hx
theorem zm3 {i:Nat}{M:List (List Nat)}{x:V}{w1 w2 w3 w4 w5:V}(hd:g[i]?=some (.dict (dk tt M))) (h64:M.length < 64) (h0:M.length < 2∨∀ t∈M,t≠[]):evE true F [w1,w2,w3,w4,w5,.ref i,x] (.own (.comp (.bf .list (.var 6)) 6 (.seq (.bf .sorted (.var 5))) .none)) g=.ok (.ref g.length) (g++[.list (V.lists (srt M))]):=by
 refine zdS ?_;refine zdB (l:=srt M) (c:=V.tw) (t:=Option.none) (zfw (vs:=tups (srt M)) (zbN (a:=.var 5) (v:=.ref i) (vs:=tups M) rfl (by rw[zeq hd,zh4]) (zeo g M h64 h0))) rfl (fun t=>.lst (V.nats t)) (fun a z_=>rfl) (zcH ?_)
 rw[List.length_map,zj5];exact Nat.le_trans (Nat.le_of_lt h64) (by decide)
inductive InvU (G:H) (bv:V) (d e:Nat) (o:V) (B p:List (List Nat)):List V→H→Prop
 |mk (w:V) (ev:∀ i∈p,ins B i=outs B i):InvU G bv d e o B p (Ea bv d e w o .undef .undef) G
inductive EndU (G:H) (B:List (List Nat)):V→H→Prop
 |mk (j:List Nat) (p q:List (List Nat)) (hpq:JS B=p++j::q) (hp:∀ i∈p,ins B i=outs B i) (hj:ins B j≠outs B j):EndU G B (.tup [.str "uneven",.ref G.length]) (G++[.list (V.nats j)])
theorem zmn (u:za2 P){bv:V}{L:List (V × List Nat)}(hb:HB h bv L) (jb:JB (L.map (·.2))):∃ v g',run P (n+2) true "lack_of" [bv] h=.ok v g'∧Ext h g'∧Lack h.length (L.map (·.2)) v g':=by
 have hv:=(zbY hb.it).val;have hL:L.length < 64:=by have:=jb.cnt;rw[List.length_map] at this;exact this
 obtain⟨g,K,r,e1,x1,W,hK⟩:=zjk (n:=n) u.onward hb (Nat.le_trans (Nat.le_of_lt hL) (by decide))
 generalize hB:L.map (·.2)=B at *
 have hpre:∀ w∈B,pre w∈K:=fun w hw=>(hK _).2 ⟨w,hw,.inl rfl⟩;obtain⟨es,j0,o0,hes,e2⟩:=zmH (F:=run P (n+1)) (bv:=bv) (f:=.undef) (x:=.undef) W hpre (by rw[zkm W.nd hpre];exact Nat.le_trans (Nat.le_of_lt jb.cnt) (by decide))
 have W2:=W.app [.dict es];have x2:=x1.app [.dict es];have hE:(g++[Cell.dict es])[g.length]?=some (.dict es):=zbs _ _;have hJ:srt K=JS B:=zrq W.nd hK;have k64:=jb.few K W.nd fun j hj=>(hK j).1 hj;have kfl:=jb.flat K W.nd fun j hj=>(hK j).1 hj;have go:∀ res,(exSs true (run P (n+1)) (zcT.body.drop 3) (Ea bv h.length g.length j0 o0 .undef .undef) (g++[.dict es])).out=res→run P (n+2) true "lack_of" [bv] h=res:=fun res hres =>
  start u.self rfl (ρ:=[bv,.undef,.undef,.undef,.undef,.undef,.undef]) rfl (zaT (v:=.ref h.length) (h':=g) (callT (zak (zba (v:=bv) rfl hv) rfl) e1) (ρ':=[bv,.ref h.length,.undef,.undef,.undef,.undef,.undef]) rfl (zaT (v:=.ref g.length) (h':=g++[Cell.dict []]) rfl (ρ':=Ea bv h.length g.length .undef .undef .undef .undef) rfl (zcM e2 hres)))
 generalize hG:g++[Cell.dict es]=G at *
 have ie:evIt true (run P (n+1)) (Ea bv h.length g.length j0 o0 .undef .undef) (.seq (.bf .sorted (.var 1))) G=.ok ((JS B).map V.tw,Option.none) G:=by
  rw[←hJ];exact zfw (zbN (a:=.var 1) (v:=.ref h.length) (vs:=tups K) rfl (by rw[zeq W2.dc,zh4]) (zeo G K k64 kfl))
 have inK:∀ j∈JS B,j∈K:=fun j hj=>(hK j).2 (zfI.1 hj)
 rcases ziq (F:=run P (n+1)) (x:=3) (body:=unBody) (InvU G bv h.length g.length o0 B) (fun v z_=>EndU G B v) ie (fun z_ z_ z_ z_=>rfl) ⟨j0,fun z_ h=>nomatch h⟩ (fun p j q ρ g' hp I=>by
  obtain⟨w,ev⟩:=I;have x:=znL (F:=run P (n+1)) (bv:=bv) (o:=o0) (f:=.undef) (x:=.undef) W2 (inK j (by rw[hp];exact List.mem_append_right _ (List.mem_cons_self ..))) hE hes
  by_cases hj:ins B j=outs B j
  ·rw[if_pos hj] at x
   refine .inl ⟨_,_,x,_,fun i hi=>?_⟩
   rcases List.mem_append.1 hi with hi|hi
   ·exact ev i hi
   ·rw[List.mem_singleton.1 hi];exact hj
  ·rw[if_neg hj] at x
   exact .inr ⟨_,_,_,x,j,p,q,hp,ev,hj⟩) with⟨ρ',g',e3,⟨w,hev⟩⟩|⟨v,ρ',g',e3,⟨j,p,q,hpq,hp,hj⟩⟩
 ·have hbG:=x2.B hb
  obtain⟨m,hm,em,le⟩:=znk (F:=run P (n+1)) (ρ:=Ea bv h.length g.length w o0 .undef .undef) (a:=.var 0) (zba rfl hv) hbG (fun e=>jb.ne (by rw[←hB,e];rfl))
  rw[hB] at le;have hs:pre m.2∈K:=hpre _ le.1;obtain⟨M,hM,hr,e4⟩:=zmS (n:=n) u.come_to W2 hK hs (Nat.le_trans (Nat.le_of_lt k64) (by decide))
  have ea:evEs true (run P (n+1)) (Ea bv h.length g.length w o0 .undef .undef) [.var 1,.bf .tuple (.slice (.bf .min (.var 0)) .none (some (.neg 1)))] G=.ok [.ref h.length,V.tw (pre m.2)] G :=
   zak rfl (zak (zdP (zdi em (hbG.wd m hm)) (IsL.lst _ _)) rfl)
  have x3:Ext h (HC G M []):=x2.app _;have lK:(JS B).length=K.length:=by rw[←hJ,zj5]
  have lt:evE true (run P (n+1)) (Ea bv h.length g.length w o0 (.ref G.length) .undef) (.cmp .lt (.bf .len (.var 5)) (.bf .len (.var 1))) (HC G M [])=.ok (.bool (decide (M.length < (JS B).length))) (HC G M []):=by
   rw[zal,zkF (a:=.var 5) rfl (zpg M []),R.bind_ok,zkF (a:=.var 1) rfl (zqQ W2.dc),R.bind_ok,zfA,zfA,cmp_lt_int,lK];exact congrArg (fun x=>R.ok (V.bool x) _) (decide_eq_decide.2 Int.ofNat_lt)
  have go2:∀ res,(exSs true (run P (n+1)) (zcT.body.drop 5) (Ea bv h.length g.length w o0 (.ref G.length) .undef) (HC G M [])).out=res→run P (n+2) true "lack_of" [bv] h=res:=fun res hres =>
   go res (zcM e3 (zaT (callT ea e4) (ρ':=Ea bv h.length g.length w o0 (.ref G.length) .undef) rfl hres))
  by_cases hlt:M.length < (JS B).length
  ·rw[decide_eq_true hlt] at lt
   have hMJ:∀ j∈M,isJ B j:=fun j hj=>((hr j).1 hj).isJ ((hK _).1 hs);refine⟨_,_,go2 _ (zgT lt (zbw (v:=.tup [.str "apart",.ref (HC G M []).length]) (h':=HC G M []++[.list (V.lists (srt M))]) ?_)),x3.app _,.apart (HC G M []).length m.2 M rfl x3.len (zbs _ _) hev le hM hr hlt⟩;have e6:=zm3 (F:=run P (n+1)) (x:=.undef) (w1:=bv) (w2:=.ref h.length) (w3:=.ref g.length) (w4:=w) (w5:=o0) (zpg (g:=G) M []) (jb.few M hM hMJ) (jb.flat M hM hMJ)
   rw[zaJ,zcK,zb6,R.bind_ok,zcK,e6];rfl
  ·rw[decide_eq_false hlt] at lt
   exact⟨.none,_,go2 _ (zb1 lt (zbw rfl)),x3,.fine m.2 M rfl hev le hM hr hlt⟩
 ·exact⟨_,_,go _ (zkw e3),x2.app [.list (V.nats j)],.uneven G.length j p q rfl x2.len (zbs _ _) hpq hp hj⟩
end
def Bal (L:List (List Nat)) (j s:List Nat):Prop:=∀ x,outs L x+(if x=s then 1 else 0)=ins L x+(if x=j then 1 else 0)
noncomputable def cP (L A:List (List Nat)):Nat:=(L.filter fun w=>decide (pre w∈A)).length
noncomputable def cS (L A:List (List Nat)):Nat:=(L.filter fun w=>decide (suf w∈A)).length
theorem ziW {f:List Nat→List Nat}{x:List Nat}{A:List (List Nat)}(hx:x ∉ A):∀ L:List (List Nat),(L.filter fun w=>decide (f w∈x::A)).length=(L.filter fun w=>decide (f w=x)).length+(L.filter fun w=>decide (f w∈A)).length
 |[]=>rfl
 |w::L=>by
  have ih:=ziW (f:=f) hx L;have pos:∀ (p:List Nat→Bool),p w=true→((w::L).filter p).length=(L.filter p).length+1:=fun p h=>by rw[List.filter_cons_of_pos h];rfl
  have neg:∀ (p:List Nat→Bool),p w=false→((w::L).filter p).length=(L.filter p).length:=fun p h=>by rw[List.filter_cons_of_neg (by rw[h];exact Bool.false_ne_true)]
  by_cases h1:f w=x
  ·rw[pos (fun w=>decide (f w∈x::A)) (decide_eq_true (by rw[h1];exact List.mem_cons_self ..)),pos (fun w=>decide (f w=x)) (decide_eq_true h1),neg (fun w=>decide (f w∈A)) (decide_eq_false (by rw[h1];exact hx)),ih];exact Nat.add_right_comm _ _ _
  ·rw[neg (fun w=>decide (f w=x)) (decide_eq_false h1)]
   by_cases h2:f w∈A
   ·rw[pos (fun w=>decide (f w∈x::A)) (decide_eq_true (List.mem_cons_of_mem _ h2)),pos (fun w=>decide (f w∈A)) (decide_eq_true h2),ih];rfl
   ·rw[neg (fun w=>decide (f w∈x::A)) (decide_eq_false fun q=>(List.mem_cons.1 q).elim h1 h2),neg (fun w=>decide (f w∈A)) (decide_eq_false h2),ih]
theorem Bal.sum {L:List (List Nat)}{j s:List Nat}(b:Bal L j s):∀ {A:List (List Nat)},A.Nodup→cP L A+(if s∈A then 1 else 0)=cS L A+(if j∈A then 1 else 0)
 |[],_=>by
  have:∀ f:List Nat→List Nat,(L.filter fun w=>decide (f w∈([]:List (List Nat))))=[]:=fun f=>List.filter_eq_nil_iff.2 fun w z_=>by simp
  unfold cP cS;rw[this,this];rfl
 |x::A,hn=>by
  rw[List.nodup_cons] at hn;have ih:=b.sum hn.2;have hb:=b x;unfold outs ins at hb;unfold cP cS at *
  rw[ziW hn.1,ziW hn.1];have e:∀ y:List Nat,(if y∈x::A then 1 else 0)=(if x=y then 1 else 0)+(if y∈A then 1 else 0:Nat):=fun y=>by
   by_cases h1:x=y
   ·rw[if_pos h1,if_pos (by rw[h1];exact List.mem_cons_self ..),if_neg (by rw[←h1];exact hn.1)]
   ·rw[if_neg h1,Nat.zero_add]
    by_cases h2:y∈A
    ·rw[if_pos h2,if_pos (List.mem_cons_of_mem _ h2)]
    ·rw[if_neg h2,if_neg fun q=>(List.mem_cons.1 q).elim (fun q=>h1 q.symm) h2]
  rw[e,e,Nat.add_add_add_comm,hb,ih,Nat.add_add_add_comm]
theorem zhj {f:List Nat→Bool}{L:List (List Nat)}{e:List Nat}(he:e∈L):(L.filter f).length=((L.erase e).filter f).length+(if f e=true then 1 else 0):=by
 have p:=(List.perm_cons_erase he).filter f;rw[p.length_eq]
 by_cases h:f e=true
 ·rw[List.filter_cons_of_pos h,if_pos h];rfl
 ·rw[List.filter_cons_of_neg h,if_neg h];rfl
theorem Bal.step {L:List (List Nat)}{j s e:List Nat}(b:Bal L j s) (he:e∈L) (hj:pre e=j):Bal (L.erase e) (suf e) s:=fun x=>by
 have hb:=b x;unfold outs ins at *
 rw[zhj (f:=fun w=>decide (pre w=x)) he,zhj (f:=fun w=>decide (suf w=x)) he] at hb;have e1:(if decide (pre e=x)=true then 1 else 0:Nat)=if x=j then 1 else 0:=by
  by_cases h:x=j
  ·rw[if_pos h,if_pos (decide_eq_true (by rw[hj,h]))]
  ·rw[if_neg h,if_neg (by rw[decide_eq_false fun q=>h (q.symm.trans hj)];exact Bool.false_ne_true)]
 have e2:(if decide (suf e=x)=true then 1 else 0:Nat)=if x=suf e then 1 else 0:=by
  by_cases h:x=suf e
  ·rw[if_pos h,if_pos (decide_eq_true h.symm)]
  ·rw[if_neg h,if_neg (by rw[decide_eq_false fun q=>h q.symm];exact Bool.false_ne_true)]
 rw[e1,e2] at hb;exact Nat.add_right_cancel ((Nat.add_right_comm _ _ _).trans hb)
def AllR (L:List (List Nat)) (j:List Nat):Prop:=∀ w∈L,Rch L j (pre w)
def Good (L:List (List Nat)) (e:List Nat):Prop:=AllR (L.erase e) (suf e)
theorem zlY (L:List (List Nat)) (s:List Nat):∃ A:List (List Nat),A.Nodup∧∀ x,x∈A↔Rch L s x:=by
 have h:=Classical.propDecidable;refine⟨(ddp (s::L.map suf) (s::L.map suf).length).filter fun x=>@decide (Rch L s x) (h _),(zdq _ _ (Nat.le_refl _)).1.filter _,fun x=>?_⟩;rw[List.mem_filter,(zdq _ _ (Nat.le_refl _)).2,List.take_length,decide_eq_true_eq];refine⟨And.right,fun r=>⟨?_,r⟩⟩
 cases r with
 |base=>exact List.mem_cons_self ..
 |step hw _=>exact List.mem_cons_of_mem _ (List.mem_map.2 ⟨_,hw,rfl⟩)
theorem zma {L:List (List Nat)}{j x:List Nat}(r:Rch L j x):x=j∨∃ e∈L,pre e=j:=by
 induction r with
 |base=>exact .inl rfl
 |step hw _ ih=>exact .inr (ih.elim (fun e=>⟨_,hw,e⟩) id)
theorem back {L:List (List Nat)}{j e:List Nat}(ar:AllR L j) (h:Rch (L.erase e) (suf e) j):Good L e:=by
 intro w hw;have key:∀ x,Rch L j x→Rch (L.erase e) (suf e) x:=fun x r=>by
  induction r with
  |base=>exact h
  |@step w' hw' _ ih =>
   by_cases q:w'=e
   ·rw[q];exact .base
   ·exact .step ((List.mem_erase_of_ne q).2 hw') ih
 exact key _ (ar w (List.mem_of_mem_erase hw))
theorem shut {L:List (List Nat)}{j s e:List Nat}(b:Bal L j s) (he:e∈L) (hj:pre e=j) (h:¬ Rch (L.erase e) (suf e) j):Rch (L.erase e) (suf e) s∧∀ w∈L.erase e,Rch (L.erase e) (suf e) (suf w)→Rch (L.erase e) (suf e) (pre w):=by
 obtain⟨A,nd,mem⟩:=zlY (L.erase e) (suf e);have hs:=(b.step he hj).sum nd;rw[if_pos ((mem _).2 .base)] at hs;have sub:∀ w∈L.erase e,decide (pre w∈A)=true→decide (suf w∈A)=true:=fun w hw q=>decide_eq_true ((mem _).2 (.step hw ((mem _).1 (of_decide_eq_true q))));have le:cP (L.erase e) A≤cS (L.erase e) A:=by
  unfold cP cS;rw[←List.countP_eq_length_filter,← List.countP_eq_length_filter];exact List.countP_mono_left sub
 have s1:s∈A:=Classical.byContradiction fun q=>by rw[if_neg q] at hs;exact absurd hs (Nat.ne_of_lt (Nat.lt_succ_of_le le))
 rw[if_pos s1] at hs;refine⟨(mem s).1 s1,fun w hw r=>Classical.byContradiction fun q=>?_⟩;have:=zeQ (p:=fun w=>decide (pre w∈A)) (q:=fun w=>decide (suf w∈A)) sub ⟨w,hw,decide_eq_false fun m=>q ((mem _).1 m),decide_eq_true ((mem _).2 r)⟩;rw[List.countP_eq_length_filter,List.countP_eq_length_filter] at this;exact absurd (Nat.succ.inj hs) (Nat.ne_of_lt this)
theorem zjp {L:List (List Nat)}{s e:List Nat}(b:Bal L s s) (ar:AllR L s) (he:e∈L) (hs:pre e=s):Good L e :=
 Classical.byContradiction fun q=>(fun h=>q (back ar (shut b he hs h).1)) fun h=>q (back ar h)
theorem zkW {L:List (List Nat)}{j s:List Nat}(nd:L.Nodup) (b:Bal L j s) (ar:AllR L j) (hL:L≠[]):∃ e∈L,pre e=j∧Good L e:=by
 obtain⟨e1,h1,p1⟩:∃ e∈L,pre e=j:=by
  cases L with
  |nil=>exact absurd rfl hL
  |cons w L=>exact(zma (ar w (List.mem_cons_self ..))).elim (fun e=>⟨w,List.mem_cons_self ..,e⟩) id
 by_cases h2:∃ e∈L,pre e=j∧e≠e1
 ·obtain⟨e2,h2,p2,ne⟩:=h2
  by_cases q1:Rch (L.erase e1) (suf e1) j
  ·exact⟨e1,h1,p1,back ar q1⟩
  ·by_cases q2:Rch (L.erase e2) (suf e2) j
   ·exact⟨e2,h2,p2,back ar q2⟩
   ·obtain⟨s1,w1⟩:=shut b h1 p1 q1
    obtain⟨s2,_⟩:=shut b h2 p2 q2;have key:∀ x,Rch (L.erase e2) (suf e2) x→¬ Rch (L.erase e1) (suf e1) x:=fun x r=>by
     induction r with
     |base=>exact fun q=>q1 (by rw[←p2];exact w1 e2 ((List.mem_erase_of_ne ne).2 h2) q)
     |@step w hw r ih =>
      by_cases q:w=e1
      ·rw[q,p1] at r;exact absurd r q2
      ·exact fun t=>ih (w1 w ((List.mem_erase_of_ne q).2 (List.mem_of_mem_erase hw)) t)
    exact absurd s1 (key s s2)
 ·refine⟨e1,h1,p1,fun w hw=>?_⟩
  have only:∀ e∈L,pre e=j→e=e1:=fun e he hp=>Classical.byContradiction fun q=>h2 ⟨e,he,hp,q⟩;have key:∀ x,Rch L j x→x=j∨Rch (L.erase e1) (suf e1) x:=fun x r=>by
   induction r with
   |base=>exact .inl rfl
   |@step w' hw' _ ih =>
    by_cases q:w'=e1
    ·rw[q];exact .inr .base
    ·refine .inr (.step ((List.mem_erase_of_ne q).2 hw') (ih.resolve_left fun h=>q (only w' hw' h)))
  have hw':=List.mem_of_mem_erase hw;refine(key _ (ar w hw')).resolve_left fun h=>?_;rw[only w hw' h] at hw;exact(List.Nodup.not_mem_erase nd) hw
theorem Bal.nil {j s:List Nat}(b:Bal [] j s):j=s:=by
 have:=b s;rw[if_pos rfl] at this
 by_cases h:s=j
 ·exact h.symm
 ·rw[if_neg h] at this;exact absurd this (show ¬ 0+1=0+0 by decide)
noncomputable def lst (w:List Nat):Nat:=w.getD (w.length - 1) 0
theorem zex (j:List Nat) (s:Nat):pre (j++[s])=j:=by
 unfold pre;rw[List.length_append,List.length_singleton,Nat.add_sub_cancel,List.take_left'];rfl
theorem znl (j:List Nat) (s:Nat):lst (j++[s])=s:=by
 unfold lst;rw[List.length_append,List.length_singleton,Nat.add_sub_cancel,List.getD_eq_getElem?_getD,List.getElem?_append_right (Nat.le_refl _),Nat.sub_self];rfl
theorem zb8 {w:List Nat}(h:0 < w.length):pre w++[lst w]=w:=by
 have e:=List.take_append_drop (w.length - 1) w;have hl:w.length - 1 < w.length:=Nat.sub_lt h Nat.one_pos;rw[List.drop_eq_getElem_cons hl,Nat.sub_add_cancel h,List.drop_length] at e;unfold pre lst;rw[List.getD_eq_getElem?_getD,List.getElem?_eq_getElem hl];exact e
theorem zm8 {j:List Nat}{a b:Nat}(e:j++[a]=j++[b]):a=b:=by
 have:=List.append_cancel_left e;exact(List.cons.inj this).1
structure Lf (b:Nat) (g:H) (d:Nat) (K:List (List Nat)) (r:List Nat→Nat) (C:List Nat→List Nat) (L:List (List Nat)):Prop where
 W:Ways b g d K r fun j=>V.nats (C j)
 nd:∀ j,(C j).Nodup
 mem:∀ j s,s∈C j↔j++[s]∈L
 inK:∀ j,j ∉ K→C j=[]
theorem zne {C:List Nat→List Nat}{L:List (List Nat)}(nd:∀ j,(C j).Nodup) (mem:∀ j s,s∈C j↔j++[s]∈L) (hL:L.Nodup) (h0:∀ w∈L,0 < w.length) (j:List Nat):(C j).length=outs L j:=by
 have p:((C j).map fun s=>j++[s]).Perm (L.filter fun w=>decide (pre w=j)):=by
  refine(List.perm_ext_iff_of_nodup ?_ (hL.filter _)).2 fun w=>?_
  ·rw[List.Nodup,List.pairwise_map]
   exact(nd j).imp fun ne e=>ne (zm8 e)
  ·rw[List.mem_map,List.mem_filter,decide_eq_true_eq]
   constructor
   ·rintro⟨s,hs,rfl⟩
    exact⟨(mem j s).1 hs,zex j s⟩
   ·rintro⟨hw,rfl⟩
    exact⟨lst w,(mem _ _).2 (by rw[zb8 (h0 w hw)];exact hw),zb8 (h0 w hw)⟩
 unfold outs;rw[←p.length_eq,List.length_map]
section
variable {P:Tab}{n b d:Nat}{h g:H}{F:Fn}{ρ:List V}{K:List (List Nat)}{r:List Nat→Nat}{C:List Nat→List Nat}{L:List (List Nat)}{s:List Nat}
theorem zkX {o k e:PE}{i:Nat}{t:List Nat}{z:V}{es:List (V × V)}(eo:evE true F ρ o h=.ok (.ref i) h) (ek:evE true F ρ k h=.ok (V.tw t) h) (ee:evE true F ρ e h=.ok z h) (hd:h[i]?=some (.dict es)):evE true F ρ (.get o k e) h=.ok ((dfind (V.tw t) es).getD z) h:=by
 have hc:dcell h (.ref i)=true:=by
  show(match h[i]? with|some (.dict _)=>true|_=>false)=true
  rw[hd]
 rw[zaC,eo,R.bind_ok,if_pos hc,ek,R.bind_ok,ee,R.bind_ok];show(match h[i]? with|some (.dict es)=>if keyOk (V.tw t) then R.ok ((dfind (V.tw t) es).getD z) h else R.bad|_=>.bad)=_
 rw[hd];show(if keyOk (V.tw t) then _ else R.bad)=_;rw[zcz,if_pos rfl]
theorem Lf.get (f:Lf b g d K r C L) (t:List Nat) (k:H):∃ v w,litems (g++k) v=some (V.nats (C t))∧(∀ k',iterOf (g++k') v=some ((C t).map fun s:Nat=>V.int s,w)∧Watch.ok w (g++k')=true) ∧
  ∀ (F:Fn) (ρ:List V) (o x:PE),evE true F ρ o (g++k)=.ok (.ref d) (g++k)→evE true F ρ x (g++k)=.ok (V.tw t) (g++k)→evE true F ρ (.get o x (.list [])) (g++k)=.ok v (g++k):=by
 by_cases ht:t∈K
 ·have hl:=f.W.ls t ht
  refine⟨.ref (r t),some (r t,.list (V.nats (C t))),zaa (zck hl),fun k'=>⟨zeL (zck hl),decide_eq_true (zck hl)⟩,fun F ρ o x eo ex=>?_⟩;rw[zkX eo ex (z:=.lst []) rfl (zck f.W.dc),zbQ,if_pos ht];rfl
 ·refine⟨.lst [],Option.none,by rw[f.inK t ht];rfl,fun k'=>⟨by rw[f.inK t ht];rfl,rfl⟩,fun F ρ o x eo ex=>?_⟩
  rw[zkX eo ex (z:=.lst []) rfl (zck f.W.dc),zbQ,if_neg ht];rfl
theorem zj2 {a c:PE}{j:List Nat}{s:Nat}(ea:evE true F ρ a h=.ok (V.tw j) h) (ec:evE true F ρ c h=.ok (.int s) h) (hj:j.length≤1000):evE true F ρ (.bin .add a (.tup [c])) h=.ok (V.tw (j++[s])) h:=by
 rw[zbF,ea,R.bind_ok,zaJ,zak ec (rfl:evEs true F ρ [] h=.ok [] h),R.bind_ok];show R.opt (mkT (V.nats j++[.int s])) h=_;rw[zp0 (by rw[List.length_append,nats_length];exact Nat.le_trans (Nat.succ_le_succ hj) (by decide))]
 unfold V.tw;rw[zam];rfl
theorem zfO {a c:PE}{j:List Nat}{s:Nat}(ea:evE true F ρ a h=.ok (V.tw j) h) (ec:evE true F ρ c h=.ok (.int s) h) (hj:j.length≤1000):evE true F ρ (.rev (.bin .add a (.tup [c]))) h=.ok (V.tw (suf (j++[s]))) h:=by
 rw[zaI,zj2 ea ec hj,R.bind_ok];have:tailOf (V.tw (j++[s]))=some (.tup ((V.nats (j++[s])).drop 1)):=if_pos (by rw[nats_length,List.length_append];exact Nat.succ_pos _)
 rw[this,zeC];rfl
noncomputable def goBody:List PS:=[
   .asg 8 (.rev (.bin .add (.var 6) (.tup [.var 7]))),
   .ifs (.cmp .notIn (.var 8) (.var 3)) [
    .setIdx (.var 3) (.var 8) (.bool true),
    .expr (.append (.var 4) (.var 8))] []]
noncomputable abbrev Eg (d g:Nat) (s:V) (many words:Int) (here sign other:V):List V:=[.ref d,s,.int many,.ref g,.ref (g+1),.int words,here,sign,other]
theorem zqe {D Wt M:List (List Nat)}{t:List Nat}{sg:Nat}{sv ov:V}{many words:Int}(c:Cm L s D Wt M) (hr:Rch L s (suf (t++[sg]))) (ht:t.length≤1000) (hM:M.length≤1000) (hW:Wt.length≤1000):∃ Wt' M',Cm L s D Wt' M'∧(∀ x∈M,x∈M')∧suf (t++[sg])∈M' ∧
  exSs true F goBody (Eg d g.length sv many words (V.tw t) (.int sg) ov) (HC g M Wt)=.ok .next (Eg d g.length sv many words (V.tw t) (.int sg) (V.tw (suf (t++[sg])))) (HC g M' Wt'):=by
 have e1:=zfO (F:=F) (ρ:=Eg d g.length sv many words (V.tw t) (.int sg) ov) (h:=HC g M Wt) (a:=.var 6) (c:=.var 7) (j:=t) (s:=sg) rfl rfl ht;generalize suf (t++[sg])=o at *
 have e:=zgU (F:=F) (ρ:=Eg d g.length sv many words (V.tw t) (.int sg) (V.tw o)) (a:=.var 8) (b:=.var 3) (t:=o) rfl rfl (zpg (g:=g) M Wt);unfold goBody;rw[zbE e1];show ∃ Wt' M',_∧_∧_∧exSs true F _ (Eg d g.length sv many words (V.tw t) (.int sg) (V.tw o)) _=_
 by_cases h:o∈M
 ·rw[decide_eq_true h] at e
  exact⟨Wt,M,c,fun x hx=>hx,h,(zcG e).trans rfl⟩
 ·rw[decide_eq_false h] at e
  refine⟨Wt++[o],M++[o],c.add h hr,fun x hx=>List.mem_append_left _ hx,List.mem_append_right _ (List.mem_cons_self ..),?_⟩;rw[zc0 e];show exSs true F [.setIdx (.var 3) (.var 8) (.bool true),.expr (.append (.var 4) (.var 8))] _ _=_;rw[zfR (o:=.var 3) (i:=.var 8) (t:=o) (v:=.bool true) rfl rfl rfl (zpg M Wt) (by rw[zfA];exact hM),dput_new h,show dk tt M++[(V.tw o,V.bool true)]=dk tt (M++[o]) from(ziR tt M o).symm,zqJ,zbD (zb0 (o:=.var 4) (a:=.var 8) (y:=V.tw o) rfl (zpf (M++[o]) Wt) rfl (by rw[tups_len];exact hW)),zd1,zm5];rfl
end
section
variable {P:Tab}{n b d:Nat}{h g:H}{F:Fn}{ρ:List V}{K:List (List Nat)}{r:List Nat→Nat}{C:List Nat→List Nat}{L:List (List Nat)}{s:List Nat}
theorem Cm.inU {D Wt M:List (List Nat)}(c:Cm L s D Wt M):M.length≤L.length+1∧(D++Wt).length≤L.length+1:=by
 have h1:∀ x∈M,x∈s::L.map suf:=fun x hx=>by
  cases c.rch x hx with
  |base=>exact List.mem_cons_self ..
  |step hw _=>exact List.mem_cons_of_mem _ (List.mem_map.2 ⟨_,hw,rfl⟩)
 have e:(s::L.map suf).length=L.length+1:=congrArg (·+1) (List.length_map ..);rw[←e];exact⟨within c.nd h1,within c.nd2 fun x hx=>h1 x ((c.mem x).2 (List.mem_append.1 hx))⟩
theorem zo6 {D:List (List Nat)}{t:List Nat}(ht:t ∉ D):cP L (D++[t])=cP L D+outs L t:=by
 have e:cP L (D++[t])=cP L (t::D):=congrArg List.length (List.filter_congr fun w z_=>decide_eq_decide.2 (by rw[List.mem_append,List.mem_singleton,List.mem_cons,or_comm]))
 rw[e,Nat.add_comm];exact ziW (f:=pre) ht L
noncomputable def zh2:List PS:=[
  .asg 6 (.pop (.var 4)),
  .asg 5 (.bin .add (.var 5) (.bf .len (.get (.var 0) (.var 6) (.list [])))),
  .for1 7 (.seq (.get (.var 0) (.var 6) (.list []))) goBody]
inductive InvG (L:List (List Nat)) (s:List Nat) (g:H) (d:Nat) (many:Int) (k:Nat):List V→H→Prop
 |mk (D Wt M:List (List Nat)) (he sg ot:V) (c:Cm L s D Wt M) (hc:∀ w∈L,pre w∈D→suf w∈M) (hm:s∈M) (hk:D.length+k=L.length+1):InvG L s g d many k (Eg d g.length (V.tw s) many (cP L D:Nat) he sg ot) (HC g M Wt)
inductive EndG (L:List (List Nat)) (s:List Nat) (g:H) (d:Nat) (many:Int):List V→H→Prop
 |mk (D M:List (List Nat)) (he sg ot:V) (c:Cm L s D [] M) (hc:∀ w∈L,pre w∈D→suf w∈M) (hm:s∈M):EndG L s g d many (Eg d g.length (V.tw s) many (cP L D:Nat) he sg ot) (HC g M [])
inductive InvH (L:List (List Nat)) (s:List Nat) (g:H) (d:Nat) (many:Int) (D:List (List Nat)) (t:List Nat) (M:List (List Nat)) (q:List Nat):List V→H→Prop
 |mk (Wt' M':List (List Nat)) (sg ot:V) (c:Cm L s (D++[t]) Wt' M') (hM:∀ x∈M,x∈M') (hq:∀ a∈q,suf (t++[a])∈M'):InvH L s g d many D t M q (Eg d g.length (V.tw s) many (cP L (D++[t]):Nat) (V.tw t) sg ot) (HC g M' Wt')
theorem zmC (f:Lf b g d K r C L) (hL:L.Nodup) (h0:∀ w∈L,0 < w.length) (h9:∀ w∈L,w.length≤9) (hs:s.length≤9) (hn:L.length≤900){many:Int}{D Wt M:List (List Nat)}{t:List Nat}{he sg ot:V}(c:Cm L s D (Wt++[t]) M) (hc:∀ w∈L,pre w∈D→suf w∈M) (hm:s∈M){k:Nat}(hk:D.length+k=L.length+1) :
  ∃ k' ρ' g',k'+1=k∧exSs true F zh2 (Eg d g.length (V.tw s) many (cP L D:Nat) he sg ot) (HC g M (Wt++[t]))=.ok .next ρ' g'∧InvG L s g d many k' ρ' g':=by
 have c1:=c.take;have htM:t∈M:=(c.mem t).2 (.inr (List.mem_append_right _ (List.mem_cons_self ..)));have htD:t ∉ D:=fun q=>(List.nodup_append.1 c.nd2).2.2 t q t (List.mem_append_right _ (List.mem_cons_self ..)) rfl;have ht9:t.length≤9:=by
  cases c.rch t htM with
  |base=>exact hs
  |step hw _=>rw[zhD];exact Nat.le_trans (Nat.sub_le ..) (h9 _ hw)
 have hU:=c.inU.2;rw[List.length_append,List.length_append] at hU;have pe:evE true F (Eg d g.length (V.tw s) many (cP L D:Nat) he sg ot) (.pop (.var 4)) (HC g M (Wt++[t]))=.ok (V.tw t) (HC g M Wt):=by
  rw[ziu (o:=.var 4) (vs:=tups Wt) (y:=V.tw t) rfl (by rw[zd1];exact zpf _ _) (by
   rw[tups_len];exact Nat.le_trans (Nat.le_trans (Nat.le_succ _) (Nat.le_trans (Nat.le_add_left ..) hU)) (Nat.le_trans (Nat.succ_le_succ hn) (by decide))),zm5]
 obtain⟨v,w,hv,hw,hg⟩:=f.get t [.dict (dk tt M),.list (tups Wt)];have wl:(C t).length=outs L t:=zne f.nd f.mem hL h0 t;have ew:evE true F (Eg d g.length (V.tw s) many (cP L D:Nat) (V.tw t) sg ot) (.bin .add (.var 5) (.bf .len (.get (.var 0) (.var 6) (.list [])))) (HC g M Wt)=.ok (.int (cP L (D++[t]):Nat)) (HC g M Wt):=by
  refine(zfi (x:=(cP L D:Nat)) rfl (zbk (hg F _ (.var 0) (.var 6) rfl rfl) hv)).trans ?_;rw[nats_length,wl,zo6 htD,Int.natCast_add];rfl
 have ie:evIt true F (Eg d g.length (V.tw s) many (cP L (D++[t]):Nat) (V.tw t) sg ot) (.seq (.get (.var 0) (.var 6) (.list []))) (HC g M Wt)=.ok ((C t).map fun s:Nat=>V.int s,w) (HC g M Wt):=by
  rw[i_seq,show evE true F (Eg d g.length (V.tw s) many (cP L (D++[t]):Nat) (V.tw t) sg ot) (.get (.var 0) (.var 6) (.list [])) (HC g M Wt)=.ok v (HC g M Wt) from hg F _ (.var 0) (.var 6) rfl rfl,R.bind_ok,show iterOf (HC g M Wt) v=_ from(hw _).1];rfl
 obtain⟨ρ',g',e,⟨Wt',M',sg',ot',c',hM',hq⟩⟩:=zdQ (F:=F) (x:=7) (body:=goBody) (InvH L s g d many D t M) ie (fun q ρ g' I=>by
   obtain⟨Wt',M',sg',ot',_⟩:=I;exact(hw _).2) ⟨Wt,M,sg,ot,c1,fun x hx=>hx,fun z_ h=>nomatch h⟩ (fun q a q' ρ g' hp I=>by
   obtain⟨Wt',M',sg',ot',c',hM',hq⟩:=I;have ha:a∈C t:=by rw[hp];exact List.mem_append_right _ (List.mem_cons_self ..)
   have hl:=c'.inU;rw[List.length_append] at hl;have h1000:L.length+1≤1000:=Nat.le_trans (Nat.succ_le_succ hn) (by decide)
   obtain⟨Wt2,M2,c2,h2,h3,e2⟩:=zqe (F:=F) (d:=d) (g:=g) (t:=t) (sg:=a) (sv:=V.tw s) (ov:=ot') (many:=many) (words:=(cP L (D++[t]):Nat)) c' (.step ((f.mem t a).1 ha) (by rw[zex];exact c.rch t htM)) (Nat.le_trans ht9 (by decide)) (Nat.le_trans hl.1 h1000) (Nat.le_trans (Nat.le_trans (Nat.le_add_left ..) hl.2) h1000)
   refine⟨_,_,e2,Wt2,M2,_,_,c2,fun x hx=>h2 x (hM' x hx),fun y hy=>?_⟩
   rcases List.mem_append.1 hy with hy|hy
   ·exact h2 _ (hq y hy)
   ·rw[List.mem_singleton.1 hy];exact h3)
 have hk1:1≤k:=Nat.le_of_add_le_add_left (a:=D.length) (by rw[hk];exact Nat.le_trans (Nat.add_le_add_left (Nat.le_add_left 1 Wt.length) _) hU)
 refine⟨k - 1,_,_,Nat.sub_add_cancel hk1,?_,D++[t],Wt',M',V.tw t,sg',ot',c',fun w hw hp=>?_,hM' s hm,?_⟩
 ·unfold zh2
  rw[zbE pe];show exSs true F _ (Eg d g.length (V.tw s) many (cP L D:Nat) (V.tw t) sg ot) _=_;rw[zbE ew,ss_cons'];show(exS true F _ (Eg d g.length (V.tw s) many (cP L (D++[t]):Nat) (V.tw t) sg ot) _).then _=_;rw[e];rfl
 ·rcases List.mem_append.1 hp with hp|hp
  ·exact hM' _ (hc w hw hp)
  ·have e1:=List.mem_singleton.1 hp
   have e2:=zb8 (h0 w hw);rw[e1] at e2;rw[←e2];exact hq _ ((f.mem t _).2 (by rw[e2];exact hw))
 ·rw[List.length_append]
  show D.length+1+(k - 1)=_;rw[Nat.add_assoc,Nat.add_comm 1,Nat.sub_add_cancel hk1];exact hk
theorem zqy {M:List (List Nat)}:cP L M=L.length↔∀ w∈L,pre w∈M:=by
 unfold cP;rw[List.length_filter_eq_length_iff];exact⟨fun h w hw=>of_decide_eq_true (h w hw),fun h w hw=>decide_eq_true (h w hw)⟩
theorem zqd (u:zbU P) (f:Lf b g d K r C L) (hL:L.Nodup) (h0:∀ w∈L,0 < w.length) (h9:∀ w∈L,w.length≤9) (hs:s.length≤9) (hn:L.length≤900):∃ v:Bool,pcall g (run P (n+1) true "goes_on" [.ref d,V.tw s,.int (L.length:Nat)] g)=.ok (.bool v) g∧(v=true↔AllR L s):=by
 have t0:=zfh (q:=true) (F:=run P n) (ρ:=[.ref d,V.tw s,.int (L.length:Nat),.undef,.undef,.undef,.undef,.undef,.undef]) (h:=g) (a:=.var 2) (b:=.int 0) (x:=(L.length:Nat)) (y:=0) rfl rfl
 by_cases he:L.length=0
 ·rw[he] at t0
  refine⟨true,?_,fun z_=>?_,fun z_=>rfl⟩
  ·rw[he,start u.self rfl (ρ:=[.ref d,V.tw s,.int ((0:Nat):Int),.undef,.undef,.undef,.undef,.undef,.undef]) rfl (zgT t0 (zbw rfl)),pcall_bool]
  ·rw[List.eq_nil_of_length_eq_zero he];exact fun z_ h=>nomatch h
 ·rw[decide_eq_false fun q=>he (Int.natCast_eq_zero.1 q)] at t0
  have i0:InvG L s g d (L.length:Nat) (L.length+1) (Eg d g.length (V.tw s) (L.length:Nat) ((0:Nat):Int) .undef .undef .undef) (HC g [s] [s]):=by
   have i:=InvG.mk (L:=L) (s:=s) (g:=g) (d:=d) (many:=(L.length:Nat)) (k:=L.length+1) [] [s] [s] .undef .undef .undef Cm.one (fun z_ z_ h=>(nomatch h)) (List.mem_cons_self ..) (Nat.zero_add _);rw[show cP L []=0 from by unfold cP;rw[List.filter_eq_nil_iff.2 fun w z_=>by simp];rfl] at i
   exact i
  obtain⟨ρ',g',e,⟨D,M,h1,h2,h3,c,hc,hm⟩⟩:=zfV (F:=run P n) (t:=.cmp .gt (.bf .len (.var 4)) (.int 0)) (body:=zh2) (ρ:=Eg d g.length (V.tw s) (L.length:Nat) ((0:Nat):Int) .undef .undef .undef) (h:=HC g [s] [s]) (InvG L s g d (L.length:Nat)) (EndG L s g d (L.length:Nat)) (L.length+1) (zd6 (Nat.le_trans (Nat.succ_le_succ hn) (by decide)))
   i0 (fun k ρ g' I=>by
    obtain⟨D,Wt,M,he,sg,ot,c,hc,hm,hk⟩:=I;have t:=znq (F:=run P n) (ρ:=Eg d g.length (V.tw s) (L.length:Nat) (cP L D:Nat) he sg ot) (a:=.var 4) (v:=.ref (g.length+1)) rfl (zaa (zpf M Wt));rw[tups_len] at t
    rcases List.eq_nil_or_concat Wt with rfl|⟨Wt0,t0,rfl⟩
    ·exact .inl ⟨t,D,M,he,sg,ot,c,hc,hm⟩
    ·rw[List.concat_eq_append] at *
     rw[decide_eq_true (by rw[List.length_append];exact Nat.succ_pos _)] at t
     exact .inr ⟨t,zmC f hL h0 h9 hs hn c hc hm hk⟩)
  have mD:∀ x,x∈M↔x∈D:=fun x=>(c.mem x).trans ⟨fun q=>q.resolve_right fun h=>(nomatch h),.inl⟩;have mr:∀ x,x∈D↔Rch L s x:=fun x=>⟨fun q=>c.rch x ((mD x).2 q),fun q=>by
   induction q with
   |base=>exact(mD s).1 hm
   |step hw _ ih=>exact(mD _).1 (hc _ hw ih)⟩
  refine⟨decide (((cP L D:Nat):Int)=(L.length:Nat)),?_,?_⟩
  ·rw[start u.self rfl (ρ:=[.ref d,V.tw s,.int (L.length:Nat),.undef,.undef,.undef,.undef,.undef,.undef]) rfl (zb1 t0 (zaT (v:=.ref g.length) (h':=g++[.dict (dk tt [s])]) ?_ (ρ':=[.ref d,V.tw s,.int (L.length:Nat),.ref g.length,.undef,.undef,.undef,.undef,.undef]) rfl (zaT (v:=.ref (g.length+1)) (h':=HC g [s] [s]) ?_ (ρ':=[.ref d,V.tw s,.int (L.length:Nat),.ref g.length,.ref (g.length+1),.undef,.undef,.undef,.undef]) rfl (zaT (v:=.int ((0:Nat):Int)) (h':=HC g [s] [s]) rfl (ρ':=Eg d g.length (V.tw s) (L.length:Nat) ((0:Nat):Int) .undef .undef .undef) rfl (zcM e (zbw (zfh (x:=(cP L D:Nat)) (y:=(L.length:Nat)) rfl rfl)))))))]
   ·exact zdk g [.dict (dk tt M),.list (tups [])] rfl
   ·exact ziS rfl
   ·have e2:evE true (run P n) [.ref d,V.tw s,.int (L.length:Nat),.ref g.length,.undef,.undef,.undef,.undef,.undef] (.list [.var 1]) (g++[.dict (dk tt [s])])=.ok (.lst (tups [s])) (g++[.dict (dk tt [s])]):=rfl
    rw[zdS e2];unfold HC;rw[List.length_append,List.append_assoc];rfl
  ·rw[decide_eq_true_eq,Int.natCast_inj,zqy]
   exact⟨fun q w hw=>(mr _).1 (q w hw),fun q w hw=>(mr _).2 (q w hw)⟩
end
noncomputable def nlt (a b:Nat):Bool:=decide (a < b)
noncomputable def srtN (l:List Nat):List Nat:=isort nlt l
theorem znW (l:List Nat):(srtN l).Pairwise (·≤·):=zd7 (lt:=nlt) (le:=(·≤·)) (fun a b e=>Nat.le_of_lt (of_decide_eq_true e)) (fun a b e=>Nat.le_of_not_lt (of_decide_eq_false e)) (fun a b c h1 h2=>Nat.le_trans h1 h2) l
theorem zem (l:List Nat):(srtN l).Perm l:=zbK l
theorem zhG (h:H) (l:List Nat) (h64:l.length < 64):sortVs h (V.nats l)=some (V.nats (srtN l)):=by
 have e1:keyed keyI (V.nats l)=some (l.map fun d:Nat=>((d:Int),V.nat d)):=zcO (f:=keyI) V.nat (fun d:Nat=>(d:Int)) l fun z_ z_=>rfl;have e:isort (fun a b:Int × V=>decide (a.1 < b.1)) (l.map fun d:Nat=>((d:Int),V.nat d))=(srtN l).map fun d:Nat=>((d:Int),V.nat d):=zeN (lt:=nlt) (fun d:Nat=>((d:Int),V.nat d)) (fun a b=>decide_eq_decide.2 Int.ofNat_lt) l;unfold sortVs;rw[e1];show sortBy _ _=_;unfold sortBy
 rw[if_pos,e,List.map_map];rfl
 rw[Bool.and_eq_true];refine⟨decide_eq_true (by rw[List.length_map];exact h64),?_⟩
 rw[List.all_eq_true];intro p hp;rw[List.all_eq_true];intro q hq;obtain⟨a,_,rfl⟩:=List.mem_map.1 hp;obtain⟨b,_,rfl⟩:=List.mem_map.1 hq;exact decide_eq_true fun e=>congrArg V.int e
theorem zlU {l:List Nat}{a:Nat}(h:a∈l):rmvI (.int a) (V.nats l)=some (.none,V.nats (l.erase a)):=by
 have e1:(zi l).findIdx? (fun i=>i == (a:Int))=l.idxOf? a:=by
  unfold zi;rw[List.findIdx?_map];unfold List.idxOf?
  congr 1
  funext i
  exact Bool.eq_iff_iff.2 ⟨fun q=>beq_iff_eq.2 (Int.natCast_inj.1 (eq_of_beq q)),fun q=>beq_iff_eq.2 (congrArg _ (eq_of_beq q))⟩
 have e2:=List.erase_eq_eraseIdx l a;show((asInts (V.nats l)).bind fun l'=>(l'.findIdx? fun i=>i == (a:Int)).map fun j=>(V.none,(V.nats l).eraseIdx j))=_;rw[zbT,Option.bind_some,e1]
 cases hi:l.idxOf? a with
 |none=>exact absurd h (List.idxOf?_eq_none_iff.1 hi)
 |some j =>
  rw[hi] at e2;rw[e2];show some (V.none,(List.map V.nat l).eraseIdx j)=some (V.none,List.map V.nat (l.eraseIdx j));rw[List.eraseIdx_eq_take_drop_succ,List.eraseIdx_eq_take_drop_succ,List.map_append,List.map_take,List.map_drop]
section
variable {P:Tab}{n b d:Nat}{h g:H}{F:Fn}{ρ:List V}{K:List (List Nat)}{r:List Nat→Nat}{C:List Nat→List Nat}{L:List (List Nat)}{j:List Nat}{a:Nat}
theorem zlD (C:List Nat→List Nat) (j:List Nat) (l:List Nat):(fun i=>if i=j then V.nats l else V.nats (C i))=fun i=>V.nats ((fun i=>if i=j then l else C i) i):=by
 funext i
 by_cases e:i=j
 ·rw[if_pos e];show _=V.nats (if i=j then l else C i);rw[if_pos e]
 ·rw[if_neg e];show _=V.nats (if i=j then l else C i);rw[if_neg e]
theorem Lf.put (f:Lf b g d K r C L) (hj:j∈K){l:List Nat}{L':List (List Nat)}(nd:l.Nodup) (m1:∀ s,s∈l↔j++[s]∈L') (m2:∀ i s,i≠j→(i++[s]∈L↔i++[s]∈L')):Lf b (g.set (r j) (.list (V.nats l))) d K r (fun i=>if i=j then l else C i) L':=by
 refine⟨by rw[←zlD];exact f.W.push hj (V.nats l),fun i=>?_,fun i s=>?_,fun i hi=>?_⟩
 ·by_cases e:i=j
  ·rw[if_pos e];exact nd
  ·rw[if_neg e];exact f.nd i
 ·by_cases e:i=j
  ·rw[if_pos e,e];exact m1 s
  ·rw[if_neg e];exact(f.mem i s).trans (m2 i s e)
 ·rw[if_neg fun(e:i=j)=>hi (e ▸ hj)];exact f.inK i hi
theorem Lf.take (f:Lf b g d K r C L) (hL:L.Nodup) (hj:j∈K):Lf b (g.set (r j) (.list (V.nats ((C j).erase a)))) d K r (fun i=>if i=j then(C j).erase a else C i) (L.erase (j++[a])):=by
 refine f.put hj ((f.nd j).erase a) (fun s=>?_) fun i s ne=>?_
 ·rw[(f.nd j).mem_erase_iff,hL.mem_erase_iff,f.mem]
  exact and_congr_left fun z_=>not_congr ⟨fun e=>by rw[e],zm8⟩
 ·rw[hL.mem_erase_iff]
  exact⟨fun q=>⟨fun e=>ne (by rw[←zex i s,e,zex]),q⟩,And.right⟩
theorem setset (g:H) (i:Nat) (a b:Cell):(g.set i a).set i b=g.set i b:=List.set_set ..
end
section
variable {P:Tab}{n b d:Nat}{h g:H}{F:Fn}{ρ:List V}{K:List (List Nat)}{r:List Nat→Nat}{C:List Nat→List Nat}{L:List (List Nat)}{j:List Nat}{a:Nat}
noncomputable abbrev En (d:Nat) (j:List Nat) (many:Int) (w o:V):List V:=[.ref d,V.tw j,.int many,w,o]
noncomputable def nsBody:List PS:=[
  .expr (.remove (.idx (.var 0) (.var 1)) (.var 3)),
  .asg 4 (.rev (.bin .add (.var 1) (.tup [.var 3]))),
  .ifs (.call false "goes_on" [.var 0,.var 4,.bin .sub (.var 2) (.int 1)]) [
   .ret (.var 3)] [],
  .expr (.append (.idx (.var 0) (.var 1)) (.var 3))]
theorem idxW {T:List Nat→List V}{o x:PE}(W:Ways b g d K r T) (hj:j∈K) (eo:evE true F ρ o g=.ok (.ref d) g) (ex:evE true F ρ x g=.ok (V.tw j) g):evE true F ρ (.idx o x) g=.ok (.ref (r j)) g:=by
 rw[zar,eo,R.bind_ok,ex,R.bind_ok,zd9 (v:=.ref (r j)) W.dc (by rw[zbQ,if_pos hj])];rfl
theorem zpy {o k:PE}{c:Nat}{l:List Nat}(eo:evE true F ρ o g=.ok (.ref c) g) (hc:g[c]?=some (.list (V.nats l))) (ek:evE true F ρ k g=.ok (.int a) g) (ha:a∈l) (hl:l.length≤1000):evE true F ρ (.remove o k) g=.ok .none (g.set c (.list (V.nats (l.erase a)))):=by
 rw[zaP,eo,R.bind_ok,if_pos (zdo hc),ek,R.bind_ok,zbI hc _ .none (V.nats (l.erase a)) (zlU ha) (by rw[nats_length];exact Nat.le_trans (List.length_erase_le ..) (Nat.le_trans hl (by decide)))]
def Keep (K:List (List Nat)) (r:List Nat→Nat) (g g':H):Prop:=g'.length=g.length∧∀ i,(∀ x∈K,i≠r x)→g'[i]?=g[i]?
theorem Keep.set {g g':H}(k:Keep K r g g') (hj:j∈K) (c:Cell):Keep K r g (g'.set (r j) c):=⟨by rw[List.length_set];exact k.1,fun i hi=>by rw[List.getElem?_set_ne (hi j hj).symm];exact k.2 i hi⟩
theorem zpW (u:zbU P) (f:Lf b g d K r C L) (hL:L.Nodup) (h0:∀ w∈L,0 < w.length) (h9:∀ w∈L,w.length≤9) (hj:j∈K) (hn:L.length≤900) (hc:(C j).length≤1000) (ha:a∈C j) (o:V) :
  (Good L (j++[a])∧exSs true (run P (n+1)) nsBody (En d j (L.length:Nat) (.int a) o) g=.ok (.ret (.int a)) (En d j (L.length:Nat) (.int a) (V.tw (suf (j++[a])))) (g.set (r j) (.list (V.nats ((C j).erase a))))) ∨
  ¬ Good L (j++[a])∧exSs true (run P (n+1)) nsBody (En d j (L.length:Nat) (.int a) o) g=.ok .next (En d j (L.length:Nat) (.int a) (V.tw (suf (j++[a])))) (g.set (r j) (.list (V.nats ((C j).erase a++[a])))):=by
 have hw:=(f.mem j a).1 ha;have hjl:j.length≤8:=by have:=h9 _ hw;rw[List.length_append] at this;exact Nat.le_of_succ_le_succ this
 have e1:=zpy (F:=run P (n+1)) (ρ:=En d j (L.length:Nat) (.int a) o) (k:=.var 3) (idxW f.W hj (o:=.var 0) (x:=.var 1) rfl rfl) (f.W.ls j hj) rfl ha hc;have f1:=f.take (a:=a) hL hj;have hc1:(g.set (r j) (.list (V.nats ((C j).erase a))))[r j]?=some (.list (V.nats ((C j).erase a))):=by rw[List.getElem?_set_self (List.getElem?_eq_some_iff.1 (f.W.ls j hj)).1]
 generalize hg1:g.set (r j) (.list (V.nats ((C j).erase a)))=g1 at e1 f1 hc1;have e2:=zfO (F:=run P (n+1)) (ρ:=En d j (L.length:Nat) (.int a) o) (h:=g1) (a:=.var 1) (c:=.var 3) (j:=j) (s:=a) rfl rfl (Nat.le_trans hjl (by decide))
 have nd1:=hL.erase (j++[a]);have sub:∀ w∈L.erase (j++[a]),w∈L:=fun w hw=>List.mem_of_mem_erase hw;have s9:(suf (j++[a])).length≤9:=by rw[zhD];exact Nat.le_trans (Nat.sub_le ..) (h9 _ hw)
 obtain⟨v,ev,hv⟩:=zqd (n:=n) u f1 nd1 (fun w hw=>h0 w (sub w hw)) (fun w hw=>h9 w (sub w hw)) s9 (Nat.le_trans (List.length_erase_le ..) hn);have em:evE true (run P (n+1)) (En d j (L.length:Nat) (.int a) (V.tw (suf (j++[a])))) (.bin .sub (.var 2) (.int 1)) g1=.ok (.int ((L.erase (j++[a])).length:Nat)) g1:=by
  refine(zmX (x:=(L.length:Nat)) (y:=1) rfl rfl).trans ?_;rw[List.length_erase_of_mem hw,Int.ofNat_sub (List.length_pos_of_mem hw)];rfl
 have ec:=zbu (F:=run P (n+1)) (ρ:=En d j (L.length:Nat) (.int a) (V.tw (suf (j++[a])))) (h:=g1) (a:=.var 0) (b:=.var 4) (v:=.ref d) (w:=V.tw (suf (j++[a]))) rfl rfl em ev;have go:exSs true (run P (n+1)) nsBody (En d j (L.length:Nat) (.int a) o) g=exSs true (run P (n+1)) (nsBody.drop 2) (En d j (L.length:Nat) (.int a) (V.tw (suf (j++[a])))) g1:=by
  unfold nsBody;rw[zbD e1,zbE e2];rfl
 rw[go]
 cases v with
 |true=>exact .inl ⟨hv.1 rfl,(zc0 ec).trans rfl⟩
 |false =>
  refine .inr ⟨fun q=>absurd (hv.2 q) (by decide),(zcG ec).trans ?_⟩
  show exSs true (run P (n+1)) [.expr (.append (.idx (.var 0) (.var 1)) (.var 3))] _ _=_;rw[zbD (zb0 (y:=.int a) (idxW f1.W hj (o:=.var 0) (x:=.var 1) rfl rfl) hc1 rfl (by rw[nats_length];exact Nat.le_trans (List.length_erase_le ..) hc)),← hg1,setset,zam];rfl
inductive InvN (b d:Nat) (g:H) (K:List (List Nat)) (r:List Nat→Nat) (L:List (List Nat)) (j:List Nat) (p:List Nat):List V→H→Prop
 |mk (C':List Nat→List Nat) (w o:V) (g':H) (kp:Keep K r g g') (f':Lf b g' d K r C' L) (bad:∀ s∈p,¬ Good L (j++[s])):InvN b d g K r L j p (En d j (L.length:Nat) w o) g'
inductive EndN (b d:Nat) (g:H) (K:List (List Nat)) (r:List Nat→Nat) (L:List (List Nat)) (j:List Nat):V→H→Prop
 |mk (sg:Nat) (C':List Nat→List Nat) (g':H) (kp:Keep K r g g') (f':Lf b g' d K r C' (L.erase (j++[sg]))) (hm:j++[sg]∈L) (gd:Good L (j++[sg])) (le:∀ s,s < sg→j++[s]∈L→¬ Good L (j++[s])):EndN b d g K r L j (.int (sg:Nat)) g'
theorem zme (u:zaL P) (f:Lf b g d K r C L) (hL:L.Nodup) (h0:∀ w∈L,0 < w.length) (h9:∀ w∈L,w.length≤9) (hj:j∈K) (hn:L.length < 64) (ex:∃ e∈L,pre e=j∧Good L e) :
  ∃ sg C' g',run P (n+2) true "next_sign" [.ref d,V.tw j,.int (L.length:Nat)] g=.ok (.int (sg:Nat)) g'∧Keep K r g g'∧Lf b g' d K r C' (L.erase (j++[sg]))∧j++[sg]∈L∧Good L (j++[sg])∧∀ s,s < sg→j++[s]∈L→¬ Good L (j++[s]):=by
 have cl:∀ {C':List Nat→List Nat}{g':H},Lf b g' d K r C' L→(C' j).length < 64:=fun f'=>by
  rw[zne f'.nd f'.mem hL h0 j];exact Nat.lt_of_le_of_lt (List.length_filter_le ..) hn
 have ie:evIt true (run P (n+1)) (En d j (L.length:Nat) .undef .undef) (.seq (.bf .sorted (.idx (.var 0) (.var 1)))) g=.ok ((srtN (C j)).map fun s:Nat=>V.int s,Option.none) g :=
  zfw (zbN (idxW f.W hj (o:=.var 0) (x:=.var 1) rfl rfl) (zcI (zaa (f.W.ls j hj))) (zhG g (C j) (cl f)))
 rcases ziq (F:=run P (n+1)) (x:=3) (body:=nsBody) (InvN b d g K r L j) (fun v z_=>EndN b d g K r L j v)
   ie (fun z_ z_ z_ z_=>rfl) ⟨C,.undef,.undef,_,⟨rfl,fun z_ z_=>rfl⟩,f,fun z_ h=>nomatch h⟩ (fun p a q ρ g' hp I=>by
    obtain⟨C',w,o,g',kp,f',bad⟩:=I;have hC:a∈C j:=(zem _).mem_iff.1 (by rw[hp];exact List.mem_append_right _ (List.mem_cons_self ..))
    have ha:a∈C' j:=(f'.mem j a).2 ((f.mem j a).1 hC)
    rcases zpW (n:=n) u.goes_on f' hL h0 h9 hj (Nat.le_trans (Nat.le_of_lt hn) (by decide)) (Nat.le_trans (Nat.le_of_lt (cl f')) (by decide)) ha o with⟨gd,e⟩|⟨bd,e⟩
    ·refine .inr ⟨_,_,_,e,a,_,_,kp.set hj _,f'.take hL hj,(f.mem j a).1 hC,gd,fun s hs hm=>?_⟩
     have hs':s∈srtN (C j):=(zem _).mem_iff.2 ((f.mem j s).2 hm);have up:=znW (C j);rw[hp] at hs' up
     rcases List.mem_append.1 hs' with hs'|hs'
     ·exact bad s hs'
     ·rcases List.mem_cons.1 hs' with rfl|hs'
      ·exact absurd hs (Nat.lt_irrefl _)
      ·exact absurd hs (Nat.not_lt.2 ((List.pairwise_cons.1 (List.pairwise_append.1 up).2.1).1 s hs'))
    ·refine .inl ⟨_,_,e,_,_,_,_,kp.set hj _,f'.put hj ?_ (fun s=>?_) fun z_ z_ z_=>Iff.rfl,fun s hs=>?_⟩
     ·rw[List.nodup_append]
      exact⟨(f'.nd j).erase a,by simp,fun x hx y hy e=>by rw[e,List.mem_singleton.1 hy] at hx;exact(f'.nd j).not_mem_erase hx⟩
     ·rw[List.mem_append,List.mem_singleton,(f'.nd j).mem_erase_iff,← f'.mem]
      exact⟨fun q=>q.elim And.right fun e=>e ▸ ha,fun q=>Classical.byCases (fun e:s=a=>.inr e) fun e=>.inl ⟨e,q⟩⟩
     ·rcases List.mem_append.1 hs with hs|hs
      ·exact bad s hs
      ·rw[List.mem_singleton.1 hs];exact bd) with⟨ρ',g',e,⟨C',w,o,g',kp,f',bad⟩⟩|⟨v,ρ',g',e,⟨sg,C',g',r1,r2,r3,r4,r5⟩⟩
 ·obtain⟨x,hx,px,gx⟩:=ex
  have e1:=zb8 (h0 x hx);rw[px] at e1;exact absurd (by rw[e1];exact gx) (bad (lst x) ((zem _).mem_iff.2 ((f.mem j _).2 (by rw[e1];exact hx))))
 ·exact⟨sg,C',g',start u.self rfl (ρ:=En d j (L.length:Nat) .undef .undef) rfl (zkw e),r1,r2,r3,r4,r5⟩
end
inductive Tr (m:List Nat) (B:List (List Nat)):List (List Nat)→List (List Nat)→List Nat→Prop
 |first:Tr m B [m] (B.erase m) (suf m)
 |next {es L:List (List Nat)}{j e:List Nat}:Tr m B es L j→e∈L→pre e=j→Good L e→(∀ w∈L,pre w=j→lst w < lst e→¬ Good L w)→Tr m B (es++[e]) (L.erase e) (suf e)
section
variable {m:List Nat}{B es L:List (List Nat)}{j:List Nat}
theorem Tr.perm (t:Tr m B es L j) (hm:m∈B):(es++L).Perm B:=by
 induction t with
 |first=>exact(List.perm_cons_erase hm).symm
 |@next es L j e _ he _ _ _ ih =>
  rw[List.append_assoc];exact(((List.perm_cons_erase he).symm).append_left es).trans ih
theorem Tr.chain (t:Tr m B es L j):∃ q,es=m::q∧(∀ i w w',es[i]?=some w→es[i+1]?=some w'→suf w=pre w')∧∀ w,es[es.length - 1]?=some w→suf w=j:=by
 induction t with
 |first =>
  refine⟨[],rfl,fun i w w' h1 h2=>?_,fun w h=>?_⟩
  ·cases i<;>cases h2
  ·cases h;rfl
 |@next es L j e t he hp _ _ ih =>
  obtain⟨q,e1,e2,e3⟩:=ih;have l0:0 < es.length:=by rw[e1];exact Nat.succ_pos _
  refine⟨q++[e],by rw[e1];rfl,fun i w w' h1 h2=>?_,fun w h=>?_⟩
  ·by_cases hi:i+1 < es.length
   ·rw[List.getElem?_append_left (Nat.lt_of_succ_lt hi)] at h1
    rw[List.getElem?_append_left hi] at h2;exact e2 i w w' h1 h2
   ·have hl:=(List.getElem?_eq_some_iff.1 h2).1
    rw[List.length_append,List.length_singleton] at hl;have hi':i=es.length - 1:=(Nat.sub_eq_of_eq_add (Nat.le_antisymm (Nat.le_of_not_lt hi) (Nat.le_of_lt_succ hl))).symm;rw[hi',List.getElem?_append_left (Nat.sub_lt l0 Nat.one_pos)] at h1;rw[hi',Nat.sub_add_cancel l0,List.getElem?_append_right (Nat.le_refl _),Nat.sub_self] at h2
    cases h2
    rw[e3 w h1,hp]
  ·rw[List.length_append,List.length_singleton,Nat.add_sub_cancel,List.getElem?_append_right (Nat.le_refl _),Nat.sub_self] at h
   cases h;rfl
end
noncomputable def sgs (B:List (List Nat)) (j:List Nat):List Nat:=(B.filter fun w=>decide (pre w=j)).map lst
theorem zn1 (B:List (List Nat)) (w:List Nat):(fun j=>if j=pre w then V.nats (sgs B (pre w)++[lst w]) else V.nats (sgs B j))=fun j=>V.nats (sgs (B++[w]) j):=by
 funext j
 unfold sgs;rw[List.filter_append,List.map_append]
 by_cases e:j=pre w
 ·rw[if_pos e,List.filter_cons_of_pos (p:=fun w=>decide (pre w=j)) (decide_eq_true e.symm),e];rfl
 ·rw[if_neg e,List.filter_cons_of_neg (p:=fun w=>decide (pre w=j)) (by rw[decide_eq_false fun q=>e q.symm];exact Bool.false_ne_true)];exact congrArg V.nats (List.append_nil _).symm
theorem zj8 {B:List (List Nat)}{j:List Nat}(h:∀ w∈B,pre w≠j):sgs B j=[]:=by
 unfold sgs;rw[List.filter_eq_nil_iff.2];rfl
 intro w hw e;exact h w hw (of_decide_eq_true e)
theorem zn0 {B:List (List Nat)}(h0:∀ w∈B,0 < w.length) (j:List Nat) (s:Nat):s∈sgs B j↔j++[s]∈B:=by
 unfold sgs;rw[List.mem_map]
 constructor
 ·rintro⟨w,hw,rfl⟩
  obtain⟨h1,h2⟩:=List.mem_filter.1 hw;rw[←of_decide_eq_true h2,zb8 (h0 w h1)];exact h1
 ·exact fun h=>⟨_,List.mem_filter.2 ⟨h,decide_eq_true (zex j s)⟩,znl j s⟩
theorem zpt {B:List (List Nat)}(hB:B.Nodup) (h0:∀ w∈B,0 < w.length) (j:List Nat):(sgs B j).Nodup:=by
 unfold sgs;rw[List.Nodup,List.pairwise_map];refine(hB.filter _).imp_of_mem fun {a b} ha hb ne e=>ne ?_;obtain⟨a1,a2⟩:=List.mem_filter.1 ha;obtain⟨b1,b2⟩:=List.mem_filter.1 hb;rw[←zb8 (h0 a a1),← zb8 (h0 b b1),of_decide_eq_true a2,of_decide_eq_true b2,e]
section
variable {P:Tab}{n b d:Nat}{h g:H}{F:Fn}{ρ:List V}
theorem zkH {a:PE}{v:V}{w:List Nat}(ea:evE true F ρ a h=.ok v h) (hl:IsL h v w) (h0:0 < w.length):evE true F ρ (.idx a (.neg 1)) h=.ok (.int (lst w)) h:=by
 have hl':litems h v=some (V.nats (pre w)++[.int (lst w)]):=by
  have e:V.nats w=V.nats (pre w)++[.int (lst w)]:=by
   conv=>lhs;rw[←zb8 h0]
   rw[zam];rfl
  rw[←e];exact hl
 generalize V.nats (pre w)=vs at hl';generalize lst w=l at hl' ⊢
 have hp:(place (vs++[V.int l]).length (-1)).bind (fun j=>(vs++[V.int l])[j]?)=some (.int l):=by
  unfold place;rw[if_neg (by decide),List.length_append,show(-1:Int)+((vs.length+[V.int (l:Int)].length:Nat):Int)=vs.length from zeA _,if_pos (Int.natCast_nonneg _)]
  show(vs++[V.int l])[((vs.length:Nat):Int).toNat]?=_;rw[Int.toNat_natCast,List.getElem?_append_right (Nat.le_refl _),Nat.sub_self];rfl
 rw[zar,ea,R.bind_ok];show R.opt (pyIdx h v (.int (-1))) h=_
 rcases zaf hl' with rfl|⟨i,rfl,hc⟩
 ·show R.opt ((place (vs++[V.int l]).length (-1)).bind fun j=>(vs++[V.int l])[j]?) h=_
  rw[hp];rfl
 ·unfold pyIdx
  dsimp only;rw[hc];dsimp only;rw[hp];rfl
noncomputable abbrev Er (S Z:V) (bv left word first joint found many sign:V):List V:=[S,Z,bv,left,word,first,joint,found,many,sign]
noncomputable def lfBody:List PS:=[
  .expr (.append (.setdef (.var 3) (.bf .tuple (.slice (.var 4) .none (some (.neg 1)))) (.own (.list []))) (.idx (.var 4) (.neg 1)))]
inductive InvF (h:H) (S Z bv:V) (B:List (List Nat)):List V→H→Prop
 |mk (K:List (List Nat)) (r:List Nat→Nat) (w:V) (g:H) (x:Ext h g) (W:Ways h.length g h.length K r (fun j=>V.nats (sgs B j))) (hK:∀ j,j∈K↔∃ w∈B,j=pre w) (hl:K.length≤B.length):InvF h S Z bv B (Er S Z bv (.ref h.length) w .undef .undef .undef .undef .undef) g
theorem zml {S Z bv:V}{L:List (V × List Nat)}(hb:HB h bv L) (hL:L.length≤400) (nd:(L.map (·.2)).Nodup) (h0:∀ w∈L.map (·.2),0 < w.length):∃ g K r w,exS true F (.for1 4 (.seq (.var 2)) lfBody) (Er S Z bv (.ref h.length) .undef .undef .undef .undef .undef .undef) (h++[.dict []])=.ok .next (Er S Z bv (.ref h.length) w .undef .undef .undef .undef .undef) g∧Ext h g∧Lf h.length g h.length K r (sgs (L.map (·.2))) (L.map (·.2))∧∀ w∈L.map (·.2),pre w∈K:=by
 have hv:=(zbY hb.it).val;obtain⟨t,ht⟩:=zgn hb.it;have e0:Ext h (h++[Cell.dict []]):=(Ext.refl h).app _;obtain⟨ρ',g',e,⟨K,r,w,g',x,W,hK,_⟩⟩:=zdQ (F:=F) (h:=h++[.dict []]) (x:=4) (it:=.seq (.var 2)) (body:=lfBody) (ρ:=Er S Z bv (.ref h.length) .undef .undef .undef .undef .undef .undef) (t:=t) (l:=L) (c:=(·.1)) (h':=h++[.dict []])
  (fun p=>InvF h S Z bv (p.map (·.2))) (by rw[i_seq,zba (v:=bv) rfl hv,R.bind_ok,(ht _).1];rfl) (fun p ρ g I=>by
   obtain⟨_,_,_,_,e,_⟩:=I;exact(e.W ht).2) ⟨[],fun z_=>0,.undef,_,e0,⟨zbs _ _,fun z_ h=>(nomatch h),.nil,fun z_ h=>(nomatch h),fun z_ h=>(nomatch h)⟩,fun j=>⟨fun h=>(nomatch h),fun⟨_,h,_⟩=>(nomatch h)⟩,Nat.zero_le _⟩ (fun p a q ρ g hp I=>by
   obtain⟨K,r,w,g,x,W,hK,hl⟩:=I;rw[List.length_map] at hl;have ha:a∈L:=by rw[hp];exact List.mem_append_right _ (List.mem_cons_self ..)
   have ia:=x.L (hb.wd a ha);have a0:0 < a.2.length:=h0 a.2 (List.mem_map.2 ⟨a,ha,rfl⟩);have hpl:p.length≤400:=by rw[hp,List.length_append] at hL;exact Nat.le_trans (Nat.le_add_right ..) hL
   obtain⟨g1,r1,W1,b1,x1,v1⟩:=W.touch (pre a.2) x.len (Nat.le_trans hl (Nat.le_trans hpl (by decide))) (fun q=>congrArg V.nats (zj8 fun w hw e=>q ((hK _).2 ⟨w,hw,e.symm⟩))) (Nat.le_refl _)
   have e1:=x1 h (Nat.le_refl _) x;have mj:pre a.2∈touch K (pre a.2):=zb9.2 (.inr rfl);have W2:=W1.push mj (V.nats (sgs (p.map (·.2)) (pre a.2)++[lst a.2]));rw[zn1] at W2;have ia1:=e1.L (hb.wd a ha);have s1:=zb0 (F:=F) (v1 F (Er S Z bv (.ref h.length) a.1 .undef .undef .undef .undef .undef) (.var 3) _ rfl (zdP (zdi (a:=.var 4) (zba (v:=a.1) rfl ia.val) ia) (IsL.lst _ _))) (W1.ls _ mj) (zkH (a:=.var 4) (zba (v:=a.1) rfl ia1.val) ia1 a0) (by
    rw[nats_length];unfold sgs;rw[List.length_map];exact Nat.le_trans (List.length_filter_le ..) (by rw[List.length_map];exact Nat.le_trans hpl (by decide)))
   refine⟨Er S Z bv (.ref h.length) a.1 .undef .undef .undef .undef .undef,g1.set (r1 (pre a.2)) (.list (V.nats (sgs (p.map (·.2)) (pre a.2)++[lst a.2]))),?_,touch K (pre a.2),r1,a.1,_,e1.set (W1.lo _ mj) _,?_,fun j=>?_,?_⟩
   ·show exSs true F lfBody (Er S Z bv (.ref h.length) a.1 .undef .undef .undef .undef .undef) g=_
    unfold lfBody;rw[zbD s1,zam];rfl
   ·rw[List.map_append];exact W2
   ·rw[zb9,hK,List.map_append]
    constructor
    ·rintro(⟨w,hw,e⟩|e)
     ·exact⟨w,List.mem_append_left _ hw,e⟩
     ·exact⟨a.2,List.mem_append_right _ (List.mem_cons_self ..),e⟩
    ·rintro⟨w,hw,e⟩
     rcases List.mem_append.1 hw with hw|hw
     ·exact .inl ⟨w,hw,e⟩
     ·rw[List.mem_singleton.1 hw] at e;exact .inr e
   ·rw[List.length_map,List.length_append];exact Nat.le_trans (zej ..) (Nat.succ_le_succ hl))
 refine⟨g',K,r,w,e,x,⟨W,zpt nd h0,zn0 h0,fun j hj=>zj8 fun w hw e=>hj ((hK j).2 ⟨w,hw,e.symm⟩)⟩,fun w hw=>(hK _).2 ⟨w,hw,rfl⟩⟩
end
noncomputable def hd (w:List Nat):Nat:=w.getD 0 0
section
variable {P:Tab}{n b d:Nat}{h g:H}{F:Fn}{ρ:List V}{B:List (List Nat)}
theorem zkZ {b c:Nat}{X:List V}{s:String}(hb:b≤c) (hc:g[c]?=some (.list X)) (hp:V.plains X=true):frz b g (.tup [.str s,.ref c])=some (.tup [.str s,.lst X]):=by
 have:V.mapRef (frzAt 4 b g) (.ref c)=some (.lst X):=by
  show frzAt 4 b g c=_;rw[zc8,if_neg (Nat.not_lt.2 hb),hc];show Option.map _ (V.mapRefs _ X)=_;rw[zaA _ _ hp];rfl
 show(V.mapRefs _ [.str s,.ref c]).map V.tup=_;rw[V.mapRefs,V.mapRefs,this];rfl
theorem zcL {v w:V}(e:Ext h g) (hf:frz h.length g v=some w):pcall h (.ok v g)=.ok w h:=by
 show(if g.take h.length=h then R.opt (frz h.length g v) h else .bad)=_;rw[if_pos (show g.take h.length=h from e),hf];rfl
theorem zpc {M J:List (List Nat)}(hM:M.Nodup) (hs:∀ x∈M,x∈J) (hl:¬ M.length < J.length):∀ x∈J,x∈M:=fun x hx=>Classical.byContradiction fun q=>hl (by
 have:=within (b:=J.erase x) hM fun y hy=>(List.mem_erase_of_ne (a:=y) (b:=x) fun e=>q (e ▸ hy)).2 (hs y hy);rw[List.length_erase_of_mem hx] at this;exact Nat.lt_of_le_of_lt this (Nat.sub_lt (List.length_pos_of_mem hx) Nat.one_pos))
def Fine (B:List (List Nat)) (m:List Nat):Prop:=Least B m∧Bal B (pre m) (pre m)∧AllR B (pre m)
def Whole (B:List (List Nat)):Prop:=(∀ j,isJ B j→ins B j=outs B j)∧∃ m,Least B m∧AllR B (pre m)
theorem Fine.whole {m:List Nat}(f:Fine B m):Whole B:=⟨fun j z_=>(Nat.add_right_cancel (f.2.1 j)).symm,m,f.1,f.2.2⟩
theorem zkI (u:za2 P){bv:V}{L:List (V × List Nat)}(hb:HB h bv L) (jb:JB (L.map (·.2))):(∃ m,Fine (L.map (·.2)) m∧pcall h (run P (n+2) true "lack_of" [bv] h)=.ok .none h)∨¬ Whole (L.map (·.2))∧∃ a c,pcall h (run P (n+2) true "lack_of" [bv] h)=.ok (.tup [a,c]) h:=by
 obtain⟨v,g',e,x,l⟩:=zmn (n:=n) u hb jb;rw[e];generalize L.map (·.2)=B at *
 cases l with
 |uneven c j p q e lo at' js ev ne=>subst e;exact .inr ⟨fun W=>ne (W.1 j (zfI.1 (by rw[js];exact List.mem_append_right _ (List.mem_cons_self ..)))),_,_,zcL x (zkZ lo at' (zct _))⟩
 |apart c m M e lo at' ev le nd mem lt=>subst e;exact .inr ⟨fun W=>by
  obtain⟨_,m',le',all⟩:=W;rw[le'.eq le] at all;refine Nat.not_lt.2 (within (zm4 B) fun y hy=>(mem y).2 ?_) lt;obtain⟨w,hw,rfl|rfl⟩:=zfI.1 hy
  ·exact all w hw
  ·exact .step hw (all w hw),_,_,zcL x (zkZ lo at' (lists_plains _))⟩
 |fine m M e ev le nd mem ge =>
  subst e;refine .inl ⟨m,⟨le,fun y=>?_,fun w hw=>?_⟩,zcL x rfl⟩
  ·have:outs B y=ins B y:=by
    by_cases hy:isJ B y
    ·exact(ev y (zfI.2 hy)).symm
    ·unfold outs ins
     rw[List.filter_eq_nil_iff.2 fun w hw e=>hy ⟨w,hw,.inl (of_decide_eq_true e).symm⟩,List.filter_eq_nil_iff.2 fun w hw e=>hy ⟨w,hw,.inr (of_decide_eq_true e).symm⟩]
   rw[this]
  ·exact(mem _).1 (zpc nd (fun y hy=>zfI.2 (((mem y).1 hy).isJ ⟨m,le.1,.inl rfl⟩)) ge _ (zfI.2 ⟨w,hw,.inl rfl⟩))
theorem Lf.app {K:List (List Nat)}{r:List Nat→Nat}{C:List Nat→List Nat}{L:List (List Nat)}(f:Lf b g d K r C L) (k:H):Lf b (g++k) d K r C L:=⟨f.W.app k,f.nd,f.mem,f.inK⟩
theorem Ext.keep {g':H}{K:List (List Nat)}{r:List Nat→Nat}(e:Ext h g) (k:Keep K r g g') (lo:∀ x∈K,h.length≤r x):Ext h g':=by
 unfold Ext at *
 rw[←e];have hl:h.length≤g.length:=Ext.len e;have e':(List.take h.length g).length=h.length:=by rw[List.length_take,Nat.min_eq_left hl]
 rw[e'];refine List.ext_getElem? fun i=>?_
 by_cases hi:i < h.length
 ·rw[List.getElem?_take_of_lt hi,List.getElem?_take_of_lt hi,k.2 i fun x hx q=>absurd (lo x hx) (Nat.not_le.2 (q ▸ hi))]
 ·rw[List.getElem?_eq_none (by rw[List.length_take,k.1,Nat.min_eq_left hl];exact Nat.le_of_not_lt hi),List.getElem?_eq_none (by rw[e'];exact Nat.le_of_not_lt hi)]
theorem zgq {a:PE}{v:V}{b:Bool}(ea:evE true F ρ a h=.ok v h) (e:pyIs v .none=some b):evE true F ρ (.cmp .isNot a .none) h=.ok (.bool (!b)) h:=by
 rw[zal,ea,R.bind_ok];show R.opt (((pyIs v .none).map (!·)).map V.bool) h=_;rw[e];rfl
theorem zqc {w:List Nat}(h0:0 < w.length):(V.nats w)[0]?=some (.int (hd w)):=zd4 (by
 unfold hd;rw[List.getD_eq_getElem?_getD,List.getElem?_eq_getElem h0];rfl)
noncomputable def rgBody:List PS:=[
  .asg 9 (.call true "next_sign" [.var 3,.var 6,.var 8]),
  .expr (.append (.var 7) (.idx (.bin .add (.var 6) (.tup [.var 9])) (.int 0))),
  .asg 6 (.rev (.bin .add (.var 6) (.tup [.var 9])))]
structure St10 (h:H) (B:List (List Nat)) (m:List Nat) (c:Nat) (es L:List (List Nat)) (j:List Nat) (g:H):Prop where
 ext:Ext h g
 lf:∃ K r C,Lf h.length g h.length K r C L∧(∀ w∈L,pre w∈K)∧∀ x∈K,c≠r x
 fc:g[c]?=some (.list (V.nats (es.map hd)))
 tr:Tr m B es L j
 bal:Bal L j (pre m)
 all:AllR L j
theorem zn8 (u:zaL P){m j:List Nat}{c:Nat}{es L:List (List Nat)}{S Z bv wd fi sg:V}(nd:L.Nodup) (h0:∀ w∈L,0 < w.length) (h9:∀ w∈L,w.length≤9) (hn:L.length < 64) (he:es.length≤900) (hc:h.length≤c) (hL:L≠[]) (s:St10 h B m c es L j g) :
  ∃ e sg' g',e∈L∧St10 h B m c (es++[e]) (L.erase e) (suf e) g'∧exSs true (run P (n+2)) rgBody (Er S Z bv (.ref h.length) wd fi (V.tw j) (.ref c) (.int (L.length:Nat)) sg) g=.ok .next (Er S Z bv (.ref h.length) wd fi (V.tw (suf e)) (.ref c) (.int (L.length:Nat)) sg') g':=by
 obtain⟨K,r,C,f,hK,hr⟩:=s.lf;obtain⟨x,hx,px,gx⟩:=zkW nd s.bal s.all hL;have hj:j∈K:=px ▸ hK x hx;obtain⟨a,C',g1,e1,kp,f1,hw,gd,lst'⟩:=zme (n:=n) u f nd h0 h9 hj hn ⟨x,hx,px,gx⟩;have hjl:j.length≤8:=by have:=h9 _ hw;rw[List.length_append] at this;exact Nat.le_of_succ_le_succ this
 have fc1:g1[c]?=some (.list (V.nats (es.map hd))):=by rw[kp.2 c hr];exact s.fc
 have cl:c < g1.length:=(List.getElem?_eq_some_iff.1 fc1).1;have ea:∀ (j':V) (g':H),evEs true (run P (n+2)) (Er S Z bv (.ref h.length) wd fi (V.tw j) (.ref c) (.int (L.length:Nat)) sg) [.var 3,.var 6,.var 8] g'=.ok [.ref h.length,V.tw j,.int (L.length:Nat)] g':=fun z_ z_=>rfl;have t1:=zj2 (F:=run P (n+2)) (ρ:=Er S Z bv (.ref h.length) wd fi (V.tw j) (.ref c) (.int (L.length:Nat)) (.int a)) (h:=g1) (a:=.var 6) (c:=.var 9) (j:=j) (s:=a) rfl rfl (Nat.le_trans hjl (by decide))
 have t2:evE true (run P (n+2)) (Er S Z bv (.ref h.length) wd fi (V.tw j) (.ref c) (.int (L.length:Nat)) (.int a)) (.idx (.bin .add (.var 6) (.tup [.var 9])) (.int 0)) g1=.ok (.int (hd (j++[a]))) g1:=by
  rw[zar,t1,R.bind_ok,zb7,R.bind_ok,show pyIdx g1 (V.tw (j++[a])) (.int 0)=some (.int (hd (j++[a]))) from zoI (j:=0) (zqc (by rw[List.length_append];exact Nat.succ_pos _))];rfl
 have t3:=zb0 (F:=run P (n+2)) (ρ:=Er S Z bv (.ref h.length) wd fi (V.tw j) (.ref c) (.int (L.length:Nat)) (.int a)) (o:=.var 7) rfl fc1 t2 (by rw[nats_length,List.length_map];exact Nat.le_trans he (by decide))
 have e4:V.nats (es.map hd)++[.int (hd (j++[a]))]=V.nats ((es++[j++[a]]).map hd):=by rw[List.map_append,zam];rfl
 rw[e4] at t3;have f2:Lf h.length (g1.set c (.list (V.nats ((es++[j++[a]]).map hd)))) h.length K r C' (L.erase (j++[a])):=by
  refine⟨⟨?_,fun i hi=>?_,f1.W.nd,f1.W.inj,f1.W.lo⟩,f1.nd,f1.mem,f1.inK⟩
  ·rw[List.getElem?_set_ne (fun q=>by have:=f1.W.dc;rw[←q,fc1] at this;cases this)];exact f1.W.dc
  ·rw[List.getElem?_set_ne (hr i hi)];exact f1.W.ls i hi
 refine⟨j++[a],.int a,_,hw,⟨(s.ext.keep kp f.W.lo).set hc _,⟨K,r,C',f2,fun w hw=>hK w (List.mem_of_mem_erase hw),hr⟩,?_,.next s.tr hw (zex j a) gd (fun w hw e hl=>?_),?_,gd⟩,?_⟩
 ·rw[List.getElem?_set_self cl]
 ·have e':=zb8 (h0 w hw)
  rw[e] at e';rw[znl] at hl;rw[←e'] at hw ⊢
  exact lst' _ hl hw
 ·exact s.bal.step hw (zex j a)
 ·unfold rgBody
  rw[zbE (callT (ea (V.tw j) g) e1)];show exSs true (run P (n+2)) _ (Er S Z bv (.ref h.length) wd fi (V.tw j) (.ref c) (.int (L.length:Nat)) (.int a)) g1=_;rw[zbD t3,zbE (zfO (a:=.var 6) (c:=.var 9) (j:=j) (s:=a) rfl rfl (Nat.le_trans hjl (by decide)))];rfl
end
section
variable {P:Tab}{n b d:Nat}{h g:H}{F:Fn}{ρ:List V}
theorem zoZ {x:PE}{N:Nat}(hx:evE true F ρ x h=.ok (.int (N:Nat)) h) (hN:1≤N) (hm:N≤1000):evIt true F ρ (.range3 (.bin .sub x (.int 1)) (.int 0) (.neg 1)) h=.ok ((List.range (N - 1)).map fun i:Nat=>V.int (((N - 1:Nat):Int) - (i:Int)),Option.none) h:=by
 have e1:evE true F ρ (.bin .sub x (.int 1)) h=.ok (.int ((N - 1:Nat):Int)) h:=by
  refine(zmX (y:=1) hx rfl).trans ?_;rw[Int.ofNat_sub hN];rfl
 rw[zqM,e1,R.bind_ok];show(if -1000000≤((N - 1:Nat):Int)∧((N - 1:Nat):Int)≤1000000∧-1000000≤(0:Int)∧(0:Int)≤1000000 then rng3 ((N - 1:Nat):Int) 0 (-1) h else .bad)=_;rw[if_pos ⟨Int.le_trans (by decide) (Int.natCast_nonneg _),Int.ofNat_le.2 (Nat.le_trans (Nat.sub_le ..) (Nat.le_trans hm (by decide))),by decide,by decide⟩]
 show(if(-1:Int)=-1 then R.ok (downTo ((N - 1:Nat):Int) 0,Option.none) h else .bad)=_;rw[if_pos rfl];unfold downTo;rw[Int.sub_zero,Int.toNat_natCast]
inductive InvR (h:H) (B:List (List Nat)) (m:List Nat) (c:Nat) (S Z bv wv fi:V) (k:Nat):List V→H→Prop
 |mk (es L':List (List Nat)) (j:List Nat) (mv sg:V) (g:H) (st:St10 h B m c es L' j g) (hes:es.length=k+1):InvR h B m c S Z bv wv fi k (Er S Z bv (.ref h.length) wv fi (V.tw j) (.ref c) mv sg) g
theorem zfq {B:List (List Nat)}{m:List Nat}(hm:m∈B) (nd:B.Nodup){es L':List (List Nat)}{j:List Nat}(t:Tr m B es L' j):es.length+L'.length=B.length∧L'.Nodup∧∀ x∈L',x∈B:=by
 have p:=t.perm hm;exact⟨by rw[←List.length_append,p.length_eq],(List.nodup_append.1 (p.nodup_iff.2 nd)).2.1,fun x hx=>p.mem_iff.1 (List.mem_append_right _ hx)⟩
theorem zka (u:zaL P){B:List (List Nat)}{m:List Nat}{g1:H}{c:Nat}{S Z bv wv fi:V}{it:PIt}(hm:m∈B) (nd:B.Nodup) (h0:∀ w∈B,0 < w.length) (h9:∀ w∈B,w.length≤9) (hn:B.length < 64) (hc:h.length≤c)
  (ie:evIt true (run P (n+4)) (Er S Z bv (.ref h.length) wv fi (V.tw (suf m)) (.ref c) .undef .undef) it g1=.ok ((List.range (B.length - 1)).map fun i:Nat=>V.int (((B.length - 1:Nat):Int) - (i:Int)),Option.none) g1) (st0:St10 h B m c [m] (B.erase m) (suf m) g1) :
  ∃ es g' j mv sg,exS true (run P (n+4)) (.for1 8 it rgBody) (Er S Z bv (.ref h.length) wv fi (V.tw (suf m)) (.ref c) .undef .undef) g1=.ok .next (Er S Z bv (.ref h.length) wv fi (V.tw j) (.ref c) mv sg) g'∧St10 h B m c es [] j g':=by
 obtain⟨ρ',g',e,⟨es,L',j,mv,sg,g',st,hes⟩⟩:=zdQ (F:=run P (n+4)) (x:=8) (body:=rgBody) (fun p=>InvR h B m c S Z bv wv fi p.length) ie (fun z_ z_ z_ z_=>rfl) (InvR.mk [m] _ _ _ _ _ st0 rfl) (fun p a q' ρ g hp I=>by
  obtain⟨es,L',j,mv,sg,g,st,hes⟩:=I;obtain⟨rfl,hlt⟩:=range_at hp;obtain⟨n1,n2,n3⟩:=zfq hm nd st.tr;have hl:L'.length=B.length - 1 - p.length:=by
   rw[←n1,hes,Nat.add_right_comm,Nat.add_sub_cancel,Nat.add_sub_cancel_left]
  have hpos:0 < L'.length:=by rw[hl];exact Nat.sub_pos_of_lt hlt
  obtain⟨e',sg',g',he',st',ex⟩:=zn8 (n:=n+2) (S:=S) (Z:=Z) (bv:=bv) (wd:=wv) (fi:=fi) (sg:=sg) u n2 (fun x hx=>h0 x (n3 x hx)) (fun x hx=>h9 x (n3 x hx)) (Nat.lt_of_le_of_lt (by rw[←n1];exact Nat.le_add_left ..) hn) (Nat.le_trans (by rw[←n1];exact Nat.le_add_right ..) (Nat.le_trans (Nat.le_of_lt hn) (by decide))) hc (fun e=>by rw[e] at hpos;exact absurd hpos (Nat.lt_irrefl 0)) st
  have em:(((B.length - 1:Nat):Int) - (p.length:Int))=(L'.length:Nat):=by rw[hl,Int.ofNat_sub (Nat.le_of_lt hlt)]
  refine⟨_,g',?_,es++[e'],_,_,.int (L'.length:Nat),sg',_,st',by rw[List.length_append,List.length_append,hes];rfl⟩
  show exSs true (run P (n+4)) rgBody (Er S Z bv (.ref h.length) wv fi (V.tw j) (.ref c) (.int (((B.length - 1:Nat):Int) - (p.length:Int))) sg) g=_;rw[em];exact ex)
 rw[List.length_range] at hes;obtain⟨n1,_,_⟩:=zfq hm nd st.tr;have hL':L'=[]:=List.eq_nil_of_length_eq_zero (by
  rw[hes,Nat.sub_add_cancel (List.length_pos_of_mem hm)] at n1;exact Nat.add_left_cancel (n:=B.length) (k:=0) n1)
 subst hL';exact⟨es,g',j,mv,sg,e,st⟩
theorem zlX (u:za6 P){S Z:Nat}{bv:V}{L:List (V × List Nat)}(hf:Fit S Z) (hb:HB h bv L) (w:GW S Z (L.map (·.2))) (jb:JB (L.map (·.2))) (hZ:1≤Z∧Z≤8) :
  (∃ es g' c m,run P (n+5) true "ring_of" [.int S,.int Z,bv] h=.ok (.ref c) g'∧Ext h g'∧h.length≤c∧g'[c]?=some (.list (V.nats (es.map hd)))∧Fine (L.map (·.2)) m∧Tr m (L.map (·.2)) es [] (pre m))∨run P (n+5) true "ring_of" [.int S,.int Z,bv] h=.err "NoRing" h∧¬ Whole (L.map (·.2)):=by
 have hv:=(zbY hb.it).val;have e0:evE true (run P (n+4)) (Er (.int S) (.int Z) bv .undef .undef .undef .undef .undef .undef .undef) (.call false "need_book" [.var 0,.var 1,.var 2]) h=.ok .none h:=zbu (zba (v:=.int S) rfl trivial) (zba (v:=.int Z) rfl trivial) (zba (v:=bv) rfl hv) (zkz u.need_book hf hb w);have hLn:L.length < 64:=by have:=jb.cnt;rw[List.length_map] at this;exact this
 rcases zkI (n:=n+2) u.lack_of hb jb with⟨m,fi,el⟩|⟨nw,a,c,el⟩
 ·refine .inl ?_
  obtain⟨le,bal,all⟩:=fi;have h0:∀ x∈L.map (·.2),0 < x.length:=fun x hx=>by rw[w.len x hx];exact hZ.1
  have h9:∀ x∈L.map (·.2),x.length≤9:=fun x hx=>by rw[w.len x hx];exact Nat.le_succ_of_le hZ.2
  obtain⟨g,K,r,wv,e2,x2,f,hK⟩:=zml (F:=run P (n+4)) (S:=.int S) (Z:=.int Z) hb (Nat.le_trans (Nat.le_of_lt hLn) (by decide)) w.nodup h0
  have hbg:=x2.B hb;obtain⟨q,hq,em,lq⟩:=znk (F:=run P (n+4)) (ρ:=Er (.int S) (.int Z) bv (.ref h.length) wv .undef .undef .undef .undef .undef) (a:=.var 2) (zba rfl hv) hbg (fun e=>w.ne (by rw[e];rfl))
  have hqm:q.2=m:=lq.eq le;have iq:IsL g q.1 m:=hqm ▸ hbg.wd q hq;have m0:=h0 m le.1;have v5:∀ j c mn sg,evE true (run P (n+4)) (Er (.int S) (.int Z) bv (.ref h.length) wv q.1 j c mn sg) (.var 5) g=.ok q.1 g:=fun j c mn sg=>zba rfl iq.val;have e3:=zdP (zfo (v5 .undef .undef .undef .undef) iq) (IsL.lst _ _);have hKm:=hK m le.1;have hlm:lst m∈sgs (L.map (·.2)) (pre m):=(f.mem _ _).2 (by rw[zb8 m0];exact le.1)
  have e4:=zpy (F:=run P (n+4)) (ρ:=Er (.int S) (.int Z) bv (.ref h.length) wv q.1 (V.tw (suf m)) .undef .undef .undef) (idxW f.W hKm (o:=.var 3) rfl (zdP (zdi (v5 (V.tw (suf m)) .undef .undef .undef) iq) (IsL.lst _ _))) (f.W.ls _ hKm) (zkH (v5 (V.tw (suf m)) .undef .undef .undef) iq m0) hlm (by
   unfold sgs;rw[List.length_map];exact Nat.le_trans (List.length_filter_le ..) (Nat.le_trans (Nat.le_of_lt jb.cnt) (by decide)))
  have f1:=f.take (a:=lst m) w.nodup hKm;rw[zb8 m0] at f1;have x3:=x2.set (f.W.lo _ hKm) (.list (V.nats ((sgs (L.map (·.2)) (pre m)).erase (lst m))));generalize g.set (r (pre m)) (.list (V.nats ((sgs (L.map (·.2)) (pre m)).erase (lst m))))=g1 at e4 f1 x3;have e5:evE true (run P (n+4)) (Er (.int S) (.int Z) bv (.ref h.length) wv q.1 (V.tw (suf m)) .undef .undef .undef) (.own (.list [.idx (.var 5) (.int 0)])) g1=.ok (.ref g1.length) (g1++[.list (V.nats ([m].map hd))]):=by
   refine zdS ?_;have iq1:IsL g1 q.1 m:=hqm ▸ (x3.B hb).wd q hq;rw[zaw,zak (zfy (j:=0) (i:=.int 0) (zba (i:=5) rfl iq1.val) rfl iq1 (zqc m0)) rfl];rfl
  have st0:St10 h (L.map (·.2)) m g1.length [m] ((L.map (·.2)).erase m) (suf m) (g1++[.list (V.nats ([m].map hd))]) :=
   ⟨x3.app _,⟨K,r,_,f1.app _,fun x hx=>hK x (List.mem_of_mem_erase hx),fun x hx q=>absurd (List.getElem?_eq_some_iff.1 (f1.W.ls x hx)).1 (by rw[q];exact Nat.lt_irrefl _)⟩,zbs _ _,.first,bal.step le.1 rfl,zjp bal all le.1 rfl⟩
  have hN:(L.map (·.2)).length=L.length:=List.length_map ..
  have ie:=zoZ (F:=run P (n+4)) (ρ:=Er (.int S) (.int Z) bv (.ref h.length) wv q.1 (V.tw (suf m)) (.ref g1.length) .undef .undef) (h:=g1++[.list (V.nats ([m].map hd))]) (x:=.bf .len (.var 2)) (zbk (a:=.var 2) (zba (v:=bv) rfl hv) ((x3.app _).B hb).it) (by rw[List.length_map,← hN];exact List.length_pos_of_mem le.1) (by rw[List.length_map];exact Nat.le_trans (Nat.le_of_lt hLn) (by decide))
  rw[List.length_map,← hN] at ie;obtain⟨es,g',j,mv,sg,e,st⟩:=zka (n:=n) u.next_sign le.1 w.nodup h0 h9 jb.cnt x3.len ie st0;refine⟨es,g',g1.length,m,?_,st.ext,x3.len,st.fc,⟨le,bal,all⟩,st.bal.nil ▸ st.tr⟩;exact start u.self rfl (ρ:=Er (.int S) (.int Z) bv .undef .undef .undef .undef .undef .undef .undef) rfl (zce e0 (zb1 (h':=h) (zgq (zdV (a:=.var 2) (zba (v:=bv) rfl hv) el) rfl) (zaT (v:=.ref h.length) (h':=h++[Cell.dict []]) rfl (ρ':=Er (.int S) (.int Z) bv (.ref h.length) .undef .undef .undef .undef .undef .undef) rfl (zcM e2 (zaT em (ρ':=Er (.int S) (.int Z) bv (.ref h.length) wv q.1 .undef .undef .undef .undef) rfl (zaT e3 (ρ':=Er (.int S) (.int Z) bv (.ref h.length) wv q.1 (V.tw (suf m)) .undef .undef .undef) rfl (zce e4 (zaT e5 (ρ':=Er (.int S) (.int Z) bv (.ref h.length) wv q.1 (V.tw (suf m)) (.ref g1.length) .undef .undef) rfl (zcM e (zbw rfl))))))))))
 ·exact .inr ⟨start u.self rfl (ρ:=Er (.int S) (.int Z) bv .undef .undef .undef .undef .undef .undef .undef) rfl (zce e0 (zgT (h':=h) (zgq (zdV (a:=.var 2) (zba (v:=bv) rfl hv) el) rfl) rfl)),nw⟩
end
section
variable {P:Tab}{n b d:Nat}{h g:H}{F:Fn}{ρ:List V}{es:List (List Nat)}{Z:Nat}
theorem zc7 {α:Type}{l:List α}{i:Nat}{d:α}(hi:i < l.length):l[i]?=some (l.getD i d):=by
 rw[List.getD_eq_getElem?_getD,List.getElem?_eq_getElem hi];rfl
theorem zea {α:Type}{l:List α}{i:Nat}{d:α}(hi:i < l.length):l.getD i d∈l:=List.mem_of_getElem? (zc7 hi)
theorem zru (len:∀ w∈es,w.length=Z) (ch:∀ i,i < es.length→suf (es.getD i [])=pre (es.getD ((i+1) % es.length) [])):∀ k i,i < es.length→k < Z→(es.getD i [])[k]?=some (hd (es.getD ((i+k) % es.length) [])):=by
 intro k
 induction k with
 |zero =>
  intro i hi hk;rw[Nat.add_zero,Nat.mod_eq_of_lt hi];exact zc7 (by rw[len _ (zea hi)];exact hk)
 |succ k ih =>
  intro i hi hk;have h0:0 < es.length:=Nat.zero_lt_of_lt hi;have hj:=Nat.mod_lt (i+1) h0;have e1:(es.getD i [])[k+1]?=(suf (es.getD i []))[k]?:=by
   unfold suf;rw[List.getElem?_drop,Nat.add_comm 1 k]
  have e2:∀ w:List Nat,w.length=Z→(pre w)[k]?=w[k]?:=fun w hw=>by
   unfold pre;rw[List.getElem?_take_of_lt (by rw[hw];exact Nat.lt_sub_of_add_lt hk)]
  rw[e1,ch i hi,e2 _ (len _ (zea hj)),ih _ hj (Nat.lt_of_succ_lt hk),Nat.mod_add_mod,Nat.add_assoc,Nat.add_comm 1 k]
theorem zqV (len:∀ w∈es,w.length=Z) (ch:∀ i,i < es.length→suf (es.getD i [])=pre (es.getD ((i+1) % es.length) [])){i:Nat}(hi:i < es.length):rd (es.map hd) Z i=es.getD i []:=by
 refine List.ext_getElem? fun k=>?_
 by_cases hk:k < Z
 ·rw[zru len ch k i hi hk]
  unfold rd;rw[List.getElem?_map,List.getElem?_range hk,List.length_map,Option.map_some,List.getD_eq_getElem?_getD,List.getElem?_map,zc7 (Nat.mod_lt _ (Nat.zero_lt_of_lt hi)) (d:=[])];rfl
 ·rw[List.getElem?_eq_none (by rw[zeu];exact Nat.le_of_not_lt hk),List.getElem?_eq_none (by rw[len _ (zea hi)];exact Nat.le_of_not_lt hk)]
theorem Tr.closed {m:List Nat}{B:List (List Nat)}(t:Tr m B es [] (pre m)):∀ i,i < es.length→suf (es.getD i [])=pre (es.getD ((i+1) % es.length) []):=by
 obtain⟨q,e1,e2,e3⟩:=t.chain;intro i hi
 by_cases hl:i+1 < es.length
 ·rw[Nat.mod_eq_of_lt hl]
  exact e2 i _ _ (zc7 hi) (zc7 hl)
 ·have hi':i+1=es.length:=Nat.le_antisymm hi (Nat.le_of_not_lt hl)
  rw[hi',Nat.mod_self,e3 _ (by rw[←hi',Nat.add_sub_cancel];exact zc7 hi),e1];rfl
theorem zqg (u:zdJ P){v:V}{l:List Nat}(hl:IsL h v l) (h0:0 < l.length){p z:Nat}(hp:p < l.length) (hz:z≤1000) :
  pcall h (run P (n+1) true "_law_from" [v,.int p,.int z] h)=.ok (.lst (V.nats (rd l z p))) h:=by
 have cond:∀ i:Nat,evE true (run P n) [v,.int (((p+i) % l.length:Nat):Int),.int z,.ref h.length] (.cmp .lt (.bf .len (.var 3)) (.var 2)) (h++[.list (V.nats (rd l i p))])=.ok (.bool (decide ((i:Int) < z))) (h++[.list (V.nats (rd l i p))]):=fun i=>by
  have e1:=zkD (F:=run P n) (ρ:=[v,.int (((p+i) % l.length:Nat):Int),.int z,.ref h.length]) (i:=3) rfl (zaa (cell_get h (Cell.list (V.nats (rd l i p)))));rw[nats_length,zeu] at e1;rw[zal,e1];rfl
 have e:run P (n+1) true "_law_from" [v,.int p,.int z] h=.ok (.ref h.length) (h++[.list (V.nats (rd l z p))]):=by
  refine start u.self rfl (ρ:=[v,.int p,.int z,.undef]) rfl ?_;refine zaT (v:=.ref h.length) (h':=h++[.list []]) rfl (ρ':=[v,.int p,.int z,.ref h.length]) rfl ?_;refine zos (fun i=>[v,.int (((p+i) % l.length:Nat):Int),.int z,.ref h.length]) (fun i=>h++[.list (V.nats (rd l i p))]) z (zd6 (Nat.le_trans hz (by decide))) (by rw[Nat.add_zero,Nat.mod_eq_of_lt hp]) rfl (fun i hi=>?_) (fun i hi=>?_) ?_ (zbw rfl)
  ·rw[cond i,decide_eq_true (Int.ofNat_lt.2 hi)]
  ·have e0:=cell_get h (Cell.list (V.nats (rd l i p)))
   have e3:V.nats (rd l (i+1) p)=V.nats (rd l i p)++[.int ((l.getD ((p+i) % l.length) 0:Nat):Int)]:=by
    rw[rd,List.range_succ,List.map_append,zam];rfl
   have hlen:(V.nats (rd l i p)).length=i:=by rw[nats_length,zeu]
   have eg:=zh3 h0 (p+i);rw[zmf h0 i,e3];generalize l.getD ((p+i) % l.length) 0=d at *
   generalize (p+i) % l.length=m at *
   generalize V.nats (rd l i p)=vs at *
   have ea:=zb0 (F:=run P n) (ρ:=[v,.int m,.int z,.ref h.length]) (o:=.var 3) (a:=.idx (.var 0) (.var 1)) (y:=.int d) rfl e0 (zfy (j:=m) (zba rfl hl.val) rfl (hl.app _) (zd4 eg)) (by rw[hlen];exact Nat.le_trans (Nat.le_of_lt hi) hz)
   rw[cell_set] at ea;have ec:evE true (run P n) [v,.int (m+1),.int z,.ref h.length] (.cmp .eq (.var 1) (.bf .len (.var 0))) (h++[.list (vs++[.int d])])=.ok (.bool (decide ((m:Int)+1=l.length))) (h++[.list (vs++[.int d])]) :=
    zfh rfl (by rw[zkD (w:=v) rfl (hl.app _),nats_length])
   rw[zbD ea,zbE (zfi (x:=m) (y:=1) rfl rfl)];show exSs true (run P n) [.ifs (.cmp .eq (.var 1) (.bf .len (.var 0))) [.asg 1 (.int 0)] []] [v,.int (m+1),.int z,.ref h.length] (h++[.list (vs++[.int d])])=_
   by_cases hm:m+1=l.length
   ·rw[decide_eq_true (p:=(m:Int)+1=l.length) (Int.natCast_inj.2 hm)] at ec
    rw[if_pos hm,zc0 ec];rfl
   ·rw[decide_eq_false (p:=(m:Int)+1=l.length) fun e=>hm (Int.natCast_inj.1 e)] at ec
    rw[if_neg hm,zcG ec];rfl
  ·rw[cond z,decide_eq_false (Int.lt_irrefl _)]
 rw[e,zdk _ _ (zoM h _)]
end
section
variable {P:Tab}{n b d:Nat}{h g:H}{F:Fn}{ρ:List V}{B L:List (List Nat)}{Z:Nat}
theorem itB {i:Nat}(e:ρ[i]?=some (.lst (V.lists B))):evIt true F ρ (.seq (.var i)) h=.ok (B.map fun l=>V.lst (V.nats l),Option.none) h:=zfw (zba e trivial)
theorem eqLL {v w:V}{x y:List (List Nat)}(hv:litems h v=some (V.lists x)) (hw:litems h w=some (V.lists y)):pyEq h v w=some (decide (x=y)):=zki (zcR hv (lists_plains _)) (zcR hw (lists_plains _))
theorem zo1 {α:Type}{p q r:α→Bool}(hp:∀ a,p a=true→r a=true∧q a=false){l:List α}(hq:∀ a∈l,q a=true→r a=true):(l.filter p).length+(l.filter q).length≤(l.filter r).length:=by
 induction l with
 |nil=>exact Nat.le_refl _
 |cons a l ih =>
  have ih:=ih fun a ha=>hq a (List.mem_cons_of_mem _ ha)
  by_cases h1:p a=true
  ·rw[List.filter_cons_of_pos h1,List.filter_cons_of_pos (hp a h1).1,List.filter_cons_of_neg (by rw[(hp a h1).2];exact Bool.false_ne_true),List.length_cons,List.length_cons,Nat.add_right_comm]
   exact Nat.succ_le_succ ih
  ·rw[List.filter_cons_of_neg h1]
   by_cases h2:q a=true
   ·rw[List.filter_cons_of_pos h2,List.filter_cons_of_pos (hq a (List.mem_cons_self ..) h2),List.length_cons,List.length_cons,← Nat.add_assoc]
    exact Nat.succ_le_succ ih
   ·rw[List.filter_cons_of_neg h2]
    refine Nat.le_trans ih ?_
    by_cases h3:r a=true
    ·rw[List.filter_cons_of_pos h3];exact Nat.le_succ _
    ·rw[List.filter_cons_of_neg h3];exact Nat.le_refl _
structure Fo (L:List (List Nat)) (s:List Nat) (M:List (List Nat)):Prop where
 rch:∀ x∈M,Rch L s x
 here:s∈M
 cnt:M.length≤1+cS L M
noncomputable def mre (L M:List (List Nat)) (t:List Nat):List (List Nat):=(L.filter fun w=>decide (pre w=t)&&!decide (suf w∈M)).map suf
theorem Fo.len {s:List Nat}{M:List (List Nat)}(f:Fo L s M):M.length≤L.length+1:=by
 rw[Nat.add_comm];exact Nat.le_trans f.cnt (Nat.add_le_add_left (List.length_filter_le ..) 1)
theorem Fo.more {s t:List Nat}{M:List (List Nat)}(f:Fo L s M) (ht:t∈M):Fo L s (M++mre L M t)∧∀ w∈L,pre w=t→suf w∈M++mre L M t:=by
 refine⟨⟨fun x hx=>?_,List.mem_append_left _ f.here,?_⟩,fun w hw e=>?_⟩
 ·rcases List.mem_append.1 hx with hx|hx
  ·exact f.rch x hx
  ·obtain⟨w,hw,rfl⟩:=List.mem_map.1 hx
   obtain⟨h1,h2⟩:=List.mem_filter.1 hw;exact .step h1 (by rw[of_decide_eq_true (Bool.and_eq_true_iff.1 h2).1];exact f.rch t ht)
 ·rw[List.length_append]
  refine Nat.le_trans (Nat.add_le_add_right f.cnt _) ?_;rw[Nat.add_assoc];refine Nat.add_le_add_left ?_ 1;unfold mre cS;rw[List.length_map];refine zo1 (fun a ha=>?_) fun a hm ha=>?_
  ·have:=of_decide_eq_true ha
   exact⟨decide_eq_true (List.mem_append_left _ this),by rw[decide_eq_true this];exact Bool.and_false _⟩
  ·exact decide_eq_true (List.mem_append_right _ (List.mem_map.2 ⟨a,List.mem_filter.2 ⟨hm,ha⟩,rfl⟩))
 ·by_cases h1:suf w∈M
  ·exact List.mem_append_left _ h1
  ·exact List.mem_append_right _ (List.mem_map.2 ⟨w,List.mem_filter.2 ⟨hw,by rw[decide_eq_true e,decide_eq_false h1];rfl⟩,rfl⟩)
end
section
variable {m:List Nat}{B es L:List (List Nat)}{j:List Nat}
theorem Tr.pos (t:Tr m B es L j):es.length≠0:=by
 obtain⟨q,e,_⟩:=t.chain;rw[e];exact Nat.succ_ne_zero _
theorem Tr.same (h0:∀ w∈B,0 < w.length) (hm:m∈B) (t:Tr m B es L j):∀ {es' L':List (List Nat)}{j':List Nat},Tr m B es' L' j'→es.length=es'.length→es=es'∧L=L'∧j=j':=by
 induction t with
 |first =>
  intro es' L' j' t' hl
  cases t' with
  |first=>exact⟨rfl,rfl,rfl⟩
  |next t1 he hp hg hle =>
   rw[List.length_append] at hl;exact absurd (Nat.succ.inj hl).symm t1.pos
 |@next es L j e t he hp hg hle ih =>
  intro es' L' j' t' hl
  cases t' with
  |first =>
   rw[List.length_append] at hl;exact absurd (Nat.succ.inj hl) t.pos
  |@next _ _ _ e1 t1 he1 hp1 hg1 hle1 =>
   rw[List.length_append,List.length_append] at hl;obtain⟨rfl,rfl,rfl⟩:=ih t1 (Nat.succ.inj hl);have sub:∀ w∈L,0 < w.length:=fun w hw=>h0 w ((t.perm hm).mem_iff.1 (List.mem_append_right _ hw));have:e=e1:=by
    rcases Nat.lt_trichotomy (lst e) (lst e1) with h|h|h
    ·exact absurd hg (hle1 e he hp h)
    ·rw[←zb8 (sub e he),← zb8 (sub e1 he1),hp,hp1,h]
    ·exact absurd hg1 (hle e1 he1 hp1 h)
   subst this;exact⟨rfl,rfl,rfl⟩
end
theorem ziY:∀ {B W:List (List Nat)},B.Nodup→(∀ w∈B,w∈W)→W.length=B.length→W.Perm B
 |[],W,_,_,h=>by rw[List.eq_nil_of_length_eq_zero h]
 |b::B,W,nd,sub,h=>by
  have hb:=sub b (List.mem_cons_self ..);rw[List.nodup_cons] at nd;refine(List.perm_cons_erase hb).trans ((ziY nd.2 (fun w hw=>?_) ?_).cons b)
  ·exact(List.mem_erase_of_ne (a:=w) (b:=b) fun e=>nd.1 (e ▸ hw)).2 (sub w (List.mem_cons_of_mem _ hw))
  ·rw[List.length_erase_of_mem hb,h];rfl
section
variable {P:Tab}{n:Nat}{h g:H}{F:Fn}{ρ:List V}{S Z:Nat}{v:V}{l:List Nat}
theorem zng (u:zaM P) (hl:IsL h v l) (h1:1≤l.length) (h2:l.length≤256) (hd:∀ d∈l,d < S):pcall h (run P (n+2) true "need_ring" [.int S,v] h)=.ok .none h:=by
 have v1:evE true (run P (n+1)) [.int S,v,.undef] (.var 1) h=.ok v h:=zba rfl hl.val;have ln:=zbk v1 hl;rw[nats_length] at ln;obtain⟨t,ht,hto⟩:=zgm hl;have hit:evIt true (run P (n+1)) [.int S,v,.undef] (.seq (.var 1)) h=.ok (l.map V.nat,t) h:=by rw[zof,v1,R.bind_ok,ht];rfl
 rw[start u.self rfl (ρ:=[.int S,v,.undef]) rfl (zb1 (zon (zcf (ziE v1 hl)) (zcf (zkG (x:=1) rfl ln (z:=256) rfl h1 h2))) (zkx (fun z_ w=>[.int S,v,w]) (fun z_=>h) .undef hit (fun z_=>hto) rfl rfl (fun p a q w hp=>?_) fun z_=>rfl)),pcall_none];have ha:a < S:=hd a (by rw[hp];exact List.mem_append_right _ (List.mem_cons_self ..))
 exact(zcG (zcf (zbu (v:=.int a) (w:=.int 0) (x:=.int ((S - 1:Nat):Int)) rfl rfl ((zmX (x:=S) (y:=1) rfl rfl).trans (by rw[Int.ofNat_sub (Nat.lt_of_le_of_lt (Nat.zero_le _) ha)];rfl)) (zeT (n:=n) u.is_among (lo:=0) (Nat.zero_le _) (Nat.le_sub_one_of_lt ha))))).trans rfl
theorem zpz (u:zcl P) (hl:IsL h v l) (h1:1≤l.length){z p:Nat}(hz:z≤8):pcall h (run P (n+1) true "read_at" [v,.int z,.int p] h)=.ok (.lst (V.nats (rd l z p))) h:=by
 have ec:=zdB (F:=run P n) (ρ:=[v,.int z,.int p,.undef]) (h:=h) (elt:=.idx (.var 0) (.bin .mod (.bin .add (.var 2) (.var 3)) (.bf .len (.var 0)))) (x:=3) (zeM (a:=.var 1) (n:=z) rfl (Nat.le_trans hz (by decide))) rfl (fun t:Nat=>V.int ((l.getD ((p+t) % l.length) 0:Nat):Int)) (fun t z_=>by
  have v0:evE true (run P n) [v,.int z,.int p,.int t] (.var 0) h=.ok v h:=zba rfl hl.val;have ln:=zbk v0 hl;rw[nats_length] at ln;exact zfy v0 (zmi (x:=p+t) (zfi (x:=p) (y:=t) rfl rfl) ln h1) hl (zd4 (zh3 h1 (p+t)))) (r:=.lst (V.nats (rd l z p))) (by
  have e:(List.range z).map (fun t:Nat=>V.int ((l.getD ((p+t) % l.length) 0:Nat):Int))=V.nats (rd l z p):=by unfold V.nats rd;rw[List.map_map];rfl
  rw[e,zcH (by rw[nats_length,zeu];exact Nat.le_trans hz (by decide))])
 rw[start u.self rfl (ρ:=[v,.int z,.int p,.undef]) rfl (zbw ec),zbA (zbJ _)]
theorem znJ (u:zay P) (hl:IsL h v l) (h1:1≤l.length) (h2:l.length≤256) (hd:∀ d∈l,d < 9) (z1:1≤Z) (z8:Z≤8):pcall h (run P (n+3) true "words_on" [v,.int Z] h)=.ok (.lst (V.lists (rws l Z))) h:=by
 have v0:∀ w,evE true (run P (n+2)) [v,.int Z,w] (.var 0) h=.ok v h:=fun w=>zba rfl hl.val;have e1:pcall h (run P (n+2) true "need_size" [.int Z] h)=.ok .none h:=by
  rw[start u.need_size.self rfl (ρ:=[.int Z]) rfl (zb1 (h':=h) (r:=.ok .none h) (zcf (zbu (b:=.int 1) (c:=.glob "MOST_SIZE" 8) (zba (v:=.int Z) rfl trivial) rfl rfl (zeT (n:=n) u.need_size.is_among (lo:=1) (hi:=8) z1 z8))) rfl),pcall_none]
 have ln:=zbk (v0 .undef) hl;rw[nats_length] at ln;have ec:=zdB (F:=run P (n+2)) (ρ:=[v,.int Z,.undef]) (h:=h) (elt:=.call false "read_at" [.var 0,.var 1,.var 2]) (x:=2) (zeM ln (Nat.le_trans h2 (by decide))) rfl (fun p=>.lst (V.nats (rd l Z p))) (fun p z_=>zbu (w:=.int Z) (x:=.int p) (v0 (.int p)) rfl rfl (zpz (n:=n+1) u.read_at hl h1 z8)) (r:=.lst (V.lists (rws l Z))) (by
  have e:(List.range l.length).map (fun p=>V.lst (V.nats (rd l Z p)))=V.lists (rws l Z):=by unfold V.lists rws;rw[List.map_map];rfl
  rw[e,zcH (by rw[zae,zfW];exact Nat.le_trans h2 (by decide))])
 rw[start u.self rfl (ρ:=[v,.int Z,.undef]) rfl (zce (zdV (a:=.var 1) (v:=.int Z) rfl e1) (zce (h':=h) ((zoY (g:="MOST_SIGNS") (k:=9) rfl hl.val).trans (zng (n:=n) (S:=9) u.need_ring hl h1 h2 hd)) (zbw ec))),zbA (v:=.lst (V.lists (rws l Z))) (lists_plains _)]
end
section
variable {P:Tab}{n:Nat}{h g:H}{F:Fn}{ρ:List V}{S Z:Nat}{v bv:V}{l:List Nat}{B:List (List Nat)}{L:List (V × List Nat)}
def RingOf (Z:Nat) (B:List (List Nat)) (l:List Nat):Prop:=l.length=B.length∧∀ w∈B,w∈rws l Z
theorem zlW (nd:B.Nodup) (e:l.length=B.length):srt (rws l Z)=srt B↔RingOf Z B l:=by
 refine⟨fun q=>⟨e,fun w hw=>?_⟩,fun q=>znd (ziY nd q.2 (by rw[zfW];exact e))⟩
 rw[←zhE,q,zhE];exact hw
theorem zmu (u:zaj P) (hf:Fit S Z) (hb:HB h bv L) (hL:L.map (·.1)=V.lists B) (hB:L.map (·.2)=B) (w:GW S Z B) (hn:B.length < 64) (hl:IsL h v l) (h1:1≤l.length) (h2:l.length≤256) (hd:∀ d∈l,d < S):∃ b:Bool,(b=true↔RingOf Z B l)∧pcall h (run P (n+5) true "is_ring_of" [.int S,.int Z,bv,v] h)=.ok (.bool b) h:=by
 subst hB;have hv:=(zbY hb.it).val;have it:=hb.it;rw[hL] at it;have v3:evE true (run P (n+4)) [.int S,.int Z,bv,v] (.var 3) h=.ok v h:=zba rfl hl.val;have v2:evE true (run P (n+4)) [.int S,.int Z,bv,v] (.var 2) h=.ok bv h:=zba rfl hv;have l3:=zbk v3 hl;have l2:=zbk v2 it;rw[nats_length] at l3;rw[zae] at l2;have e1:=zfh l3 l2;rw[decide_eq_decide.2 (Int.natCast_inj (m:=l.length) (n:=(L.map (·.2)).length))] at e1
 have st:∀ {b:Bool},evE true (run P (n+4)) [.int S,.int Z,bv,v] (.and [.cmp .eq (.bf .len (.var 3)) (.bf .len (.var 2)),.cmp .eq (.bf .sorted (.call false "words_on" [.var 3,.var 1])) (.bf .sorted (.var 2))]) h=.ok (.bool b) h→pcall h (run P (n+5) true "is_ring_of" [.int S,.int Z,bv,v] h)=.ok (.bool b) h:=fun e=>by
  rw[start u.self rfl (ρ:=[.int S,.int Z,bv,v]) rfl (zce (zbu (v:=.int S) (w:=.int Z) rfl rfl v2 (zkz (n:=n) u.need_book hf hb w)) (zce (zdU (v:=.int S) rfl v3 (zng (n:=n+2) u.need_ring hl h1 h2 hd)) (zbw e))),pcall_bool]
 by_cases q:l.length=(L.map (·.2)).length
 ·rw[decide_eq_true q] at e1
  have s1:=zbN (zdU (b:=.var 1) (w:=.int Z) v3 rfl (znJ (n:=n+1) u.words_on hl h1 h2 (fun d hm=>Nat.lt_of_lt_of_le (hd d hm) hf.s9) hf.z1 hf.z8)) (zcI (litems_lst _ _)) (zbW h (rws l Z) (by rw[zfW,q];exact hn))
  have s2:=zbN v2 (zcI it) (zbW h _ hn);exact⟨_,by rw[Bool.true_and,decide_eq_true_eq];exact zlW w.nodup q,st (zjy e1 fun z_=>zny s1 s2 (eqLL rfl rfl))⟩
 ·rw[decide_eq_false q] at e1
  exact⟨false,⟨fun e=>(nomatch e),fun e=>absurd e.1 q⟩,st (zjy (y:=true) e1 fun e=>nomatch e)⟩
theorem zkB (u:za9 P) (z8:Z≤8) (hb:litems h bv=some (V.lists B)) (hn:B.length < 64) (hl:IsL h v l) (h1:1≤l.length) (h2:l.length≤256):∃ b:Bool,(b=true↔RingOf Z B l)∧pcall h (run P (n+2) true "_law_is_ring" [v,.int Z,bv] h)=.ok (.bool b) h:=by
 have hv:=(zbY hb).val;have v0:∀ w x y z,evE true (run P (n+1)) [v,.int Z,bv,w,x,y,z] (.var 0) h=.ok v h:=fun z_ z_ z_ z_=>zba rfl hl.val;have v2:∀ w x y z,evE true (run P (n+1)) [v,.int Z,bv,w,x,y,z] (.var 2) h=.ok bv h:=fun z_ z_ z_ z_=>zba rfl hv;have l0:=zbk (v0 .undef .undef .undef .undef) hl;rw[nats_length] at l0;have l2:=zbk (v2 .undef .undef .undef .undef) hb;rw[zae] at l2;have e1:=zon (zcf (ziE (v0 .undef .undef .undef .undef) hl)) (znx l0 l2 (t:=decide (l.length=B.length)) (by rw[pyEq_int,decide_eq_decide.2 (Int.natCast_inj (m:=l.length) (n:=B.length))]))
 by_cases q:l.length=B.length
 ·rw[decide_eq_true q] at e1
  obtain⟨t,ht,hto⟩:=zgm hl;have hit:evIt true (run P (n+1)) [v,.int Z,bv,.undef,.undef,.undef,.undef] (.seq (.var 0)) h=.ok (l.map V.nat,t) h:=by rw[zof,v0,R.bind_ok,ht];rfl
  have c1:=zcB (elt:=.var 4) (cond:=.or [.isinst (.var 4) [.bool],.not (.isinst (.var 4) [.int])]) (x:=4) hit hto V.nat (fun z_=>false) (fun a z_=>rfl) (fun a z_ e=>nomatch e) (r:=.lst (V.lists [])) (by rw[List.filter_eq_nil_iff.2 fun z_ z_=>Bool.false_ne_true];rfl)
  have c2:=zdB (F:=run P (n+1)) (ρ:=[v,.int Z,bv,.undef,.undef,.undef,.undef]) (h:=h) (elt:=.call false "_law_from" [.var 0,.var 5,.var 1]) (x:=5) (zeM l0 (Nat.le_trans h2 (by decide))) rfl (fun p=>.lst (V.nats (rd l Z p))) (fun p hp=>zbu (w:=.int p) (x:=.int Z) (v0 .undef .undef (.int p) .undef) rfl rfl (zqg (n:=n) u.l_from hl h1 (List.mem_range.1 hp) (Nat.le_trans z8 (by decide)))) (r:=.lst (V.lists (rws l Z))) (by
   have e:(List.range l.length).map (fun p=>V.lst (V.nats (rd l Z p)))=V.lists (rws l Z):=by unfold V.lists rws;rw[List.map_map];rfl
   rw[e,zcH (by rw[zae,zfW];exact Nat.le_trans h2 (by decide))])
  obtain⟨t',ht',hto'⟩:=zgm hb;have hit':evIt true (run P (n+1)) [v,.int Z,bv,.lst (V.lists (rws l Z)),.undef,.undef,.undef] (.seq (.var 2)) h=.ok (B.map fun l=>V.lst (V.nats l),t') h:=by rw[zof,v2,R.bind_ok,ht'];rfl
  have c3:=zcB (elt:=.var 6) (cond:=.cmp .notIn (.var 6) (.var 3)) (x:=6) hit' hto' (fun w=>.lst (V.nats w)) (fun w=>!decide (w∈rws l Z)) (fun a z_=>zdm (v:=.lst (V.nats a)) (w:=.lst (V.lists (rws l Z))) rfl rfl (IsL.lst _ _) rfl) (fun a z_ z_=>rfl) (zcH (by rw[List.length_map];exact Nat.le_trans (List.length_filter_le ..) (Nat.le_trans (Nat.le_of_lt hn) (by decide))))
  refine⟨_,?_,by rw[start u.self rfl (ρ:=[v,.int Z,bv,.undef,.undef,.undef,.undef]) rfl (zb1 e1 (zb1 (znx (w:=.lst (V.lists [])) (t:=true) c1 rfl ((eqLL rfl rfl).trans (by rw[decide_eq_true rfl]))) (zaT c2 (ρ':=[v,.int Z,bv,.lst (V.lists (rws l Z)),.undef,.undef,.undef]) rfl (zbw (zny (w:=.lst (V.lists [])) c3 rfl (eqLL rfl rfl)))))),pcall_bool]⟩
  rw[decide_eq_true_eq,List.filter_eq_nil_iff];refine⟨fun p=>⟨q,fun w hw=>Classical.byContradiction fun e=>p w hw (by rw[decide_eq_false e];rfl)⟩,fun p w hw=>?_⟩
  rw[decide_eq_true (p.2 w hw)];decide
 ·rw[decide_eq_false q] at e1
  exact⟨false,⟨fun e=>(nomatch e),fun e=>absurd e.1 q⟩,by rw[start u.self rfl (ρ:=[v,.int Z,bv,.undef,.undef,.undef,.undef]) rfl (zgT e1 (zbw rfl)),pcall_bool]⟩
end
section
variable {P:Tab}{n:Nat}{h g:H}{F:Fn}{ρ:List V}{B:List (List Nat)}{j:List Nat}
noncomputable abbrev Eh (B:List (List Nat)) (w j b e f a:V):List V:=[.lst (V.lists B),w,j,b,e,f,a,.undef,.undef]
noncomputable def hnIn:List PS:=[
   .asg 3 (.comp (.var 7) 7 (.seq (.var 0)) (some (.cmp .eq (.slice (.var 7) .none (some (.neg 1))) (.var 2)))),
   .asg 4 (.comp (.var 7) 7 (.seq (.var 0)) (some (.cmp .eq (.slice (.var 7) (some (.int 1)) .none) (.var 2)))),
   .ifs (.cmp .ne (.bf .len (.var 3)) (.bf .len (.var 4))) [
    .ret (.bool true)] []]
noncomputable def hnOut:List PS:=[
  .for1 2 (.seq (.list [.slice (.var 1) .none (some (.neg 1)),.slice (.var 1) (some (.int 1)) .none])) hnIn]
theorem zqb (hn:B.length≤1000) (w b e:V):∃ b' e',exSs true F hnIn (Eh B w (.lst (V.nats j)) b e .undef .undef) h=if ins B j=outs B j then .ok .next (Eh B w (.lst (V.nats j)) b' e' .undef .undef) h else .ok (.ret (.bool true)) (Eh B w (.lst (V.nats j)) b' e' .undef .undef) h:=by
 have ok:∀ p:List Nat→Bool,mkL ((B.filter p).map fun w=>V.lst (V.nats w))=some (.lst (V.lists (B.filter p))):=fun p=>zcH (by rw[List.length_map];exact Nat.le_trans (List.length_filter_le ..) (Nat.le_trans hn (by decide)))
 have c1:=zcB (F:=F) (ρ:=Eh B w (.lst (V.nats j)) b e .undef .undef) (h:=h) (elt:=.var 7) (cond:=.cmp .eq (.slice (.var 7) .none (some (.neg 1))) (.var 2)) (x:=7) (it:=.seq (.var 0)) (itB rfl) rfl (fun w=>.lst (V.nats w)) (fun w=>decide (pre w=j)) (fun a z_=>zny (zdi (v:=.lst (V.nats a)) rfl (IsL.lst _ _)) (w:=.lst (V.nats j)) rfl (zgN (IsL.lst _ _) (IsL.lst _ _))) (fun a z_ z_=>rfl) (ok _);have c2:=zcB (F:=F) (ρ:=Eh B w (.lst (V.nats j)) (.lst (V.lists (B.filter fun w=>decide (pre w=j)))) e .undef .undef) (h:=h) (elt:=.var 7) (cond:=.cmp .eq (.slice (.var 7) (some (.int 1)) .none) (.var 2)) (x:=7) (it:=.seq (.var 0)) (itB rfl) rfl (fun w=>.lst (V.nats w)) (fun w=>decide (suf w=j)) (fun a z_=>zny (zfo (v:=.lst (V.nats a)) rfl (IsL.lst _ _)) (w:=.lst (V.nats j)) rfl (zgN (IsL.lst _ _) (IsL.lst _ _))) (fun a z_ z_=>rfl) (ok _)
 refine⟨.lst (V.lists (B.filter fun w=>decide (pre w=j))),.lst (V.lists (B.filter fun w=>decide (suf w=j))),?_⟩;unfold hnIn;rw[zbE c1];show exSs true F _ (Eh B w (.lst (V.nats j)) (.lst (V.lists (B.filter fun w=>decide (pre w=j)))) e .undef .undef) h=_;rw[zbE c2];show exSs true F _ (Eh B w (.lst (V.nats j)) (.lst (V.lists (B.filter fun w=>decide (pre w=j)))) (.lst (V.lists (B.filter fun w=>decide (suf w=j)))) .undef .undef) h=_
 have t:=znx (F:=F) (ρ:=Eh B w (.lst (V.nats j)) (.lst (V.lists (B.filter fun w=>decide (pre w=j)))) (.lst (V.lists (B.filter fun w=>decide (suf w=j)))) .undef .undef) (zbk (a:=.var 3) (h:=h) (v:=.lst (V.lists (B.filter fun w=>decide (pre w=j)))) rfl rfl) (zbk (a:=.var 4) (v:=.lst (V.lists (B.filter fun w=>decide (suf w=j)))) rfl rfl) (t:=decide (ins B j=outs B j)) (by
  rw[zae,zae,pyEq_int];exact congrArg some (decide_eq_decide.2 ⟨fun q=>(Int.natCast_inj.1 q).symm,fun q=>Int.natCast_inj.2 q.symm⟩))
 by_cases q:ins B j=outs B j
 ·rw[decide_eq_true q] at t
  rw[if_pos q,zcG t];rfl
 ·rw[decide_eq_false q] at t
  rw[if_neg q,zc0 t];rfl
inductive InvP (h:H) (B:List (List Nat)) (X:Prop):List V→H→Prop
 |mk (w j b e:V) (x:X):InvP h B X (Eh B w j b e .undef .undef) h
inductive EndP (h:H):V→H→Prop
 |mk:EndP h (.bool true) h
theorem zro (hn:B.length≤1000) (w:List Nat) (j b e:V):(∃ ρ' g',exSs true F hnOut (Eh B (.lst (V.nats w)) j b e .undef .undef) h=.ok .next ρ' g'∧InvP h B (ins B (pre w)=outs B (pre w)∧ins B (suf w)=outs B (suf w)) ρ' g')∨∃ v ρ' g',exSs true F hnOut (Eh B (.lst (V.nats w)) j b e .undef .undef) h=.ok (.ret v) ρ' g'∧EndP h v g':=by
 have v1:evE true F (Eh B (.lst (V.nats w)) j b e .undef .undef) (.var 1) h=.ok (.lst (V.nats w)) h:=rfl;have ie:evIt true F (Eh B (.lst (V.nats w)) j b e .undef .undef) (.seq (.list [.slice (.var 1) .none (some (.neg 1)),.slice (.var 1) (some (.int 1)) .none])) h=.ok ([pre w,suf w].map fun l=>V.lst (V.nats l),Option.none) h:=zfw (vs:=V.lists [pre w,suf w]) (by
  rw[zaw,zak (zdi v1 (IsL.lst _ _)) (zak (zfo v1 (IsL.lst _ _)) rfl)];rfl)
 rcases ziq (F:=F) (x:=2) (body:=hnIn) (fun p=>InvP h B (∀ j∈p,ins B j=outs B j)) (fun v z_=>EndP h v) ie (fun z_ z_ z_ z_=>rfl) ⟨_,_,_,_,fun z_ h=>nomatch h⟩ (fun p a q ρ g' hp I=>by
   obtain⟨w,j,b,e,I⟩:=I;obtain⟨b',e',x⟩:=zqb (F:=F) (h:=h) (j:=a) hn w b e
   by_cases q:ins B a=outs B a
   ·rw[if_pos q] at x
    refine .inl ⟨_,_,x,_,_,_,_,fun i hi=>?_⟩
    rcases List.mem_append.1 hi with hi|hi
    ·exact I i hi
    ·rw[List.mem_singleton.1 hi];exact q
   ·rw[if_neg q] at x
    exact .inr ⟨_,_,_,x,⟨⟩⟩) with⟨ρ',g',e,⟨w',j',b',e',I⟩⟩|⟨v,ρ',g',e,⟨⟩⟩
 ·exact .inl ⟨_,_,by unfold hnOut;rw[ss_cons',e];rfl,_,_,_,_,I _ (List.mem_cons_self ..),I _ (List.mem_cons_of_mem _ (List.mem_cons_self ..))⟩
 ·exact .inr ⟨_,_,_,by unfold hnOut;rw[ss_cons',e];rfl,⟨⟩⟩
end
section
variable {P:Tab}{n:Nat}{h g:H}{F:Fn}{ρ:List V}{B:List (List Nat)}{s:List Nat}{w j b e:V}
noncomputable def zgt:List PS:=[
  .asg 5 (.bin .add (.var 5) (.comp (.slice (.var 8) (some (.int 1)) .none) 8 (.seq (.var 0)) (some (.and [.cmp .eq (.slice (.var 8) .none (some (.neg 1))) (.idx (.var 5) (.var 6)),.cmp .notIn (.slice (.var 8) (some (.int 1)) .none) (.var 5)])))),
  .asg 6 (.bin .add (.var 6) (.int 1))]
theorem zmy {M:List (List Nat)}{i:Nat}(hi:i < M.length) (hL:B.length≤1000) (hM:M.length≤B.length+1):exSs true F zgt (Eh B w j b e (.lst (V.lists M)) (.int i)) g=.ok .next (Eh B w j b e (.lst (V.lists (M++mre B M (M.getD i [])))) (.int (i+1:Nat))) g:=by
 have v8:∀ a:List Nat,evE true F [.lst (V.lists B),w,j,b,e,.lst (V.lists M),.int i,.undef,.lst (V.nats a)] (.var 8) g=.ok (.lst (V.nats a)) g:=fun a=>rfl;have lF:(mre B M (M.getD i [])).length≤B.length:=by unfold mre;rw[List.length_map];exact List.length_filter_le ..
 have ee:(B.filter fun w=>decide (pre w=M.getD i [])&&!decide (suf w∈M)).map (fun w=>V.lst (V.nats (suf w)))=V.lists (mre B M (M.getD i [])):=by unfold mre V.lists;rw[List.map_map];rfl
 have c:=zcB (F:=F) (ρ:=Eh B w j b e (.lst (V.lists M)) (.int i)) (h:=g) (elt:=.slice (.var 8) (some (.int 1)) .none) (cond:=.and [.cmp .eq (.slice (.var 8) .none (some (.neg 1))) (.idx (.var 5) (.var 6)),.cmp .notIn (.slice (.var 8) (some (.int 1)) .none) (.var 5)]) (x:=8) (it:=.seq (.var 0)) (itB rfl) rfl (fun w=>.lst (V.nats (suf w))) (fun w=>decide (pre w=M.getD i [])&&!decide (suf w∈M))
  (fun a z_=>zjy (zny (zdi (v8 a) (IsL.lst _ _)) (zfy (j:=i) (v:=.lst (V.lists M)) rfl rfl (litems_lst _ _) (ziB (zc7 hi))) (zgN (IsL.lst _ _) (IsL.lst _ _))) fun z_=>zdm (zfo (v8 a) (IsL.lst _ _)) (w:=.lst (V.lists M)) rfl (IsL.lst _ _) rfl) (fun a z_ z_=>zfo (v8 a) (IsL.lst _ _)) (zcH (by rw[ee,zae];exact Nat.le_trans lF (Nat.le_trans hL (by decide))))
 rw[ee] at c;have e:=zeU (a:=.var 5) (v:=.lst (V.lists M)) rfl c rfl rfl (by rw[zae,zae];exact Nat.le_trans (Nat.add_le_add hM lF) (Nat.le_trans (Nat.add_le_add (Nat.succ_le_succ hL) hL) (by decide)))
 unfold zgt;rw[←zbC] at e;rw[zbE e,zbE (zfi (x:=i) (y:=1) rfl rfl)];rfl
inductive InvW (B:List (List Nat)) (s:List Nat) (g:H) (w j b e:V) (k:Nat):List V→H→Prop
 |mk (M:List (List Nat)) (i:Nat) (f:Fo B s M) (hi:i≤M.length) (hk:i+k=B.length+1) (hc:∀ y∈M.take i,∀ x∈B,pre x=y→suf x∈M):InvW B s g w j b e k (Eh B w j b e (.lst (V.lists M)) (.int i)) g
inductive EndW (B:List (List Nat)) (s:List Nat) (g:H) (w j b e:V):List V→H→Prop
 |mk (M:List (List Nat)) (i:Nat) (hr:∀ x,x∈M↔Rch B s x):EndW B s g w j b e (Eh B w j b e (.lst (V.lists M)) (.int i)) g
theorem zoK (hL:B.length≤1000):∃ ρ' g',exS true F (.while (.cmp .lt (.var 6) (.bf .len (.var 5))) zgt) (Eh B w j b e (.lst (V.lists [s])) (.int (0:Nat))) g=.ok .next ρ' g'∧EndW B s g w j b e ρ' g' :=
 zfV (F:=F) (t:=.cmp .lt (.var 6) (.bf .len (.var 5))) (body:=zgt) (InvW B s g w j b e) (EndW B s g w j b e) (B.length+1) (zd6 (Nat.le_trans (Nat.succ_le_succ hL) (by decide)))
  ⟨[s],0,⟨fun x hx=>by rw[List.mem_singleton.1 hx];exact .base,List.mem_singleton.2 rfl,Nat.le_add_right ..⟩,Nat.zero_le _,Nat.zero_add _,fun z_ h=>nomatch h⟩ (fun k ρ h' I=>by
   obtain⟨M,i,f,hi,hk,hc⟩:=I;have t:evE true F (Eh B w j b e (.lst (V.lists M)) (.int i)) (.cmp .lt (.var 6) (.bf .len (.var 5))) g=.ok (.bool (decide ((i:Int) < (M.length:Nat)))) g:=by
    rw[zal,zba (v:=.int i) rfl trivial,R.bind_ok,zbk (v:=.lst (V.lists M)) rfl (litems_lst _ _),zae];rfl
   by_cases hlt:i < M.length
   ·rw[decide_eq_true (Int.ofNat_lt.2 hlt)] at t
    have hk1:1≤k:=Nat.pos_of_ne_zero fun e=>by
     subst e;have:=Nat.lt_of_lt_of_le hlt f.len;rw[←hk] at this;exact Nat.lt_irrefl _ this
    obtain⟨f',hc'⟩:=f.more (zea (d:=[]) hlt);refine .inr ⟨t,k - 1,_,_,Nat.sub_add_cancel hk1,zmy hlt hL f.len,_,i+1,f',?_,by rw[Nat.add_assoc,Nat.add_comm 1,Nat.sub_add_cancel hk1];exact hk,fun y hy x hx e=>?_⟩
    ·rw[List.length_append];exact Nat.le_add_right_of_le hlt
    ·rw[List.take_append_of_le_length hlt,List.take_succ_eq_append_getElem hlt] at hy
     rcases List.mem_append.1 hy with hy|hy
     ·exact List.mem_append_left _ (hc y hy x hx e)
     ·refine hc' x hx ?_
      rw[e,List.mem_singleton.1 hy,List.getD_eq_getElem?_getD,List.getElem?_eq_getElem hlt];rfl
   ·rw[decide_eq_false fun q=>hlt (Int.ofNat_lt.1 q)] at t
    refine .inl ⟨t,M,i,fun x=>⟨f.rch x,fun hx=>?_⟩⟩;rw[List.take_of_length_le (Nat.le_of_not_lt hlt)] at hc
    induction hx with
    |base=>exact f.here
    |step hw _ ih=>exact hc _ ih _ hw rfl)
theorem zpX (u:zbz P) (ne:B≠[]) (hn:B.length < 64):∃ v:Bool,pcall h (run P (n+1) true "_law_has_none" [.lst (V.lists B)] h)=.ok (.bool v) h∧(v=false→Whole B):=by
 have hL:B.length≤1000:=Nat.le_trans (Nat.le_of_lt hn) (by decide)
 rcases ziq (F:=run P n) (x:=1) (body:=hnOut) (ρ:=Eh B .undef .undef .undef .undef .undef .undef) (h:=h) (it:=.seq (.var 0)) (fun p=>InvP h B (∀ w∈p,ins B (pre w)=outs B (pre w)∧ins B (suf w)=outs B (suf w))) (fun v z_=>EndP h v) (itB rfl) (fun z_ z_ z_ z_=>rfl) ⟨_,_,_,_,fun z_ h=>nomatch h⟩ (fun p a q ρ g' hp I=>by
   obtain⟨w,j,b,e,I⟩:=I
   rcases zro (F:=run P n) (h:=h) hL a j b e with⟨ρ1,g1,x,⟨w',j',b',e',i⟩⟩|r
   ·refine .inl ⟨_,_,x,_,_,_,_,fun y hy=>?_⟩
    rcases List.mem_append.1 hy with hy|hy
    ·exact I y hy
    ·rw[List.mem_singleton.1 hy];exact i
   ·exact .inr r) with⟨ρ',g',e,⟨w,j,b,e',ev⟩⟩|⟨v,ρ',g',e,⟨⟩⟩
 ·obtain⟨m,rest,em,lm⟩:=zlO ne
  have s3:=zbN (F:=run P n) (ρ:=Eh B w j b e' .undef .undef) (h:=h) (a:=.var 0) (v:=.lst (V.lists B)) rfl (zcI (litems_lst _ _)) (zbW h B hn);have s4:evE true (run P n) (Eh B w j b e' .undef .undef) (.list [.slice (.idx (.bf .sorted (.var 0)) (.int 0)) .none (some (.neg 1))]) h=.ok (.lst (V.lists [pre m])) h:=by
   rw[zaw,zak (zdi (zfy (j:=0) (i:=.int 0) (x:=.lst (V.nats m)) s3 rfl (litems_lst _ _) (by rw[em];rfl)) (IsL.lst _ _)) rfl];rfl
  obtain⟨ρ1,g1,e1,⟨M,i,hr⟩⟩:=zoK (F:=run P n) (s:=pre m) (g:=h) (w:=w) (j:=j) (b:=b) (e:=e') hL;have c:=zcB (F:=run P n) (ρ:=Eh B w j b e' (.lst (V.lists M)) (.int i)) (h:=h) (elt:=.var 8) (cond:=.cmp .notIn (.slice (.var 8) .none (some (.neg 1))) (.var 5)) (x:=8) (it:=.seq (.var 0)) (itB rfl) rfl (fun w=>.lst (V.nats w)) (fun w=>!decide (pre w∈M)) (fun a z_=>zdm (zdi (v:=.lst (V.nats a)) rfl (IsL.lst _ _)) (w:=.lst (V.lists M)) rfl (IsL.lst _ _) rfl) (fun a z_ z_=>rfl) (zcH (by rw[List.length_map];exact Nat.le_trans (List.length_filter_le ..) (Nat.le_trans hL (by decide))))
  refine⟨_,by rw[start u.self rfl (ρ:=Eh B .undef .undef .undef .undef .undef .undef) rfl (zcM e (zaT s4 (ρ':=Eh B w j b e' (.lst (V.lists [pre m])) .undef) rfl (zaT (v:=.int (0:Nat)) rfl (ρ':=Eh B w j b e' (.lst (V.lists [pre m])) (.int (0:Nat))) rfl (zcM e1 (zbw (znx (w:=.lst (V.lists [])) c rfl (eqLL rfl rfl))))))),pcall_bool],fun q=>⟨fun i ⟨w,hw,e⟩=>e.elim (fun e=>e ▸ (ev w hw).1) fun e=>e ▸ (ev w hw).2,m,lm,fun a ha=>?_⟩⟩
  have q:=congrArg Bool.not q;rw[Bool.not_not] at q;exact(hr _).1 (Classical.byContradiction fun x=>(List.filter_eq_nil_iff.1 (of_decide_eq_true q)) a ha (by rw[decide_eq_false x];rfl))
 ·exact⟨true,by rw[start u.self rfl (ρ:=Eh B .undef .undef .undef .undef .undef .undef) rfl (zkw e),pcall_bool],fun q=>nomatch q⟩
end
section
variable {P:Tab}{n:Nat}{h g:H}{F:Fn}{ρ:List V}{S Z:Nat}{v bv:V}{l:List Nat}{B es:List (List Nat)}{L:List (V × List Nat)}
theorem zpT {f:String}{args:List PE}{vs:List V}{ss:List PS}{q:Bool}(ea:evEs q F ρ args h=.ok vs h):(exSs q F (.ret (.call true f args)::ss) ρ h).out=F q f vs h:=by
 rw[ss_cons',zjz,zaq,ea,R.bind_ok];show(RS.then (R.st (F q f vs h) _ _) _).out=_
 cases F q f vs h<;>rfl
theorem zgY (u:zc1 P) (hf:Fit S Z) (hb:HB h bv L) (w:GW S Z (L.map (·.2))):run P (n+5) true "lack" [.int S,.int Z,bv] h=run P (n+4) true "lack_of" [bv] h:=by
 have hv:=(zbY hb.it).val;exact start u.self rfl (ρ:=[.int S,.int Z,bv]) rfl (zce (zbu (v:=.int S) (w:=.int Z) rfl rfl (zba (v:=bv) rfl hv) (zkz (n:=n) u.need_book hf hb w)) (zpT (zak (zba (v:=bv) rfl hv) rfl)))
theorem zqE (u:zbt P) (hf:Fit S Z) (hb:HB h bv L) (w:GW S Z (L.map (·.2))) (jb:JB (L.map (·.2))) :
  (∃ es g' c m,run P (n+6) true "_law_asked" [.int S,.int Z,bv] h=.ok (.ref c) g'∧Ext h g'∧h.length≤c∧g'[c]?=some (.list (V.nats (es.map hd)))∧Fine (L.map (·.2)) m∧Tr m (L.map (·.2)) es [] (pre m))∨run P (n+6) true "_law_asked" [.int S,.int Z,bv] h=.ok (.tup [.int 5]) h∧¬ Whole (L.map (·.2)):=by
 have hv:=(zbY hb.it).val;have args:evEs true (run P (n+5)) [.int S,.int Z,bv,.undef] [.var 0,.var 1,.var 2] h=.ok [.int S,.int Z,bv] h:=zak (v:=.int S) rfl (zak (v:=.int Z) rfl (zak (zba (v:=bv) rfl hv) rfl))
 rcases zlX (n:=n) u.ring_of hf hb w jb ⟨hf.z1,hf.z8⟩ with⟨es,g',c,m,e,x,hc,hl,fi,t⟩|⟨e,nw⟩
 ·refine .inl ⟨es,g',c,m,start u.self rfl (ρ:=[.int S,.int Z,bv,.undef]) rfl ?_,x,hc,hl,fi,t⟩
  have hb:exSs true (run P (n+5)) [.ret (.call true "ring_of" [.var 0,.var 1,.var 2])] [.int S,.int Z,bv,.undef] h=.ok (.ret (.ref c)) [.int S,.int Z,bv,.undef] g':=by
   rw[ss_cons',zjz,callT args e];rfl
  show(exSs true (run P (n+5)) [.try _ _ _ _] _ h).out=_;rw[ss_cons',zev,if_neg (by decide),hb];rfl
 ·refine .inr ⟨start u.self rfl (ρ:=[.int S,.int Z,bv,.undef]) rfl ?_,nw⟩
  have hb:exSs true (run P (n+5)) [.ret (.call true "ring_of" [.var 0,.var 1,.var 2])] [.int S,.int Z,bv,.undef] h=.err "NoRing" [.int S,.int Z,bv,.undef] h:=by
   rw[ss_cons',zjz,zaq,args,R.bind_ok];show(RS.then (R.st (run P (n+5) true "ring_of" [.int S,.int Z,bv] h) _ _) _)=_;rw[e];rfl
  have hcl:pcall h (run P (n+5) false "_law_classes" [.exc "NoRing"] h)=.ok (.tup [.int 5]) h:=by rw[zjs u.l_classes (n+4) false "NoRing" (by decide) h,zbA rfl];rfl
  show(exSs true (run P (n+5)) [.try _ _ _ _] _ h).out=_;rw[ss_cons',zev,if_neg (by decide),hb]
  show(RS.then (if(zag.contains "NoRing"&&"RingError" == "RingError")=true then _ else _) _).out=_;rw[if_pos (by decide)]
  show(RS.then (match (RS.then (R.st (pcall h (run P (n+5) false "_law_classes" [.exc "NoRing"] h)) _ _) _) with|.ok f ρ h=>_|.err _ _ _=>_|.bad=>_) _).out=_
  rw[hcl];rfl
theorem Tr.ring {m:List Nat}(t:Tr m B es [] (pre m)) (hm:m∈B) (len:∀ w∈B,w.length=Z):RingOf Z B (es.map hd):=by
 have p:=t.perm hm;rw[List.append_nil] at p;refine⟨by rw[List.length_map,p.length_eq],fun w hw=>?_⟩
 obtain⟨i,hi,rfl⟩:=List.mem_iff_getElem.1 (p.mem_iff.2 hw);refine List.mem_map.2 ⟨i,List.mem_range.2 (by rw[List.length_map];exact hi),?_⟩
 rw[zqV (fun w hw=>len w (p.mem_iff.1 hw)) t.closed hi,List.getD_eq_getElem?_getD,List.getElem?_eq_getElem hi];rfl
theorem zoc {p k:Nat}(hk:k < Z):(rd l Z p)[k]?=some (l.getD ((p+k) % l.length) 0):=by
 unfold rd;rw[List.getElem?_map,List.getElem?_range hk];rfl
theorem zpA {a p:Nat}(ha:a < l.length):rd (turn l a) Z p=rd l Z (a+p):=by
 refine List.ext_getElem? fun k=>?_
 by_cases hk:k < Z
 ·rw[zoc hk,zoc hk,zcp]
  have e:turn l a=rd l l.length a:=(zob l a ha).symm;rw[e,List.getD_eq_getElem?_getD,zoc (Nat.mod_lt _ (Nat.zero_lt_of_lt ha)),Nat.add_mod_mod,← Nat.add_assoc];rfl
 ·rw[List.getElem?_eq_none (by rw[zeu];exact Nat.le_of_not_lt hk),List.getElem?_eq_none (by rw[zeu];exact Nat.le_of_not_lt hk)]
theorem znh (p:Nat):rd l Z (p % l.length)=rd l Z p:=by
 unfold rd;exact List.map_congr_left fun t z_=>by rw[Nat.mod_add_mod]
theorem RingOf.rot (r:RingOf Z B l){a:Nat}(ha:a < l.length):RingOf Z B (turn l a):=by
 refine⟨by rw[zcp];exact r.1,fun w hw=>?_⟩
 obtain⟨p,hp,rfl⟩:=List.mem_map.1 (r.2 w hw);have hp:=List.mem_range.1 hp;have h0:=Nat.zero_lt_of_lt ha;refine List.mem_map.2 ⟨(p+(l.length - a)) % l.length,List.mem_range.2 (by rw[zcp];exact Nat.mod_lt _ h0),?_⟩
 rw[zpA ha,← znh,Nat.add_mod_mod,Nat.add_comm p,← Nat.add_assoc,Nat.add_sub_cancel' (Nat.le_of_lt ha),Nat.add_mod_left,znh]
end
section
variable {P:Tab}{n:Nat}{h g:H}{F:Fn}{ρ:List V}{S Z:Nat}{v bv:V}{l:List Nat}{B es:List (List Nat)}{L:List (V × List Nat)}
theorem zln {f:String}{args:List PE}{vs:List V}{r:V}(ea:evEs true F ρ args h=.ok vs h) (hc:pcall h (F true f vs h)=.ok r h):evE true F ρ (.call false f args) h=.ok r h:=by
 rw[zaq,ea,R.bind_ok];exact hc
noncomputable abbrev Et (S Z:Nat) (bv:V) (l:List Nat) (c:Int) (a t o f:V):List V:=[.int S,.int Z,bv,.lst (V.nats l),.int c,a,t,o,f]
structure Hb (h:H) (S Z:Nat) (B:List (List Nat)) (bv:V) (L:List (V × List Nat)):Prop where
 fit:Fit S Z
 hb:HB h bv L
 vl:L.map (·.1)=V.lists B
 bl:L.map (·.2)=B
 gw:GW S Z B
 few:B.length < 64
theorem Hb.isr (u:zaj P) (k:Hb h S Z B bv L) (hl:IsL h v l) (h1:1≤l.length) (h2:l.length≤256) (hd:∀ d∈l,d < S):∃ b:Bool,(b=true↔RingOf Z B l)∧pcall h (run P (n+5) true "is_ring_of" [.int S,.int Z,bv,v] h)=.ok (.bool b) h:=zmu u k.fit k.hb k.vl k.bl k.gw k.few hl h1 h2 hd
theorem zpE (h:H) (b:Bool):pyEq h (.bool b) (.bool b)=some true:=by cases b<;>rfl
theorem zil (u:za3 P) (k:Hb h S Z B bv L){c:Int}{a o:V}{T lo:List Nat}(ho:IsL h o lo) (o1:1≤lo.length) (o2:lo.length≤256) (od:∀ d∈lo,d < S) (t1:1≤T.length) (t2:T.length≤256) (td:∀ d∈T,d < S) (r:RingOf Z B T) :
  (exSs true (run P (n+5)) (zcn.body.drop 5) (Et S Z bv l c a (.lst (V.nats T)) o .undef) h).out=.ok (.bool true) h:=by
 have hv:=(zbY k.hb.it).val;have it:=k.hb.it;rw[k.vl] at it;obtain⟨b1,i1,e1⟩:=k.isr (n:=n) u.is_ring_of ho o1 o2 od;obtain⟨b2,i2,e2⟩:=zkB (n:=n+3) u.l_is_ring k.fit.z8 it k.few ho o1 o2;obtain⟨b3,i3,e3⟩:=k.isr (n:=n) u.is_ring_of (IsL.lst h T) t1 t2 td;rw[show b2=b1 from Bool.eq_iff_iff.2 (i2.trans i1.symm)] at e2;rw[i3.2 r] at e3;have v2:∀ f,evE true (run P (n+5)) (Et S Z bv l c a (.lst (V.nats T)) o f) (.var 2) h=.ok bv h:=fun z_=>zba rfl hv
 have v7:∀ f,evE true (run P (n+5)) (Et S Z bv l c a (.lst (V.nats T)) o f) (.var 7) h=.ok o h:=fun z_=>zba rfl ho.val;have c1:evE true (run P (n+5)) (Et S Z bv l c a (.lst (V.nats T)) o .undef) (.call false "is_ring_of" [.var 0,.var 1,.var 2,.var 7]) h=.ok (.bool b1) h:=zln (zak (v:=.int S) rfl (zak (v:=.int Z) rfl (zak (v2 _) (zak (v7 _) rfl)))) e1;have c2:evE true (run P (n+5)) (Et S Z bv l c a (.lst (V.nats T)) o (.bool b1)) (.call false "_law_is_ring" [.var 7,.var 1,.var 2]) h=.ok (.bool b1) h:=zbu (w:=.int Z) (v7 _) rfl (v2 _) e2
 have c3:evE true (run P (n+5)) (Et S Z bv l c a (.lst (V.nats T)) o (.bool b1)) (.call false "is_ring_of" [.var 0,.var 1,.var 2,.var 6]) h=.ok (.bool true) h:=zln (zak (v:=.int S) rfl (zak (v:=.int Z) rfl (zak (v2 _) (zak (v:=.lst (V.nats T)) rfl rfl)))) e3;refine zaT c1 (ρ':=Et S Z bv l c a (.lst (V.nats T)) o (.bool b1)) rfl (zb1 (zon (x:=false) rfl (znx (v:=.bool b1) (t:=true) rfl c2 (zpE h b1))) (zbw ?_))
 rw[zal,c3];rfl
theorem zkk {N k:Nat}(hk:k < N):place N (k:Int)=some k:=by
 unfold place;rw[if_pos (Int.natCast_nonneg _),Int.toNat_natCast,if_pos (Int.ofNat_lt.2 hk)]
theorem zmh (T:List Nat) (k d:Nat):(V.nats T).set k (.int d)=V.nats (T.set k d):=(List.map_set ..).symm
theorem zpm (u:za3 P) (k:Hb h S Z B bv L) (r:RingOf Z B l) (hd:∀ d∈l,d < S) (c:Int):pcall h (run P (n+6) true "_law_told_of" [.int S,.int Z,bv,.lst (V.nats l),.int c] h)=.ok (.bool true) h:=by
 have hN:0 < l.length:=by rw[r.1];exact List.length_pos_iff.2 k.gw.ne
 have hN2:l.length < 64:=by rw[r.1];exact k.few
 obtain⟨a,ha,ea⟩:=zch c l.length hN;obtain⟨i,hi,ei⟩:=zch (c.fdiv 7) l.length hN;obtain⟨d,hdS,ed⟩:=zch (c.fdiv 49) S k.fit.s1;have N0:((l.length:Nat):Int)≠0:=fun e=>absurd (Int.natCast_eq_zero.1 e) (Nat.ne_of_gt hN);have ln:∀ (a t o:V) (h:H),evE true (run P (n+5)) (Et S Z bv l c a t o .undef) (.bf .len (.var 3)) h=.ok (.int (l.length:Nat)) h:=fun a t o h=>by
  rw[zbk (v:=.lst (V.nats l)) rfl (litems_lst _ _),nats_length]
 have e5:=zc9 (x:=c) (F:=run P (n+5)) (ρ:=Et S Z bv l c .undef .undef .undef .undef) (a:=.var 4) rfl (ln .undef .undef .undef h) N0;rw[ea] at e5;have e6:=zeU (F:=run P (n+5)) (ρ:=Et S Z bv l c (.int a) .undef .undef .undef) (h:=h) (zhH (a:=.var 3) (e:=.var 5) (p:=a) (v:=.lst (V.nats l)) rfl (IsL.lst _ _) rfl) (zqS (a:=.var 3) (e:=.var 5) (p:=a) (v:=.lst (V.nats l)) rfl (IsL.lst _ _) rfl) (litems_lst _ _) (litems_lst _ _) (by
  rw[←List.length_append,← zam,nats_length,show(l.drop a++l.take a).length=l.length from zcp l a];exact Nat.le_trans (Nat.le_of_lt hN2) (by decide))
 rw[←zam] at e6;have tl:(turn l a).length=l.length:=zcp l a;have rT:=r.rot ha;have dT:∀ d∈turn l a,d < S:=fun d hm=>hd d (zik hm);change evE _ _ _ _ _=.ok (.lst (V.nats (turn l a))) h at e6;generalize turn l a=T at *
 have e7:evE true (run P (n+5)) (Et S Z bv l c (.int a) (.lst (V.nats T)) .undef .undef) (.own (.bf .list (.var 6))) h=.ok (.ref h.length) (h++[.list (V.nats T)]):=zdS (ziA (v:=.lst (V.nats T)) rfl rfl);have ed':=zc9 (q:=true) (y:=S) (F:=run P (n+5)) (ρ:=Et S Z bv l c (.int a) (.lst (V.nats T)) (.ref h.length) .undef) (h:=h++[.list (V.nats T)]) (zdr (a:=.var 4) (x:=c) (y:=49) rfl (b:=.int 49) rfl (by decide)) (b:=.var 0) rfl (fun e=>absurd (Int.natCast_eq_zero.1 e) (Nat.ne_of_gt k.fit.s1))
 have ei':=zc9 (F:=run P (n+5)) (zdr (a:=.var 4) (x:=c) (y:=7) rfl (b:=.int 7) rfl (by decide)) (ln (.int a) (.lst (V.nats T)) (.ref h.length) (h++[.list (V.nats T)])) N0
 rw[ed] at ed';rw[ei] at ei';have es:exS true (run P (n+5)) (.setIdx (.var 7) (.bin .mod (.bin .fdiv (.var 4) (.int 7)) (.bf .len (.var 3))) (.bin .mod (.bin .fdiv (.var 4) (.int 49)) (.var 0))) (Et S Z bv l c (.int a) (.lst (V.nats T)) (.ref h.length) .undef) (h++[.list (V.nats T)])=.ok .next (Et S Z bv l c (.int a) (.lst (V.nats T)) (.ref h.length) .undef) (h++[.list (V.nats (T.set i d))]):=by
  have sv:seti (h++[.list (V.nats T)]) (.ref h.length) (.int i) (.int d)=some (h++[.list (V.nats (T.set i d))]):=by
   unfold seti;dsimp only;rw[zbs];dsimp only;rw[zkk (by rw[nats_length,tl];exact hi),Option.map_some,zer,zmh]
  rw[zjA,ed',R.st_ok,zba (i:=7) (v:=.ref h.length) rfl trivial,R.st_ok,ei',R.st_ok,sv]
 have k2:Hb (h++[.list (V.nats (T.set i d))]) S Z B bv L:=⟨k.fit,k.hb.app _,k.vl,k.bl,k.gw,k.few⟩;have t1:1≤T.length:=by rw[tl];exact hN
 have t2:T.length≤63:=by rw[tl];exact Nat.le_of_lt_succ hN2
 have c5:=zfh (q:=true) (zc9 (y:=5) (F:=run P (n+5)) (ρ:=Et S Z bv l c (.int a) (.lst (V.nats T)) (.ref h.length) .undef) (h:=h++[.list (V.nats (T.set i d))]) (zdr (a:=.var 4) (x:=c) (y:=3) rfl (b:=.int 3) rfl (by decide)) (b:=.int 5) rfl (by decide)) (b:=.int 1) (y:=1) rfl
 have go:∀ res,(exSs true (run P (n+5)) (zcn.body.drop 4) (Et S Z bv l c (.int a) (.lst (V.nats T)) (.ref h.length) .undef) (h++[.list (V.nats (T.set i d))])).out=res→run P (n+6) true "_law_told_of" [.int S,.int Z,bv,.lst (V.nats l),.int c] h=res:=fun res hres =>
  start u.self rfl (ρ:=Et S Z bv l c .undef .undef .undef .undef) rfl (zaT e5 (ρ':=Et S Z bv l c (.int a) .undef .undef .undef) rfl (zaT e6 (ρ':=Et S Z bv l c (.int a) (.lst (V.nats T)) .undef .undef) rfl (zaT e7 (ρ':=Et S Z bv l c (.int a) (.lst (V.nats T)) (.ref h.length) .undef) rfl (zcM es hres))))
 have fin:∀ b:Bool,(decide (((c.fdiv 3).fmod 5)=1))=b→(exSs true (run P (n+5)) (zcn.body.drop 4) (Et S Z bv l c (.int a) (.lst (V.nats T)) (.ref h.length) .undef) (h++[.list (V.nats (T.set i d))])).out=.ok (.bool true) (h++[.list (V.nats (T.set i d))]):=fun b hb=>by
  rw[hb] at c5
  cases b with
  |true =>
   have ad:=zeU (F:=run P (n+5)) (ρ:=Et S Z bv l c (.int a) (.lst (V.nats T)) (.ref h.length) .undef) (h:=h++[.list (V.nats (T.set i d))]) (a:=.var 6) (b:=.var 6) (v:=.lst (V.nats T)) (w:=.lst (V.nats T)) rfl rfl (litems_lst _ _) (litems_lst _ _) (by rw[nats_length];exact Nat.le_trans (Nat.add_le_add t2 t2) (by decide))
   rw[←zam] at ad;refine zgT c5 (zaT ad (ρ':=Et S Z bv l c (.int a) (.lst (V.nats T)) (.lst (V.nats (T++T))) .undef) rfl (zil u k2 (IsL.lst _ (T++T)) ?_ ?_ ?_ t1 (Nat.le_trans t2 (by decide)) dT rT))
   ·rw[List.length_append];exact Nat.le_trans t1 (Nat.le_add_right ..)
   ·rw[List.length_append];exact Nat.le_trans (Nat.add_le_add t2 t2) (by decide)
   ·exact fun d hm=>(List.mem_append.1 hm).elim (dT d) (dT d)
  |false =>
   refine zb1 c5 (zil u k2 (IsL.ref (zbs _ _)) ?_ ?_ ?_ t1 (Nat.le_trans t2 (by decide)) dT rT)
   ·rw[List.length_set];exact t1
   ·rw[List.length_set];exact Nat.le_trans t2 (by decide)
   ·exact fun e hm=>(List.mem_or_eq_of_mem_set hm).elim (dT e) fun q=>q ▸ hdS
 rw[go _ (fin _ rfl)];exact zcL ((Ext.refl h).app _) rfl
end
section
variable {P:Tab}{n:Nat}{h g:H}{F:Fn}{ρ:List V}{B L es:List (List Nat)}{S Z:Nat}
noncomputable def lstB (B:List (List Nat)):List (V × List Nat):=B.map fun w=>(.lst (V.nats w),w)
theorem znm (B:List (List Nat)):(lstB B).map (·.1)=V.lists B:=by unfold lstB;rw[List.map_map];rfl
theorem zbP (B:List (List Nat)):(lstB B).map (·.2)=B:=by unfold lstB;rw[List.map_map];exact List.map_id' B
theorem zmz {v:V}(e:litems h v=some (V.lists B)):HB h v (lstB B):=by
 refine⟨by rw[znm];exact e,fun p hp=>?_⟩
 obtain⟨w,_,rfl⟩:=List.mem_map.1 hp;exact IsL.lst h w
theorem GB.gw (b:GB S Z B):GW S Z B:=⟨b.nodup,b.ne,b.len,b.lt,Nat.le_trans b.cnt (by decide)⟩
noncomputable def zdw:List V:=[.tup [.int 2,.int 3],.tup [.int 3,.int 2],.tup [.int 2,.int 4],.tup [.int 3,.int 3],.tup [.int 2,.int 2],.tup [.int 4,.int 2],.tup [.int 2,.int 5],.tup [.int 5,.int 2],.tup [.int 3,.int 1],.tup [.int 1,.int 4],.tup [.int 6,.int 1],.tup [.int 2,.int 8]]
def goodP (x:V):Prop:=∃ S Z:Nat,Fit S Z∧x=.tup [.int S,.int Z]
theorem zbo (S Z:Nat) (q:1≤S∧S≤9∧1≤Z∧Z≤8∧S ^ Z≤256):goodP (.tup [.int S,.int Z]):=⟨S,Z,⟨q.1,q.2.1,q.2.2.1,q.2.2.2.1,q.2.2.2.2⟩,rfl⟩
theorem zjb:∀ x∈zdw,goodP x :=
 zau (zbo 2 3 (by decide)) (zau (zbo 3 2 (by decide)) (zau (zbo 2 4 (by decide)) (zau (zbo 3 3 (by decide)) (zau (zbo 2 2 (by decide)) (zau (zbo 4 2 (by decide)) (zau (zbo 2 5 (by decide)) (zau (zbo 5 2 (by decide)) (zau (zbo 3 1 (by decide)) (zau (zbo 1 4 (by decide)) (zau (zbo 6 1 (by decide)) (zau (zbo 2 8 (by decide)) zpb)))))))))))
theorem zpG (u:zdI P) (c:Int):∃ S Z:Nat,Fit S Z∧pcall h (run P (n+1) true "_law_pair" [.int c] h)=.ok (.tup [.int S,.int Z]) h:=by
 obtain⟨j,hj,ej,x,hx,ex⟩:=zoJ (h:=h) (vs:=zdw) (i:=c) (m:=12) (by decide) rfl
 obtain⟨S,Z,h1,rfl⟩:=zjb x (List.mem_of_getElem? hx);refine⟨S,Z,h1,?_⟩;have e:evE true (run P n) [.int c,.lst zdw] (.idx (.var 1) (.bin .mod (.var 0) (.int 12))) h=.ok (.tup [.int S,.int Z]) h:=by
  rw[zar,zba (v:=.lst zdw) rfl trivial,R.bind_ok,zc9 (x:=c) (y:=12) rfl rfl (by decide),R.bind_ok]
  exact congrArg (fun o=>R.opt o h) ex
 rw[start u.self rfl (ρ:=[.int c,.undef]) rfl (zaT (v:=.lst zdw) (h':=h) rfl (ρ':=[.int c,.lst zdw]) rfl (zbw e)),zbA rfl]
noncomputable abbrev El (s:List Int) (S Z:Nat) (bk hd tl wy ce cp ag:V):List V:=[V.ints s,.int S,.int Z,bk,hd,tl,wy,ce,cp,ag,.undef]
theorem zpa {a b:PE}{r:List PE}(ea:evE true F ρ a h=.ok (.bool true) h):evE true F ρ (.and (a::b::r)) h=evE true F ρ (.and (b::r)) h:=by
 rw[e_and,e_and2,ea];rfl
theorem zqG {a:PE}:evE true F ρ (.and [a]) h=evE true F ρ a h:=rfl
theorem zky {a:PE}{c:Nat}{vs:List V}(ea:evE true F ρ a h=.ok (.ref c) h) (hc:h[c]?=some (.list vs)):evE true F ρ (.isinst a [.tuple]) h=.ok (.bool false) h:=by
 rw[zaH,ea,R.bind_ok];show R.opt (Option.map V.bool (match refTy h[c]? .tuple with|some true=>some true|some false=>some false|none=>Option.none)) h=_
 rw[hc];rfl
theorem zhI {s:List Int}{tl wy ce cp ag:V}(e:h[0]?=some (.list (V.lists B))):evE true F (El s S Z (.lst (V.lists B)) (.ref 0) tl wy ce cp ag) (.cmp .ne (.var 4) (.var 3)) h=.ok (.bool false) h :=
 (znx (F:=F) (v:=.ref 0) (w:=.lst (V.lists B)) (t:=true) rfl rfl ((eqLL (zaa e) rfl).trans (by rw[decide_eq_true rfl]))).trans rfl
theorem zli {s:List Int}{hd tl wy ce cp ag:V}(gb:GB S Z B):evE true F (El s S Z (.lst (V.lists B)) hd tl wy ce cp ag) (.comp (.bf .list (.var 10)) 10 (.seq (.var 3)) .none) h=.ok (.lst (V.lists B)) h :=
 zdB (elt:=.bf .list (.var 10)) (x:=10) (it:=.seq (.var 3)) (itB (B:=B) rfl) rfl (fun w=>.lst (V.nats w)) (fun w z_=>ziA (v:=.lst (V.nats w)) rfl rfl) (zcH (by rw[List.length_map];exact Nat.le_trans gb.cnt (by decide)))
theorem zq8 (u:zbf P) (s:List Int) (gb:GB S Z B) (hf:Fit S Z) (nw:¬ Whole B):(exSs true (run P (n+6)) (zie.body.drop 4) (El s S Z (.lst (V.lists B)) (.ref 0) (.tup [.int 5]) .undef .undef .undef .undef) [.list (V.lists B)]).out=.ok (.bool true) [.list (V.lists B)]:=by
 have hb:HB [.list (V.lists B)] (.ref 0) (lstB B):=zmz (zaa rfl);have gw:GW S Z ((lstB B).map (·.2)):=by rw[zbP];exact gb.gw
 have jb:JB ((lstB B).map (·.2)):=by rw[zbP];exact gb.jb hf.z1
 have ls:=zgY (n:=n+1) u.lack hf hb gw
 rcases zkI (n:=n+3) u.lack.lack_of hb jb with⟨m,fi,_⟩|⟨_,a,c,el⟩
 ·rw[zbP] at fi;exact absurd fi.whole nw
 ·rw[←ls] at el
  obtain⟨v,ev,hv⟩:=zpX (n:=n+5) (h:=[.list (V.lists B)]) u.l_has_none gb.ne (Nat.lt_of_le_of_lt gb.cnt (by decide))
  have hv:v=true:=by
   cases v with
   |true=>rfl
   |false=>exact absurd (hv rfl) nw
  subst hv;refine zaT (zbu (v:=.int S) (w:=.int Z) (x:=.ref 0) rfl rfl rfl el) (ρ':=El s S Z (.lst (V.lists B)) (.ref 0) (.tup [.int 5]) (.tup [a,c]) .undef .undef .undef) rfl (zb1 (zhI rfl) (zgT rfl (zbw ?_)));rw[zpa (zny (F:=run P (n+6)) (v:=.tup [.int 5]) (w:=.tup [.int 5]) (t:=true) rfl rfl rfl),zpa (zgq (b:=false) (zba (i:=6) (v:=.tup [a,c]) rfl trivial) rfl),zqG];exact zdV (v:=.lst (V.lists B)) rfl ev
end
section
variable {P:Tab}{n:Nat}{h g:H}{F:Fn}{ρ:List V}{B L es:List (List Nat)}{S Z:Nat}
theorem zqD {h g:H}(e:Ext h g){i:Nat}{c:Cell}(hc:h[i]?=some c):g[i]?=some c:=by
 rw[←e.eq];exact zck hc
theorem zpd (u:zbt P) (gb:GB S Z B) (hf:Fit S Z){m:List Nat}(fi:Fine B m) (t:Tr m B es [] (pre m)):pcall g (run P (n+6) true "_law_asked" [.int S,.int Z,.lst (V.lists B)] g)=.ok (.lst (V.nats (es.map hd))) g:=by
 rcases zqE (n:=n) u hf (zmz (h:=g) (v:=.lst (V.lists B)) rfl) (by rw[zbP];exact gb.gw) (by rw[zbP];exact gb.jb hf.z1) with⟨es',g',c,m',e,x,hc,hl,fi',t'⟩|⟨_,nw⟩
 ·rw[zbP] at fi' t'
  rw[fi'.1.eq fi.1] at t';have p:=t.perm fi.1.1;have p':=t'.perm fi.1.1;rw[List.append_nil] at p p';obtain⟨rfl,_⟩:=t'.same (fun w hw=>by rw[gb.len w hw];exact hf.z1) fi.1.1 t (p'.length_eq.trans p.length_eq.symm)
  rw[e];exact zcL x (zdz hc hl)
 ·rw[zbP] at nw;exact absurd fi.whole nw
theorem zq9 (u:zbf P) (s:List Int) (gb:GB S Z B) (hf:Fit S Z){m:List Nat}(fi:Fine B m) (t:Tr m B es [] (pre m)) (hl:es.length≤63){c:Nat}(c0:0 < c) (h0:g[0]?=some (.list (V.lists B))) (hc:g[c]?=some (.list (V.nats (es.map hd)))){wy ce:V} :
  ∃ g',(exSs true (run P (n+6)) (zie.body.drop 10) (El s S Z (.lst (V.lists B)) (.ref 0) (.ref c) wy ce .undef .undef) g).out=.ok (.bool true) g':=by
 have l1:(V.nats (es.map hd)).length≤63:=by rw[nats_length,List.length_map];exact hl
 have e1:evE true (run P (n+6)) (El s S Z (.lst (V.lists B)) (.ref 0) (.ref c) wy ce .undef .undef) (.bf .list (.var 5)) g=.ok (.lst (V.nats (es.map hd))) g:=ziA (v:=.ref c) rfl (zaa hc);have e2:=zb0 (F:=run P (n+6)) (ρ:=El s S Z (.lst (V.lists B)) (.ref 0) (.ref c) wy ce (.lst (V.nats (es.map hd))) .undef) (o:=.var 5) (a:=.int 0) (y:=.int 0) rfl hc rfl (Nat.le_trans l1 (by decide))
 have cl:=(List.getElem?_eq_some_iff.1 hc).1;have h1:(g.set c (.list (V.nats (es.map hd)++[.int 0])))[0]?=some (.list (V.lists B)):=by rw[List.getElem?_set_ne (Nat.ne_of_gt c0)];exact h0
 have hc1:(g.set c (.list (V.nats (es.map hd)++[.int 0])))[c]?=some (.list (V.nats (es.map hd)++[.int 0])):=by rw[List.getElem?_set_self cl]
 generalize g.set c (.list (V.nats (es.map hd)++[.int 0]))=g1 at e2 h1 hc1;have e3:evE true (run P (n+6)) (El s S Z (.lst (V.lists B)) (.ref 0) (.ref c) wy ce (.lst (V.nats (es.map hd))) .undef) (.clear (.var 4)) g1=.ok .none (g1.set 0 (.list [])):=by
  rw[zaQ,zba (v:=.ref 0) rfl trivial,R.bind_ok,zbI h1 _ .none [] rfl (Nat.zero_le _)]
 have hc2:(g1.set 0 (.list []))[c]?=some (.list (V.nats (es.map hd)++[.int 0])):=by rw[List.getElem?_set_ne (Nat.ne_of_lt c0)];exact hc1
 generalize g1.set 0 (.list [])=g2 at e3 hc2;refine⟨g2,zaT e1 (ρ':=El s S Z (.lst (V.lists B)) (.ref 0) (.ref c) wy ce (.lst (V.nats (es.map hd))) .undef) rfl (zce e2 (zce e3 (zaT (zbu (v:=.int S) (w:=.int Z) rfl rfl (zli gb) (zpd (n:=n) u.l_asked gb hf fi t)) (ρ':=El s S Z (.lst (V.lists B)) (.ref 0) (.ref c) wy ce (.lst (V.nats (es.map hd))) (.lst (V.nats (es.map hd)))) rfl (zbw ?_))))⟩;rw[zpa (zny (F:=run P (n+6)) (v:=.lst (V.nats (es.map hd))) (w:=.lst (V.nats (es.map hd))) (t:=true) rfl rfl ((zgN (IsL.lst _ _) (IsL.lst _ _)).trans (by rw[decide_eq_true rfl]))),zqG]
 have ad:=zeU (F:=run P (n+6)) (ρ:=El s S Z (.lst (V.lists B)) (.ref 0) (.ref c) wy ce (.lst (V.nats (es.map hd))) (.lst (V.nats (es.map hd)))) (h:=g2) (a:=.var 8) (b:=.list [.int 0]) (v:=.lst (V.nats (es.map hd))) (w:=.lst (V.nats [0])) rfl rfl (litems_lst _ _) (litems_lst _ _) (Nat.le_trans (Nat.add_le_add_right l1 1) (by decide))
 rw[←zam] at ad;have hc2':IsL g2 (.ref c) (es.map hd++[0]):=IsL.ref (by rw[zam];exact hc2)
 refine(zny (F:=run P (n+6)) (v:=.ref c) (t:=true) rfl ad ((zgN hc2' (IsL.lst _ _)).trans (by rw[decide_eq_true rfl])))
theorem zq7 (u:zbf P) (s:List Int) (gb:GB S Z B) (hf:Fit S Z){m:List Nat}(fi:Fine B m) (t:Tr m B es [] (pre m)){c:Nat}(c0:0 < c) (h0:g[0]?=some (.list (V.lists B))) (hc:g[c]?=some (.list (V.nats (es.map hd)))) :
  ∃ g',(exSs true (run P (n+6)) (zie.body.drop 4) (El s S Z (.lst (V.lists B)) (.ref 0) (.ref c) .undef .undef .undef .undef) g).out=.ok (.bool true) g':=by
 have hb:HB g (.ref 0) (lstB B):=zmz (zaa h0);have n63:B.length < 64:=Nat.lt_of_le_of_lt gb.cnt (by decide)
 have r:=t.ring fi.1.1 gb.len;have l1:1≤(es.map hd).length:=by rw[r.1];exact List.length_pos_iff.2 gb.ne
 have l2:(es.map hd).length≤63:=by rw[r.1];exact Nat.le_of_lt_succ n63
 have p:=t.perm fi.1.1;rw[List.append_nil] at p;have dS:∀ d∈es.map hd,d < S:=fun d hd'=>by
  obtain⟨w,hw,rfl⟩:=List.mem_map.1 hd';have hw:=p.mem_iff.1 hw;have w0:0 < w.length:=by rw[gb.len w hw];exact hf.z1
  refine gb.lt w hw _ ?_;unfold hd;rw[List.getD_eq_getElem?_getD,List.getElem?_eq_getElem w0];exact List.getElem_mem w0
 rcases zkI (n:=n+3) u.lack.lack_of hb (by rw[zbP];exact gb.jb hf.z1) with⟨_,_,el⟩|⟨nw,_⟩
 ·rw[←zgY (n:=n+1) u.lack hf hb (by rw[zbP];exact gb.gw)] at el
  obtain⟨b,hb2,e8⟩:=zkB (n:=n+4) (h:=g) (v:=.ref c) (bv:=.lst (V.lists B)) u.l_is_ring hf.z8 rfl n63 (IsL.ref hc) l1 (Nat.le_trans l2 (by decide))
  rw[hb2.2 r] at e8;obtain⟨g',e'⟩:=zq9 (n:=n) (g:=g) (wy:=.none) (ce:=.int (cellAt s 10)) u s gb hf fi t (by rw[←List.length_map (f:=hd)];exact l2) c0 h0 hc
  have e10:=zpm (n:=n) u.l_told_of ⟨hf,hb,znm B,zbP B,gb.gw,n63⟩ r dS (cellAt s 10);refine⟨g',zaT (zbu (v:=.int S) (w:=.int Z) (x:=.ref 0) rfl rfl rfl el) (ρ':=El s S Z (.lst (V.lists B)) (.ref 0) (.ref c) .none .undef .undef .undef) rfl (zb1 (zhI h0) (zb1 (zky rfl hc) (zb1 (zon (x:=false) rfl (zcf (zbu (v:=.ref c) (w:=.int Z) (x:=.lst (V.lists B)) rfl rfl rfl e8))) (zaT (zdU (v:=V.ints s) (w:=.int (10:Nat)) rfl rfl (zhk (n:=n+5) u.l_cell_at s 10)) (ρ':=El s S Z (.lst (V.lists B)) (.ref 0) (.ref c) .none (.int (cellAt s 10)) .undef .undef) rfl (zb1 (zon (zcf (zln (zak (v:=.int S) rfl (zak (v:=.int Z) rfl (zak (v:=.ref 0) rfl (zak (ziA (v:=.ref c) rfl (zaa hc)) (zak (v:=.int (cellAt s 10)) rfl rfl))))) e10)) (zhI h0)) e')))))⟩
 ·rw[zbP] at nw;exact absurd fi.whole nw
theorem law_eq (u:zbf P) (n:Nat) (s:List Int):∃ H',run P (n+7) true "law" [V.ints s] []=.ok (.bool true) H':=by
 obtain⟨S,Z,hf,ep⟩:=zpG (n:=n+5) (h:=[]) u.l_pair (cellAt s 0);obtain⟨B,gb,eb⟩:=zqC (n:=n+4) (h:=[]) u.l_book s (f:=1) hf.s1 ⟨hf.z1,hf.z8⟩;have go:∀ (tl:V) (g g':H),run P (n+6) true "_law_asked" [.int S,.int Z,.ref 0] [.list (V.lists B)]=.ok tl g→(exSs true (run P (n+6)) (zie.body.drop 4) (El s S Z (.lst (V.lists B)) (.ref 0) tl .undef .undef .undef .undef) g).out=.ok (.bool true) g'→run P (n+7) true "law" [V.ints s] []=.ok (.bool true) g':=fun tl g g' ea hres =>
  start u.self rfl (ρ:=[V.ints s,.undef,.undef,.undef,.undef,.undef,.undef,.undef,.undef,.undef,.undef]) rfl (zpU (vs:=[.int S,.int Z]) (zdV (zdU (v:=V.ints s) (w:=.int (0:Nat)) rfl rfl (zhk (n:=n+5) u.l_cell_at s 0)) ep) (ρ':=El s S Z .undef .undef .undef .undef .undef .undef .undef) rfl (zaT (v:=.lst (V.lists B)) (h':=[]) (by rw[zaq];exact eb) (ρ':=El s S Z (.lst (V.lists B)) .undef .undef .undef .undef .undef .undef) rfl (zaT (zdS (zli gb)) (ρ':=El s S Z (.lst (V.lists B)) (.ref 0) .undef .undef .undef .undef .undef) rfl (zaT (callT (zak (v:=.int S) rfl (zak (v:=.int Z) rfl (zak (v:=.ref 0) rfl rfl))) ea) (ρ':=El s S Z (.lst (V.lists B)) (.ref 0) tl .undef .undef .undef .undef) rfl hres))))
 rcases zqE (n:=n) u.l_asked hf (zmz (h:=[.list (V.lists B)]) (v:=.ref 0) (zaa rfl)) (by rw[zbP];exact gb.gw) (by rw[zbP];exact gb.jb hf.z1) with⟨es,g,c,m,e,x,hc,hl,fi,t⟩|⟨e,nw⟩
 ·rw[zbP] at fi t
  obtain⟨g',e'⟩:=zq7 (n:=n) u s gb hf fi t hc (zqD x rfl) hl;exact⟨g',go _ _ _ e e'⟩
 ·rw[zbP] at nw
  exact⟨_,go _ _ _ e (zq8 u s gb hf nw)⟩
end
end L09
end Mine
set_option maxRecDepth 100000
set_option maxHeartbeats 8000000
namespace Mine
open PySem PySem.W PyProof.Rows
theorem b2:(defOf view PySem.Challenge.rw_uf010021_09.row.name).isSome=true:=by kernel_rfl
theorem b3:PySem.Challenge.rw_uf010021_09.row.prog.theDef PySem.Challenge.rw_uf010021_09.row.name=(defOf view PySem.Challenge.rw_uf010021_09.row.name).map fun x=>(x.1.params,x.1.body,x.1.scope):=by kernel_rfl
theorem b4:((defOf view PySem.Challenge.rw_uf010021_09.row.name).map fun x=>kwWritten? x.1.params.kwonlyargs x.1.params.kw_defaults)=(defOf view PySem.Challenge.rw_uf010021_09.row.name).map fun x=>some x.2:=by kernel_rfl
theorem b5:(chainsOk view&&opensWell PySem.Challenge.rw_uf010021_09.row.prog&&(frees PySem.Challenge.rw_uf010021_09.row.toRowW&&PySem.Challenge.rw_uf010021_09.row.within.isEmpty))=true:=by kernel_rfl
theorem b6:PySem.Challenge.rw_uf010021_09.row.prog.bare:=⟨rfl,rfl,rfl,rfl,rfl,by decide +kernel⟩
theorem b7:PySem.Challenge.rw_uf010021_09.row.toRowW.promised:=by w_witness2
theorem b8:importsNone view=true:=by kernel_rfl
theorem b9:zhF view=true:=by kernel_rfl
theorem b10:defChk view L09.fns L09.nums L09.tl=true:=by kernel_rfl
theorem b11:fnsChk view L09.fns=true:=by kernel_rfl
set_option tactic.hygienic true in
theorem b12 {w:World}{s₀ s₁:Shared}{args:List WData}{vals:List Value}{as:List Addr}(hpre:PySem.Challenge.rw_uf010021_09.row.claim.pre args=true) (hlay:WData.layableAll args=true) (hrd:ReadsAllW PySem.Challenge.rw_uf010021_09.row.records (classAt s₀.heap) s₁.heap vals args as) (hwl:WellAll w.params s₁.heap vals args) (hlo:∀ a∈as,(a == sysModules)=false):∃ a xs l,vals=[Value.ref a]∧s₁.heap.IsList a (List.toArray xs)∧IntsAre xs l∧¬ (63:Int) < (l.length:Int):=by
 wrow_args hpre hlay hrd hwl hlo
 rename_i hL _ _ _ hI _ hc _
 exact⟨_,_,_,rfl,hL,hI,hc⟩
end Mine
open PySem PySem.W PyProof.Rows
theorem PySem.Challenge.cw_uf010021_09_holds : PySem.Challenge.rw_uf010021_09.Holds := by
 refine Mine.zmm Mine.b0 (row_said Mine.b0) Mine.b1 Mine.b2 Mine.b3 Mine.b4 rfl Mine.b5 Mine.b6 Mine.b7 ?_;intro d kwd hdef w s₀ s₁ mg mb G Y fa o pm cd doc dV kV ho hd hcd hD hmg hg args vals as hpre hlay hrd hwl hlo;rw[defOf_name hdef] at hmg
 clear ho hd hcd hD hdef
 refine Mine.hold fun X_ k_=>?_;obtain⟨K,KX,k3,k5,k8⟩:=Y;obtain⟨a,xs,l,rfl,hL,hI,hc⟩:=Mine.b12 hpre hlay hrd hwl hlo;obtain⟨H',hrun⟩:=Mine.L09.law_eq Mine.L09.znM 0 l;refine k_ (Ground.open G fun T B D TE TW=>Mine.zp1 T KX Mine.b8 rfl k3 Mine.b9 k5 Mine.b10 Mine.b11 k8 (List.contains_iff_mem.1 (by kernel_rfl)) hmg hL hI hc (by decide) hrun fun s' hs hk=>?_)
 obtain⟨h',tk,rfl⟩:=hs;exact⟨.inl ⟨.bool true,.bool true,[],rfl,fun z_=>rfl,.bool true,by kernel_rfl,unshared_nil⟩,.of_keep hk,rfl,.of_eq hg⟩
