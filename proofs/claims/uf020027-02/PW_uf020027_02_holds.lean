import PyProof.Rows.All
import KE.KDictOf
import KE.KEqDict
import OpenK.KCall
import PyProof.StrBlock2
import PyProof.Rows.ListMulArg
import KE.KItem
import OpenK.KLine
import KE.KIsAll
import PyProof.ExcAttrAll.ValueError
import PyProof.ExcBaseAll.ValueError
import PyProof.ExcClass3
import PyProof.Rows.StrCountLaw
import PyProof.Rows.StrFoldSign
import PyProof.Rows.StrLen
import Wide.All
import OpenK.AllK
import Wide.FinOn
import PySem.Challenge.RW_uf020027_02
set_option Elab.async false
set_option bootstrap.genMatcherCode false
set_option genInjectivity false
set_option genSizeOf false
set_option linter.unusedSimpArgs false
set_option autoImplicit false
set_option linter.unusedVariables false
set_option linter.unusedSectionVars false
namespace Mine
set_option backward.match.sparseCases false
open PySem
theorem some_eq {α:Type}{x:Option α}{a b:α}(h:x=some a)(h2:x=some b):a=b:=Option.some.inj (h.symm.trans h2)
theorem no_eq {α:Type}{x:Option α}{a:α}{p:Prop}(h:x=some a)(h2:x=none):p:=absurd (h.symm.trans h2) (Option.some_ne_none a)
theorem bool_no {x:Bool}{p:Prop}(h:x=true)(h2:x=false):p:=absurd (h.symm.trans h2) (by decide)
inductive V where
 | none | bool (b:Bool) | int (i:Int) | str (s:List Nat)
 | tuple (vs:List V) | range (lo hi:Int) | set (ns:List Int) | flist (vs:List V) | alist (vs:List V)
 | finst (c:Str) (ns:List Str) (vs:List V) | fdict (ks:List (List Nat)) (vs:List V)
 | exc (c:Str) | ref (i:Nat) | own (x:Str) | type (n:String)
inductive Ob where
 | list (xs:List V)
 | sdict (j:Int) (es:List (List Nat×V))
 | inst (c:Str) (d:Nat) | ns (fs:List (Str×V))
structure St where
 vars:List (Option V)
 obs:List Ob
inductive Out (α:Type) where
 | stuck
 | ok (a:α) (s:St)
 | exc (c:Str) (s:St)
noncomputable def M (α:Type):=St→Out α
noncomputable def M.pure {α:Type}(a:α):M α:=fun s=>.ok a s
noncomputable def M.bind {α β:Type}(m:M α)(f:α→M β):M β:=fun s=>match m s with
 | .ok a s'=>f a s'
 | .exc c s'=>.exc c s'
 | .stuck=>.stuck
noncomputable def stuck {α:Type}:M α:=fun _=>.stuck
noncomputable def Out.calm {α:Type}:Out α→Out α
 | .ok a s=>.ok a s
 | .exc _ _=>.stuck
 | .stuck=>.stuck
noncomputable def noX {α:Type}(m:M α):M α:=fun s=>(m s).calm
noncomputable def ofOpt {α:Type}:Option α→M α
 | some a=>M.pure a
 | none=>stuck
inductive Flow where
 | next | ret (v:V)
inductive FnKey where
 | fn (x:Str) | meth (c m:Str) | fnR (x:Str) | methR (c m:Str)
structure Wd where
 cf:FnKey→List V→M V
 sub:Str→Str→Bool
 fld:Str→Str→Bool
 has:Str→Str→Bool
 frz:Str→Bool
 exn:Str→Bool
 hot:Bool
 ch:Str→List V→M V
noncomputable def hotCf (ch:Str→List V→M V):FnKey→List V→M V
 | .fn x=>ch x
 | _=>fun _=>stuck
noncomputable def Wd.heat (W:Wd):Wd:={ W with cf:=hotCf W.ch,hot:=true,ch:=fun _ _=>stuck }
noncomputable def getVar (i:Nat):M V:=fun s=>match s.vars[i]? with
 | some (some v)=>.ok v s
 | _=>.stuck
noncomputable def setVar (i:Nat)(v:V):M Unit:=fun s=>if i<s.vars.length then .ok () { s with vars:=s.vars.set i (some v) } else .stuck
noncomputable def getOb (a:Nat):M Ob:=fun s=>match s.obs[a]? with
 | some o=>.ok o s
 | none=>.stuck
noncomputable def setOb (a:Nat)(o:Ob):M Unit:=fun s=>if a<s.obs.length then .ok () { s with obs:=s.obs.set a o } else .stuck
noncomputable def alloc (o:Ob):M V:=fun s=>.ok (.ref s.obs.length) { s with obs:=s.obs++[o] }
noncomputable def innerM {α:Type}(base n:Nat)(m:M α):M α:=fun s=>match m { s with vars:=s.vars.take base++List.replicate n none } with
 | .ok a s'=>.ok a { s with obs:=s'.obs }
 | .exc c s'=>.exc c { s with obs:=s'.obs }
 | .stuck=>.stuck
noncomputable def withObs {α:Type}(f:List Ob→Option α):M α:=fun s=>match f s.obs with
 | some a=>.ok a s
 | none=>.stuck
noncomputable def asBool:V→M Bool
 | .bool b=>M.pure b
 | _=>stuck
noncomputable def asInt:V→M Int
 | .int i=>M.pure i
 | _=>stuck
noncomputable def getList (a:Nat):M (List V):=(getOb a).bind fun o=>match o with
 | .list xs=>M.pure xs
 | _=>stuck
noncomputable def arg1 {α:Type}(f:V→M α):List V→M α
 | [v]=>f v
 | _=>stuck
noncomputable def arg2 {α:Type}(f:V→V→M α):List V→M α
 | [v,w]=>f v w
 | _=>stuck
noncomputable def asTy:V→M String
 | .type t=>M.pure t
 | _=>stuck
noncomputable def asFl:V→M (List V)
 | .flist xs=>M.pure xs
 | _=>stuck
noncomputable def asRef:V→M Nat
 | .ref i=>M.pure i
 | _=>stuck
noncomputable def asStr:V→M (List Nat)
 | .str s=>M.pure s
 | _=>stuck
noncomputable def listOf:V→M (List V)
 | .flist xs=>M.pure xs
 | .alist xs=>M.pure xs
 | .ref a=>getList a
 | _=>stuck
noncomputable def lim:Nat:=16777216
abbrev Es:=List (List Nat×V)
noncomputable def lookD (es:Es)(k:List Nat):Option V:=(es.find? fun p=>p.1=k).map (·.2)
noncomputable def putD (es:Es)(k:List Nat)(v:V):Es :=
 if es.any (fun p=>p.1=k) then es.map (fun p=>if p.1=k then (p.1,v) else p) else es++[(k,v)]
noncomputable def asStrO:V→Option (List Nat)
 | .str s=>some s
 | _=>none
noncomputable def cpK (n:Nat):Int:=if n≤8 then 0 else (n:Int)-1
noncomputable def intsOf:List V→Option (List Int)
 | []=>some []
 | .int i::r=>(intsOf r).map (i::·)
 | _=>none
noncomputable def big:Int:=9223372036854775808
noncomputable def idxL {α:Type}(xs:List α)(i:Int):Option α :=
 if 0≤i then (if i<big then xs[i.toNat]? else none) else if -(xs.length:Int)≤i∧-big≤i then xs[(i+(xs.length:Int)).toNat]? else none
noncomputable def sliceL {α:Type}(xs:List α)(lo hi:Option Int):List α :=
 (xs.drop (lo.elim 0 (clipAt xs.length))).take (hi.elim xs.length (clipAt xs.length)-lo.elim 0 (clipAt xs.length))
noncomputable def charsOf (s:List Nat):List V:=s.map fun c=>.str [c]
noncomputable def rangeL (lo hi:Int):List Int:=(List.range (hi-lo).toNat).map fun (k:Nat)=>lo+(k:Int)
noncomputable def strsOf:List V→Option (List (List Nat))
 | []=>some []
 | .str s::r=>(strsOf r).map (s::·)
 | _=>none
mutual
noncomputable def datV (obs:List Ob)(f:V→Option PyData):V→Option PyData
 | .none=>some .none
 | .bool b=>some (.bool b)
 | .int i=>some (.int i)
 | .str s=>some (.str ⟨s.toArray⟩)
 | .tuple vs=>(datVs obs f vs).map .tuple
 | .flist vs=>(datVs obs f vs).map .list
 | .ref a=>f (.ref a)
 | _=>none
noncomputable def datVs (obs:List Ob)(f:V→Option PyData):List V→Option (List PyData)
 | []=>some []
 | v::r=>match datV obs f v,datVs obs f r with
  | some x,some l=>some (x::l)
  | _,_=>none
end
section
variable {obs:List Ob}{f:V→Option PyData}
theorem dR0:datV obs f (.none)=some .none:=rfl
theorem dR1 {b:Bool}:datV obs f (.bool b)=some (.bool b):=rfl
theorem dR2 {i:Int}:datV obs f (.int i)=some (.int i):=rfl
theorem dR3 {s:List Nat}:datV obs f (.str s)=some (.str ⟨s.toArray⟩):=rfl
theorem dR4 {vs:List V}:datV obs f (.tuple vs)=(datVs obs f vs).map .tuple:=rfl
theorem dR5 {vs:List V}:datV obs f (.flist vs)=(datVs obs f vs).map .list:=rfl
theorem dR6 {a:Nat}:datV obs f (.ref a)=f (.ref a):=rfl
theorem dR7 {vs:List V}:datV obs f (.alist vs)=none:=rfl
theorem dR8 {c:Str}{ns:List Str}{vs:List V}:datV obs f (.finst c ns vs)=none:=rfl
theorem dR9 {lo:Int}{hi:Int}:datV obs f (.range lo hi)=none:=rfl
theorem dR10 {ns:List Int}:datV obs f (.set ns)=none:=rfl
theorem dR11 {c:Str}:datV obs f (.exc c)=none:=rfl
theorem dR12 {x:Str}:datV obs f (.own x)=none:=rfl
theorem dR13 {t:String}:datV obs f (.type t)=none:=rfl
theorem dR14 {ks:List (List Nat)}{vs:List V}:datV obs f (.fdict ks vs)=none:=rfl
theorem dT0:datVs obs f []=some []:=rfl
theorem dT1 {v:V}{r:List V}:datVs obs f (v::r)=(match datV obs f v,datVs obs f r with
  | some x,some l=>some (x::l)
  | _,_=>none):=rfl
end
noncomputable def datR (obs:List Ob):Nat→V→Option PyData
 | 0,_=>none
 | n+1,.ref a=>match obs[a]? with
  | some (.list xs)=>(datVs obs (datR obs n) xs).map .list
  | _=>none
 | _+1,_=>none
noncomputable def dat (obs:List Ob)(v:V):Option PyData:=datV obs (datR obs 8) v
noncomputable def eqO (obs:List Ob)(a b:V):Option Bool:=match dat obs a,dat obs b with
 | some x,some y=>if SeqAt.shaped x&&SeqAt.shaped y then some (PyData.eqv x y) else none
 | _,_=>none
noncomputable def datL (obs:List Ob)(a:V)(xs:List V):Option (PyData×List PyData):=match dat obs a,datVs obs (datR obs 8) xs with
 | some d,some ds=>if SeqAt.shaped d&&PyData.canLayAll0 ds then some (d,ds) else none
 | _,_=>none
noncomputable def dictV (obs:List Ob):V→Option Es
 | .fdict ks vs=>some (ks.zip vs)
 | .ref a=>(match obs[a]? with
  | some (.sdict _ es)=>some es
  | _=>none)
 | _=>none
noncomputable def pyEq (a b:V):M Bool:=withObs fun obs=>(eqO obs a b).or none
structure Src where
 items:List V
 chk:List (Nat×Ob)
noncomputable def chkOk (c:List (Nat×Ob))(obs:List Ob):Prop:=∀ p:Nat×Ob,p∈c→obs[p.1]?=some p.2
open Classical in
noncomputable def chkObs (c:List (Nat×Ob)):M Unit:=fun s=>if chkOk c s.obs then .ok () s else .stuck
noncomputable def smallR (lo hi:Int):Bool:=decide (-1000000≤lo)&&decide (lo≤1000000)&&decide (-1000000≤hi)&&decide (hi≤1000000)
noncomputable def toSrc (v:V):M Src:=withObs fun obs=>match v with
 | .ref a=>match obs[a]? with
  | some (.list xs)=>some ⟨xs,[(a,.list xs)]⟩
  | _=>none
 | .range lo hi=>if smallR lo hi then some ⟨(rangeL lo hi).map .int,[]⟩ else none
 | .str s=>some ⟨charsOf s,[]⟩
 | .flist xs=>some ⟨xs,[]⟩
 | _=>none
noncomputable def toSrcF (v:V):M Src:=(asFl v).bind fun xs=>M.pure ⟨xs,[]⟩
noncomputable def enumFrom (k:Nat):List V→List V
 | []=>[]
 | v::r=>.tuple [.int k,v]::enumFrom (k+1) r
noncomputable def enumV:V→M Src
 | .flist xs=>M.pure ⟨enumFrom 0 xs,[]⟩
 | .ref a=>(getList a).bind fun xs=>M.pure ⟨enumFrom 0 xs,[(a,.list xs)]⟩
 | _=>stuck
noncomputable def strM (s:List Nat):M V:=if s.length≤lim then M.pure (.str s) else stuck
noncomputable def allocL (xs:List V):M V:=if xs.length≤lim then M.pure (.flist xs) else stuck
noncomputable def ownL:V→M V
 | .flist xs=>alloc (.list xs)
 | _=>stuck
noncomputable def tupL (xs:List V):M V:=if xs.length≤lim then M.pure (.tuple xs) else stuck
noncomputable def seqM {α:Type}:List (M α)→M (List α)
 | []=>M.pure []
 | m::r=>m.bind fun v=>(seqM r).bind fun vs=>M.pure (v::vs)
noncomputable def appM (f:List V→M V)(args:List (M V)):M V:=(seqM args).bind f
noncomputable def constM (v:V):M V:=M.pure v
noncomputable def varM (i:Nat):M V:=getVar i
noncomputable def tupM (es:List (M V)):M V:=(seqM es).bind tupL
noncomputable def listM (es:List (M V)):M V:=(seqM es).bind allocL
noncomputable def evB (m:M V):M Bool:=m.bind asBool
noncomputable def boolV (m:M Bool):M V:=m.bind fun b=>M.pure (.bool b)
noncomputable def andM:List (M Bool)→M Bool
 | []=>M.pure true
 | m::r=>m.bind fun b=>if b then andM r else M.pure false
noncomputable def orM:List (M Bool)→M Bool
 | []=>M.pure false
 | m::r=>m.bind fun b=>if b then M.pure true else orM r
noncomputable def notM (m:M Bool):M Bool:=m.bind fun b=>M.pure !b
noncomputable def negM (m:M V):M V:=m.bind fun v=>(asInt v).bind fun i=>M.pure (.int (-i))
noncomputable def iteM {α:Type}(t:M Bool)(a b:M α):M α:=t.bind fun x=>if x then a else b
noncomputable def asTup:V→M (List V)
 | .tuple s=>M.pure s
 | _=>stuck
noncomputable def addV (a b:V):M V:=match a with
 | .int i=>(asInt b).bind fun j=>M.pure (.int (i+j))
 | .str s=>(asStr b).bind fun t=>strM (s++t)
 | .tuple x=>(asTup b).bind fun y=>if x.isEmpty || y.isEmpty then stuck else tupL (x++y)
 | v=>(listOf v).bind fun x=>(listOf b).bind fun y=>allocL (x++y)
noncomputable def int2 {α:Type}(f:Int→Int→M α)(a b:V):M α:=(asInt a).bind fun i=>(asInt b).bind fun j=>f i j
noncomputable def mulI (a b:Int):M V:=if a.natAbs.log2+b.natAbs.log2<67108864 then M.pure (.int (a*b)) else stuck
noncomputable def modI (a b:Int):M V:=if b=0 then stuck else M.pure (.int (Int.fmod a b))
noncomputable def divI (a b:Int):M V:=if b=0∨1073741824≤b.natAbs then stuck else M.pure (.int (Int.fdiv a b))
noncomputable def repL (xs:List V)(n:Nat):List V:=(List.replicate n xs).flatten
noncomputable def mulL (xs:List V)(i:Int):M V:=if (xs.length*i.toNat≤16777216∧-1000000≤i)∧i≤1000000 then M.pure (.flist (repL xs i.toNat)) else stuck
noncomputable def mulV (a b:V):M V:=match a with
 | .str x=>(asInt b).bind fun i=>if (i=3∨i=5)∧x.length≤1000 then M.pure (.str (Txt.mul ⟨x.toArray⟩ i).cps.toList) else stuck
 | .flist xs=>(asInt b).bind fun i=>mulL xs i
 | a=>int2 mulI a b
noncomputable def binV:Operator→V→V→M V
 | .Add=>addV
 | .Mult=>mulV
 | .Sub=>int2 fun a b=>M.pure (.int (a-b))
 | .Mod=>int2 modI
 | .FloorDiv=>int2 divI
 | .Pow=>int2 fun a b=>if a=10∧b=30 then M.pure (.int (10 ^ 30)) else stuck
 | _=>fun _ _=>stuck
noncomputable def binM (op:Operator)(a b:M V):M V:=a.bind fun x=>b.bind fun y=>binV op x y
noncomputable def occ (x y:List Nat)(n:Nat):List Nat:=Builtin.Str.occurrences ⟨x.toArray⟩ ⟨y.toArray⟩ 0 x.length n
noncomputable def inL (a:V)(xs:List V):M Bool:=withObs fun obs=>(datL obs a xs).map fun p=>p.2.any fun y=>PyData.eqv y p.1
noncomputable def inO (a:V):Ob→M Bool
 | .list xs=>inL a xs
 | .sdict _ es=>(asStr a).bind fun k=>M.pure (lookD es k).isSome
 | _=>stuck
noncomputable def inV (a b:V):M Bool:=match b with
 | .str x=>(asStr a).bind fun y=>M.pure !(occ x y 1).isEmpty
 | .flist xs=>inL a xs
 | .tuple xs=>inL a xs
 | .ref r=>(getOb r).bind (inO a)
 | _=>stuck
noncomputable def isNoneM:V→M Bool
 | .none=>M.pure true
 | .bool _=>M.pure false | .int _=>M.pure false | .str _=>M.pure false | .tuple _=>M.pure false | .ref _=>M.pure false | .flist _=>M.pure false | .finst ..=>M.pure false | .fdict ..=>M.pure false
 | _=>stuck
noncomputable def isV (a:V):V→M Bool
 | .none=>isNoneM a
 | .bool c=>(asBool a).bind fun b=>M.pure (b==c)
 | _=>stuck
noncomputable def cmpV:CmpOp→V→V→M Bool
 | .Eq=>pyEq
 | .NotEq=>fun a b=>(pyEq a b).bind fun x=>M.pure !x
 | .Lt=>int2 fun a b=>M.pure (decide (a<b))
 | .LtE=>int2 fun a b=>M.pure (decide (a≤b))
 | .Gt=>int2 fun a b=>M.pure (decide (a > b))
 | .GtE=>int2 fun a b=>M.pure (decide (a ≥ b))
 | .In=>inV
 | .NotIn=>fun a b=>(inV a b).bind fun x=>M.pure !x
 | .Is=>isV
 | .IsNot=>fun a b=>(isV a b).bind fun x=>M.pure !x
noncomputable def chainM (x:V):List (CmpOp×M V)→M Bool
 | []=>stuck
 | [(op,m)]=>m.bind fun y=>cmpV op x y
 | (op,m)::r=>m.bind fun y=>(cmpV op x y).bind fun b=>if b then chainM y r else M.pure false
noncomputable def cmpM (a:M V)(r:List (CmpOp×M V)):M Bool:=a.bind fun x=>chainM x r
noncomputable def attrV (W:Wd)(x:Str):V→M V
 | .finst c ns vs=>if W.fld c x then ofOpt ((ns.zip vs).lookup x) else stuck
 | .ref a=>(getOb a).bind fun o=>match o with
  | .inst c d=>if W.fld c x then (getOb d).bind fun n=>(match n with
   | .ns fs=>ofOpt (fs.lookup x)
   | _=>stuck) else stuck
  | _=>stuck
 | _=>stuck
noncomputable def attrM (W:Wd)(m:M V)(x:Str):M V:=m.bind (attrV W x)
noncomputable def subO (k:V):Ob→M V
 | .list xs=>(asInt k).bind fun i=>ofOpt (idxL xs i)
 | .sdict _ es=>(asStr k).bind fun k=>ofOpt (lookD es k)
 | _=>stuck
noncomputable def subV (v k:V):M V:=match v with
 | .str s=>(asInt k).bind fun i=>ofOpt ((idxL s i).map fun c=>.str [c])
 | .tuple vs=>(asInt k).bind fun i=>ofOpt (idxL vs i)
 | .flist vs=>(asInt k).bind fun i=>ofOpt (idxL vs i)
 | .alist vs=>(asInt k).bind fun i=>ofOpt (idxL vs i)
 | .ref a=>(getOb a).bind (subO k)
 | _=>stuck
noncomputable def subM (m i:M V):M V:=m.bind fun v=>i.bind fun k=>subV v k
noncomputable def optI (m:Option (M V)):M (Option Int):=match m with
 | none=>M.pure none
 | some m=>m.bind fun v=>(asInt v).bind fun i=>M.pure (some i)
noncomputable def sliceV (v:V)(lo hi:Option Int):M V:=match v with
 | .str s=>if s.length≤lim then M.pure (.str (Txt.slice ⟨s.toArray⟩ lo hi).cps.toList) else stuck
 | v=>(listOf v).bind fun xs=>if xs.length≤lim then M.pure (.flist (sliceL xs lo hi)) else stuck
noncomputable def sliceM (m:M V)(lo hi:Option (M V)):M V:=m.bind fun v=>(optI lo).bind fun l=>(optI hi).bind fun h=>sliceV v l h
noncomputable def revV (v:V):M V:=(asStr v).bind fun x=>if x.length≤lim then M.pure (.str (Txt.sliceBy ⟨x.toArray⟩ none none (-1,0)).cps.toList) else stuck
noncomputable def revM (m:M V):M V:=m.bind revV
noncomputable def lenM (n:Nat):M V:=if n≤lim then M.pure (.int n) else stuck
noncomputable def lenO:Ob→M V
 | .list xs=>lenM xs.length
 | .sdict _ es=>lenM es.length
 | _=>stuck
noncomputable def lenV:V→M V
 | .str s=>lenM s.length
 | .tuple s=>lenM s.length
 | .ref a=>(getOb a).bind lenO
 | v=>(listOf v).bind fun xs=>lenM xs.length
noncomputable def fLen:List V→M V:=arg1 lenV
noncomputable def nm (s:String):Str:=Str.ofString s
noncomputable def isiTypes:List String:=["int", "str", "bool", "list", "tuple", "dict"]
noncomputable def isiK (k t:String):Option Bool:=if isiTypes.contains t then some (k==t || (k == "bool" && t == "int")) else none
noncomputable def kindV (obs:List Ob):V→Option String
 | .bool _=>some "bool"
 | .int _=>some "int"
 | .str _=>some "str"
 | .flist _=>some "list"
 | .tuple _=>some "tuple"
 | .none=>some "NoneType"
 | .fdict ..=>some "dict"
 | .ref a=>match obs[a]? with
  | some (.list _)=>some "list"
  | some (.sdict ..)=>some "dict"
  | _=>none
 | _=>none
noncomputable def isiV (v w:V):M V:=(asTy w).bind fun t=>withObs fun obs=>(kindV obs v).bind fun k=>(isiK k t).map .bool
noncomputable def fIsinstance:List V→M V:=arg2 isiV
noncomputable def isi2 (v:V):V→M V
 | w=>isiV v w
noncomputable def fIsi:List V→M V:=arg2 isi2
noncomputable def isE (W:Wd)(c:Str):V→M V
 | .own d=>if W.exn c=true∧W.exn d=true then M.pure (.bool (W.sub c d)) else stuck
 | .type t=>if W.exn c=true∧t = "ValueError" then M.pure (.bool (W.sub c (nm "ValueError"))) else stuck
 | _=>stuck
noncomputable def asExc:V→M Str
 | .exc c=>M.pure c
 | _=>stuck
noncomputable def fIsE (W:Wd):List V→M V:=arg2 fun v w=>(asExc v).bind fun c=>isE W c w
noncomputable def listV:V→M V
 | .str x=>allocL (charsOf x)
 | .tuple xs=>allocL xs
 | .range lo hi=>if smallR lo hi then allocL ((rangeL lo hi).map .int) else stuck
 | v=>(listOf v).bind fun xs=>allocL xs
noncomputable def fList:List V→M V:=arg1 listV
noncomputable def tupV:V→M V
 | .tuple xs=>M.pure (.tuple xs)
 | v=>(listOf v).bind tupL
noncomputable def fTuple:List V→M V:=arg1 tupV
noncomputable def allO {α β:Type}(f:α→Option β):List α→Option (List β)
 | []=>some []
 | a::r=>match f a,allO f r with
  | some b,some l=>some (b::l)
  | _,_=>none
noncomputable def fRange:List V→M V
 | [v]=>(asInt v).bind fun n=>if -1000000≤n∧n≤1000000 then M.pure (.range 0 n) else stuck
 | [v,w]=>(asInt v).bind fun a=>(asInt w).bind fun b=>if (-1000000≤a∧a≤1000000)∧-1000000≤b∧b≤1000000 then M.pure (.range a b) else stuck
 | _=>stuck
noncomputable def bTab:List (Str×Value×(List V→M V)):=[(nm "len", .builtin "len", fLen),(nm "isinstance", .builtin "isinstance", fIsi),(nm "list", .type "list", fList),(nm "range", .type "range", fRange)
 , (nm "tuple", .type "tuple", fTuple)
 ]
noncomputable def bfun (x:Str):Option (Value×(List V→M V)):=bTab.lookup x
noncomputable def mAppend:List V→M V:=arg2 fun a v=>(asRef a).bind fun a=>(getList a).bind fun xs=>if xs.length≤lim then (setOb a (.list (xs++[v]))).bind fun _=>M.pure .none else stuck
noncomputable def mExt:List V→M V:=arg2 fun a ys=>(asRef a).bind fun a=>(asFl ys).bind fun ys=>(getList a).bind fun xs=>if xs.length+ys.length≤lim then (setOb a (.list (xs++ys))).bind fun _=>M.pure .none else stuck
noncomputable def pop0 (a:Nat):List V→M V
 | []=>stuck
 | x::r=>if r.length<lim then (setOb a (.list r)).bind fun _=>M.pure x else stuck
noncomputable def mPop:List V→M V:=arg2 fun a i=>(asRef a).bind fun a=>(asInt i).bind fun i=>(getList a).bind fun xs=>if i=0 then pop0 a xs else stuck
noncomputable def mIndex:List V→M V:=arg2 fun x y=>(asStr x).bind fun x=>(asStr y).bind fun y=>match occ x y 1 with
  | i::_=>M.pure (.int i)
  | []=>stuck
noncomputable def mCount:List V→M V:=arg2 fun x y=>(asStr x).bind fun x=>(asStr y).bind fun y=>M.pure (.int (occ x y (x.length+1)).length)
noncomputable def mkS (s:List Nat):Str:=⟨s.toArray⟩
noncomputable def mJoin:List V→M V:=arg2 fun sep v=>(asStr sep).bind fun sep=>(listOf v).bind fun xs=>(ofOpt (strsOf xs)).bind fun ws =>
  if JoinOk (mkS sep) (ws.map mkS) then M.pure (.str (Txt.join (mkS sep) (ws.map mkS)).cps.toList) else stuck
noncomputable def mUpper:List V→M V:=arg1 fun v=>(asStr v).bind fun x=>if x.length≤1000 then M.pure (.str (Txt.upper (mkS x)).cps.toList) else stuck
noncomputable def pickL (f:List V→M V):V→M (List V→M V)
 | .ref a=>(getList a).bind fun _=>M.pure f
 | _=>stuck
noncomputable def pickS (f:List V→M V):V→M (List V→M V)
 | .str _=>M.pure f
 | _=>stuck
noncomputable def pickI:V→M (List V→M V)
 | .str _=>M.pure mIndex
 | _=>stuck
noncomputable def pickK (k:Str→FnKey)(W:Wd)(x:Str):V→M (List V→M V)
 | .finst c ns vs=>if ((ns.zip vs).lookup x).isNone&&W.has c x then M.pure (W.cf (k c)) else stuck
 | .ref a=>(getOb a).bind fun o=>match o with
  | .inst c d=>(getOb d).bind fun n=>(match n with
   | .ns fs=>if (fs.lookup x).isNone&&W.has c x then M.pure (W.cf (k c)) else stuck
   | _=>stuck)
  | _=>stuck
 | _=>stuck
noncomputable abbrev pickO (W:Wd)(x:Str):=pickK (fun c=>.meth c x) W x
noncomputable abbrev pickR (W:Wd)(x:Str):=pickK (fun c=>.methR c x) W x
noncomputable def mTab:List (Str×(V→M (List V→M V))):=[(nm "append", pickL mAppend),(nm "count", pickS mCount),(nm "join", pickS mJoin),(nm "extend", pickL mExt),(nm "pop", pickL mPop),(nm "upper", pickS mUpper)
 , (nm "index", pickI)
 ]
noncomputable def pickM (W:Wd)(x:Str):V→M (List V→M V):=(mTab.lookup x).getD (pickO W x)
mutual
noncomputable def ltV (n:Nat):V→Bool
 | .ref i=>decide (i<n)
 | .tuple vs=>ltVs n vs
 | .flist vs=>ltVs n vs
 | .alist vs=>ltVs n vs
 | .finst _ _ vs=>ltVs n vs
 | .fdict _ vs=>ltVs n vs
 | _=>true
noncomputable def ltVs (n:Nat):List V→Bool
 | []=>true
 | v::vs=>ltV n v&&ltVs n vs
end
section
variable {n:Nat}
theorem lR0 {i:Nat}:ltV n (.ref i)=decide (i<n):=rfl
theorem lR1 {vs:List V}:ltV n (.tuple vs)=ltVs n vs:=rfl
theorem lR2 {vs:List V}:ltV n (.flist vs)=ltVs n vs:=rfl
theorem lR3 {vs:List V}:ltV n (.alist vs)=ltVs n vs:=rfl
theorem lR4 {c:Str}{ns:List Str}{vs:List V}:ltV n (.finst c ns vs)=ltVs n vs:=rfl
theorem lR5:ltV n (.none)=true:=rfl
theorem lR6 {b:Bool}:ltV n (.bool b)=true:=rfl
theorem lR7 {i:Int}:ltV n (.int i)=true:=rfl
theorem lR8 {s:List Nat}:ltV n (.str s)=true:=rfl
theorem lR9 {lo:Int}{hi:Int}:ltV n (.range lo hi)=true:=rfl
theorem lR10 {ns:List Int}:ltV n (.set ns)=true:=rfl
theorem lR11 {c:Str}:ltV n (.exc c)=true:=rfl
theorem lR12 {x:Str}:ltV n (.own x)=true:=rfl
theorem lR13 {t:String}:ltV n (.type t)=true:=rfl
theorem lR14 {ks:List (List Nat)}{vs:List V}:ltV n (.fdict ks vs)=ltVs n vs:=rfl
theorem lS0:ltVs n []=true:=rfl
theorem lS1 {v:V}{vs:List V}:ltVs n (v::vs)=(ltV n v&&ltVs n vs):=rfl
end
noncomputable def ltO (n:Nat):Ob→Bool
 | .list xs=>ltVs n xs
 | .sdict _ es=>ltVs n (es.map (·.2))
 | .inst _ d=>decide (d<n)
 | .ns fs=>ltVs n (fs.map (·.2))
noncomputable def res (n:Nat)(o:List Ob):Nat→V→Option V
 | 0,_=>none
 | k+1,v=>if ltV n v then some v else match v with
  | .tuple vs=>(allO (res n o k) vs).map .tuple
  | .ref i=>(match o[i]? with
   | some (.list xs)=>(allO (res n o k) xs).map .flist
   | some (.sdict _ es)=>(allO (res n o k) (es.map (·.2))).map (.fdict (es.map (·.1)))
   | _=>none)
  | _=>none
noncomputable def resO (n:Nat)(o:List Ob)(x:Ob):Option Ob:=if ltO n x then some x else match x with
 | .list xs=>(allO (res n o 4) xs).map .list
 | _=>none
open Classical in
noncomputable def keepL (o o':List Ob):Option (List Ob):=if o'.take o.length=o then some o else if o.length≤o'.length then allO (resO o.length o') (o'.take o.length) else none
noncomputable def settle (o o':List Ob)(v:V):Option (V×List Ob):=(keepL o o').bind fun ob=>(res o.length o' 4 v).map fun v=>(v,ob)
noncomputable def newR (W:Wd)(c:Str)(vs:List V):M V :=
 (alloc (.ns [])).bind fun d=>match d with
  | .ref d=>(alloc (.inst c d)).bind fun o=>(W.cf (.meth c (nm "__init__")) (o::vs)).bind fun r=>(match r with
   | .none=>M.pure o
   | _=>stuck)
  | _=>stuck
noncomputable def frzI (c:Str)(n:Nat)(o':List Ob):Option V:=match o'[n]?,o'[n+1]? with
 | some (.ns fs),some (.inst c' d)=>if c'=c∧d=n∧ltVs n (fs.map (·.2))=true then some (.finst c (fs.map (·.1)) (fs.map (·.2))) else none
 | _,_=>none
noncomputable def newF (W:Wd)(c:Str)(vs:List V):M V:=fun s=>match newR W c vs s with
  | .ok _ s'=>(match frzI c s.obs.length s'.obs,keepL s.obs s'.obs with
   | some v,some o=>.ok v { s with obs:=o }
   | _,_=>.stuck)
  | .exc c' s'=>(match keepL s.obs s'.obs with
   | some o=>.exc c' { s with obs:=o }
   | none=>.stuck)
  | .stuck=>.stuck
noncomputable def newC (W:Wd)(c:Str)(vs:List V):M V:=if W.frz c then newF W c vs else newR W c vs
inductive Tg where
 | var (i:Nat) | tup (is:List Nat)
noncomputable def setVars:List Nat→List V→M Unit
 | i::is,v::vs=>(setVar i v).bind fun _=>setVars is vs
 | [],[]=>M.pure ()
 | _,_=>stuck
noncomputable def asg:Tg→V→M Unit
 | .var i,v=>setVar i v
 | .tup is,.tuple vs=>setVars is vs
 | _,_=>stuck
noncomputable def compItems (t:Tg)(cond:M Bool)(elt:M V)(c:List (Nat×Ob)):List V→M (List V)
 | []=>(chkObs c).bind fun _=>M.pure []
 | x::xs=>(chkObs c).bind fun _=>(asg t x).bind fun _=>cond.bind fun b =>
  if b then elt.bind fun v=>(compItems t cond elt c xs).bind fun vs=>M.pure (v::vs) else compItems t cond elt c xs
noncomputable def compM (base n:Nat)(src:M Src)(t:Tg)(cond:M Bool)(elt:M V):M V :=
 src.bind fun s=>if s.items.length≤lim then (noX (innerM base n (compItems t cond elt s.chk s.items))).bind fun vs=>M.pure (.flist vs) else stuck
noncomputable def seqS:List (M Flow)→M Flow
 | []=>M.pure .next
 | m::r=>m.bind fun f=>match f with
  | .next=>seqS r
  | .ret v=>M.pure (.ret v)
noncomputable def forItems (t:Tg)(body:M Flow)(c:List (Nat×Ob)):List V→M Flow
 | []=>(chkObs c).bind fun _=>M.pure .next
 | x::xs=>(chkObs c).bind fun _=>(asg t x).bind fun _=>body.bind fun f=>match f with
  | .next=>forItems t body c xs
  | .ret v=>M.pure (.ret v)
noncomputable def forM (t:Tg)(src:M Src)(body:M Flow):M Flow:=src.bind fun s=>noX (forItems t body s.chk s.items)
noncomputable def exprM (m:M V):M Flow:=m.bind fun _=>M.pure .next
noncomputable def retM (m:M V):M Flow:=m.bind fun v=>M.pure (.ret v)
noncomputable def raiseM (c:Str):M Flow:=fun s=>.exc c s
noncomputable def clrVar (i:Nat):M Unit:=fun s=>if i<s.vars.length then .ok () { s with vars:=s.vars.set i none } else .stuck
noncomputable def tryM (b:M Flow)(ok:Str→Bool)(suite:Str→M Flow):M Flow:=fun s=>match b s with
 | .ok f s'=>.ok f s'
 | .exc c s'=>if ok c then noX (suite c) s' else .stuck
 | .stuck=>.stuck
noncomputable def asM (i:Nat)(m:M Flow)(c:Str):M Flow:=(setVar i (.exc c)).bind fun _=>m.bind fun f=>(clrVar i).bind fun _=>M.pure f
noncomputable def assignM (t:Tg)(m:M V):M Flow:=m.bind fun v=>(asg t v).bind fun _=>M.pure .next
noncomputable def setField (x:Str)(v:V):List (Str×V)→List (Str×V)
 | []=>[(x,v)]
 | e::r=>if e.1==x then (x,v)::r else e::setField x v r
noncomputable def setAttrV (W:Wd)(o:V)(x:Str)(v:V):M Unit:=match o with
 | .ref a=>(getOb a).bind fun o=>match o with
  | .inst c d=>if W.fld c x then (getOb d).bind fun n=>(match n with
   | .ns fs=>if fs.length≤100 then setOb d (.ns (setField x v fs)) else stuck
   | _=>stuck) else stuck
  | _=>stuck
 | _=>stuck
noncomputable def setAttrM (W:Wd)(o:M V)(x:Str)(m:M V):M Flow:=m.bind fun v=>o.bind fun ov=>(setAttrV W ov x v).bind fun _=>M.pure .next
noncomputable def flowV:Flow→V
 | .ret v=>v
 | .next=>.none
noncomputable def settleB (raw:Bool)(o o':List Ob)(v:V):Option (V×List Ob):=if raw then some (v,o') else settle o o' v
noncomputable def runFnS (sf:List Ob→List Ob→V→Option (V×List Ob))(np n:Nat)(body:M Flow)(args:List V):M V:=fun s =>
 if args.length=np then match body ⟨args.map some++List.replicate (n-np) none,s.obs⟩ with
  | .ok fl s'=>(match sf s.obs s'.obs (flowV fl) with
   | some (v,o)=>.ok v { s with obs:=o }
   | none=>.stuck)
  | .exc c s'=>(match keepL s.obs s'.obs with
   | some o=>.exc c { s with obs:=o }
   | none=>.stuck)
  | .stuck=>.stuck
 else .stuck
noncomputable abbrev runFn (raw:Bool):=runFnS (settleB raw)
end Mine
namespace Mine
set_option genCtorIdx false
set_option backward.match.sparseCases false
open PySem
structure GI where
 fns:List Str
 clss:List Str
 consts:List (Str×V)
 muf:List Str
 mup:List Str
noncomputable def typeNames:List (Str×String):=[(nm "int", "int"),(nm "str", "str"),(nm "bool", "bool"),(nm "list", "list"),(nm "tuple", "tuple"),(nm "dict", "dict"),(nm "ValueError", "ValueError")]
noncomputable def dGlob (G:GI)(x:Str):Option V :=
 match G.consts.lookup x with
 | some v=>some v
 | none=>if G.clss.contains x then some (.own x) else if G.fns.contains x then none else (typeNames.lookup x).map .type
noncomputable def idxLast:List Str→Str→Option Nat
 | [],_=>none
 | y::r,x=>match idxLast r x with
  | some k=>some (k+1)
  | none=>if y==x then some 0 else none
noncomputable def isGlob (sc:Scope)(x:Str):Bool:=sc.names.lookup x==some .globalImplicit
noncomputable def isVar (sc:Scope)(x:Str):Bool:=match sc.names.lookup x with
 | some .local=>true | some .cell=>true | some .free=>true | _=>false
noncomputable def dConst:Const→Option V
 | .none=>some .none
 | .bool b=>some (.bool b)
 | .int i=>some (.int i)
 | .str s=>some (.str s.cps.toList)
 | _=>none
noncomputable def isBuiltin (G:GI)(sc:Scope)(x:Str)(n:String):Bool:=x==nm n&&isGlob sc x&&!G.fns.contains x&&!G.clss.contains x&&(G.consts.lookup x).isNone
inductive Ev where
 | name (x:Str) (p:Pos)
 | tup (es:List Expr) (k:Nat) (p:Pos)
 | att (o:Expr) (x:Str) (p:Pos)
 | sub (o i:Expr) (p:Pos)
 | call (f:Expr) (as:List Expr) (ks:List Keyword) (p:Pos)
 | con (c:Const) (k:Nat) (p:Pos)
 | dict (ks:List (Option Expr)) (vs:List Expr) (p:Pos)
 | un (op:UnaryOp) (x:Expr) (p:Pos)
 | other
noncomputable def ev:Expr→Ev
 | .Name x p=>.name x p
 | .Tuple es k p=>.tup es k p
 | .Attribute o x p=>.att o x p
 | .Subscript o i p=>.sub o i p
 | .Call f as ks p=>.call f as ks p
 | .Constant c k p=>.con c k p
 | .Dict ks vs p=>.dict ks vs p
 | .UnaryOp op x p=>.un op x p
 | _=>.other
noncomputable def Ev.nm:Ev→Option Str
 | .name x _=>some x
 | _=>none
noncomputable def nameIs (e:Expr):Option Str:=(ev e).nm
noncomputable def namesOfT:List Expr→Option (List Str)
 | []=>some []
 | e::r=>(nameIs e).bind fun x=>(namesOfT r).map (x::·)
noncomputable def Ev.tgN:Ev→Option (List Str)
 | .name x _=>some [x]
 | .tup es _ _=>namesOfT es
 | _=>none
noncomputable def tgNames (e:Expr):Option (List Str):=(ev e).tgN
noncomputable def idxAll (ns:List Str):List Str→Option (List Nat)
 | []=>some []
 | x::r=>(idxLast ns x).bind fun k=>(idxAll ns r).map (k::·)
noncomputable def dTgv (sc:Scope)(ns:List Str):Ev→Option Tg
 | .name x _=>if isVar sc x then (idxLast ns x).map .var else none
 | .tup es _ _=>(namesOfT es).bind fun xs=>if xs.all (isVar sc) then (idxAll ns xs).map .tup else none
 | _=>none
noncomputable def dTg (sc:Scope)(ns:List Str)(e:Expr):Option Tg:=dTgv sc ns (ev e)
noncomputable def Ev.isTup:Ev→Bool
 | .tup ..=>true
 | _=>false
noncomputable def isTupT (e:Expr):Bool:=(ev e).isTup
noncomputable def nonNil {α:Type}:List α→Option (α×List α)
 | []=>none
 | a::r=>some (a,r)
noncomputable def zipOps:List CmpOp→List (M V)→Option (List (CmpOp×M V))
 | [],l=>if l.isEmpty then some [] else none
 | o::os,l=>(nonNil l).bind fun p=>(zipOps os p.2).map ((o,p.1)::·)
noncomputable def OP {α:Type}(o:Option α)(P:α→Prop):Prop:=∀ a,o=some a→P a
section
variable {α β:Type}{P:β→Prop}{A:α→Prop}
theorem OP.none:OP (none:Option β) P:=fun _ h=>(nomatch h)
theorem OP.some {a:β}(h:P a):OP (some a) P:=fun _ e=>Option.some.inj e▸h
theorem OP.map {o:Option α}{f:α→β}(h:OP o A)(k:∀ a,A a→P (f a)):OP (o.map f) P:=by
 cases o with
 | none=>exact .none
 | some a=>exact .some (k a (h a rfl))
theorem OP.bind {o:Option α}{f:α→Option β}(h:OP o A)(k:∀ a,A a→OP (f a) P):OP (o.bind f) P:=by
 cases o with
 | none=>exact .none
 | some a=>exact k a (h a rfl)
theorem OP.bind' {o:Option β}{Q:β→Prop}(h:OP o Q)(k:∀ a,Q a→P a):OP o P:=fun a e=>k a (h a e)
theorem OP.self (o:Option α):OP o fun a=>o=Option.some a:=fun _ e=>e
theorem OP.ite {c:Bool}{o:Option β}(h:c=true→OP o P):OP (if c then o else Option.none) P:=by
 cases c with
 | true=>exact h rfl
 | false=>exact .none
theorem OP.ite2 {c:Bool}{o o':Option β}(h:c=true→OP o P)(h':c=false→OP o' P):OP (if c then o else o') P:=by
 cases c with
 | true=>exact h rfl
 | false=>exact h' rfl
end
noncomputable def one1 {α:Type}:List α→Option α
 | []=>none
 | t::r=>if r.isEmpty then some t else none
noncomputable def dCall (W:Wd)(G:GI)(sc:Scope)(x:Str)(args:List (M V)):Option (M V) :=
 if isGlob sc x then
  if G.fns.contains x then some (appM (W.cf (.fn x)) args)
  else if G.clss.contains x then (if W.has x (nm "__init__") then some (appM (newC W x) args) else none)
  else if (G.consts.lookup x).isSome then none
  else if W.hot then (if x==nm "isinstance" then some (appM (fIsE W) args) else none)
  else (bfun x).map fun f=>appM f.2 args
 else none
noncomputable def methM (pick:V→M (List V→M V))(o:M V)(args:List (M V)):M V:=o.bind fun v=>(pick v).bind fun f=>(seqM args).bind fun vs=>f (v::vs)
noncomputable def oneC:Const→Bool
 | .int i=>i==1
 | _=>false
noncomputable def Ev.one:Ev→Bool
 | .con c _ _=>oneC c
 | _=>false
noncomputable def negU:UnaryOp→Bool
 | .USub=>true
 | _=>false
noncomputable def Ev.neg:Ev→Bool
 | .un op x _=>negU op&&(ev x).one
 | _=>false
noncomputable def revE (e:Option Expr):Bool:=e.any fun e=>(ev e).neg
inductive Sh where
 | other
 | name (x:Str)
 | att (m:Option (M V)) (x:Str) (ap:Pos)
 | slice (l h:Option (Option (M V))) (st:Option Expr)
 | call (x:Str) (l:Option (List (M V)))
 | meth (m:Option (M V)) (x:Str) (l:Option (List (M V)))
structure Dn where
 v:Option (M V)
 b:Option (M Bool)
 s:Option (M Src)
 fr:Bool
 bs:Bool
 sh:Sh
noncomputable def Dn.of (m:Option (M V))(fr:Bool:=false)(bs:Bool:=true)(sh:Sh:=.other):Dn:=⟨m,m.map evB,m.map fun m=>m.bind toSrc,fr,bs,sh⟩
noncomputable def Dn.none (sh:Sh:=.other):Dn:=⟨Option.none,Option.none,Option.none,false,false,sh⟩
noncomputable def allV:List Dn→Option (List (M V))
 | []=>some []
 | x::r=>x.v.bind fun m=>(allV r).map fun l=>m::l
noncomputable def allB:List Dn→Option (List (M Bool))
 | []=>some []
 | x::r=>x.b.bind fun m=>(allB r).map fun l=>m::l
noncomputable def optV:Option Dn→Option (Option (M V))
 | none=>some none
 | some x=>x.v.map some
noncomputable def dSl (o:Option (M V))(l h:Option (Option (M V)))(st:Option Expr):Option (M V) :=
 if revE st then o.bind fun o=>l.bind fun l=>h.bind fun h=>(if l.isNone&&h.isNone then some (revM o) else none) else
 if st.isNone then o.bind fun o=>l.bind fun l=>h.map fun h=>sliceM o l h else none
noncomputable def dSub (o:Option (M V))(D:Dn):Sh→Option (M V)
 | .slice l h st=>dSl o l h st
 | _=>o.bind fun m=>D.v.map fun k=>subM m k
noncomputable def dBool (e:Bool)(l:List Dn):BoolOp→Dn
 | .And=>⟨if e then none else (allV l).map fun l=>boolV (andM (l.map evB)),(allB l).map andM,none,false,true,.other⟩
 | .Or=>⟨if e then none else (allV l).map fun l=>boolV (orM (l.map evB)),(allB l).map orM,none,false,true,.other⟩
noncomputable def dUn (D:Dn):UnaryOp→Dn
 | .Not=>⟨D.v.map fun m=>boolV (notM (evB m)),D.b.map notM,none,false,true,.other⟩
 | .USub=>.of (D.v.map negM)
 | _=>.none
noncomputable def addMul:Operator→Bool
 | .Add=>true
 | .Mult=>true
 | _=>false
noncomputable def dTest (m:Option (M Bool)):Dn:=⟨m.map boolV,m,none,false,true,.other⟩
noncomputable def dCmp (a:Dn)(ops:List CmpOp)(cs:List Dn):Option (M Bool) :=
 a.v.bind fun a=>(allV cs).bind fun bs=>(zipOps ops bs).bind fun l=>(nonNil l).map fun p=>cmpM a (p.1::p.2)
noncomputable def dCalls (W:Wd)(G:GI)(sc:Scope)(l:Option (List (M V)))(ks:Bool)(n:Nat)(p:Pos):Sh→Dn
 | .att m x ap=>if ks&&((ap.endLine==p.line)&&decide (n<29)) then .of (m.bind fun m=>l.map fun l=>methM (pickM W x) m l) false true (.meth m x l) else .none
 | .name x=>if ks then (if isBuiltin G sc x "enumerate" then ⟨none,none,(l.bind one1).map fun m=>m.bind enumV,false,false,.other⟩ else .of (l.bind (dCall W G sc x)) (isBuiltin G sc x "list") (decide (0<n)) (.call x l)) else .none
 | _=>.none
noncomputable def compOk (sc:Scope)(ns:List Str)(cs:Scope)(xs:List Str):Bool :=
 cs.kind==.function&&decide (cs.names.map (·.1)).Nodup &&
 cs.names.all (fun p=>(p.2 != .cell || xs.contains p.1)&&!(p.1==("__debug__" : Str))&&(p.2 != .local || xs.contains p.1 || !ns.contains p.1)&&(p.2 != .free || (sc.names.lookup p.1==some .cell || sc.names.lookup p.1==some .free))) &&
 xs.all fun x=>cs.names.lookup x==some .local || cs.names.lookup x==some .cell
structure GenD where
 t:Expr
 n:Nat
 it:Dn
 ifs:List Str→List Dn
noncomputable def srcOf (tt:Bool)(D:Dn):Option (M Src):=if tt then D.s else D.v.map fun m=>m.bind toSrc
noncomputable def srcH (hot tt:Bool)(D:Dn):Option (M Src):=if hot then D.v.map fun m=>m.bind toSrcF else srcOf tt D
noncomputable def dComp (W:Wd)(sc:Scope)(ns:List Str)(cs:Scope)(g:Option GenD)(e:List Str→Dn):Option (M V) :=
 g.bind fun g=>(tgNames g.t).bind fun xs=>if compOk sc ns cs xs&&decide (g.n≤1) then
  (srcH W.hot (isTupT g.t) g.it).bind fun s=>(dTg cs (ns++xs) g.t).bind fun tg=>(allB (g.ifs xs)).bind fun cond=>(e xs).v.map fun e=>compM ns.length xs.length s tg (andM cond) e else none
mutual
noncomputable def dn (W:Wd)(G:GI)(sc:Scope)(ns:List Str):Expr→Dn
 | .Constant c _ _=>.of ((dConst c).map constM)
 | .Name x _=>.of (if isGlob sc x then (dGlob G x).map constM else if isVar sc x then (idxLast ns x).map varM else none) false true (.name x)
 | .BoolOp op es _=>dBool es.isEmpty (dns W G sc ns es) op
 | .BinOp l op r _=>.of ((dn W G sc ns l).v.bind fun a=>(dn W G sc ns r).v.map fun b=>binM op a b) ((dn W G sc ns l).fr&&addMul op)
 | .UnaryOp op x _=>dUn (dn W G sc ns x) op
 | .IfExp t a b _=>⟨(dn W G sc ns t).b.bind fun t=>(dn W G sc ns a).v.bind fun a=>(dn W G sc ns b).v.map fun b=>iteM t a b,none,none,false,true,.other⟩
 | .List es _=>.of (if decide (es.length≤64) then (allV (dns W G sc ns es)).map listM else none) true
 | .Tuple es _ _=>.of (if decide (es.length≤64) then (allV (dns W G sc ns es)).map tupM else none)
 | .ListComp elt gens cs _=>.of (dComp W sc ns cs (dnG W G sc ns cs gens) fun xs=>dn W G cs (ns++xs) elt) true
 | .Compare l ops cs _=>dTest (dCmp (dn W G sc ns l) ops (dns W G sc ns cs))
 | .Call f as ks p=>dCalls W G sc (allV (dns W G sc ns as)) ks.isEmpty as.length p (dn W G sc ns f).sh
 | .Attribute o x ap=>.of (if (dn W G sc ns o).bs then (dn W G sc ns o).v.map fun m=>attrM W m x else none) false true (.att (if (dn W G sc ns o).bs then (dn W G sc ns o).v else none) x ap)
 | .Dict ks vs _=>.of (if ks.isEmpty&&vs.isEmpty then some (alloc (.sdict 0 [])) else none)
 | .Subscript o i _=>.of (dSub (dn W G sc ns o).v (dn W G sc ns i) (dn W G sc ns i).sh)
 | .Slice l h st _=>.none (.slice (dnO W G sc ns l) (dnO W G sc ns h) st)
 | _=>.none
noncomputable def dnO (W:Wd)(G:GI)(sc:Scope)(ns:List Str):Option Expr→Option (Option (M V))
 | none=>some none
 | some e=>(dn W G sc ns e).v.map some
noncomputable def dns (W:Wd)(G:GI)(sc:Scope)(ns:List Str):List Expr→List Dn
 | []=>[]
 | e::r=>dn W G sc ns e::dns W G sc ns r
noncomputable def dnG (W:Wd)(G:GI)(sc:Scope)(ns:List Str)(cs:Scope):List Comprehension→Option GenD
 | []=>none
 | g::r=>if r.isEmpty then dnC W G sc ns cs g else none
noncomputable def dnC (W:Wd)(G:GI)(sc:Scope)(ns:List Str)(cs:Scope):Comprehension→Option GenD
 | ⟨t,it,ifs,a⟩=>if a==0 then some ⟨t,ifs.length,dn W G sc ns it,fun xs=>dns W G cs (ns++xs) ifs⟩ else none
end
noncomputable def dE (W:Wd)(G:GI)(sc:Scope)(ns:List Str)(e:Expr):Option (M V):=(dn W G sc ns e).v
noncomputable def dB (W:Wd)(G:GI)(sc:Scope)(ns:List Str)(e:Expr):Option (M Bool):=(dn W G sc ns e).b
noncomputable def ownM (b:Bool)(m:M V):M V:=if b then m.bind ownL else m
noncomputable def subT:Ev→Bool
 | .sub ..=>true
 | _=>false
noncomputable def dOwn (W:Wd)(G:GI)(mu:List Str)(sc:Scope)(t:Expr):Sh→Option (M V)
 | .call f l=>if isGlob sc f&&G.fns.contains f then l.bind fun l =>
  if ((tgNames t).getD []).any mu.contains then some (appM (W.cf (.fnR f)) l) else none
  else none
 | .meth m x l=>(nameIs t).bind fun y=>if mu.contains y&&(mTab.lookup x).isNone then m.bind fun m=>l.map fun l=>methM (pickR W x) m l else none
 | _=>none
noncomputable def Ev.attr:Ev→Option Str
 | .att _ x _=>some x
 | _=>none
noncomputable def ownT (mu muf:List Str)(t:Expr):Bool :=
 (nameIs t).any mu.contains || (ev t).attr.any muf.contains
noncomputable def dVal (W:Wd)(G:GI)(mu:List Str)(sc:Scope)(ns:List Str)(t e:Expr):Option (M V) :=
 (dOwn W G mu sc t (dn W G sc ns e).sh).or ((dE W G sc ns e).map (ownM ((dn W G sc ns e).fr&&ownT mu G.muf t)))
noncomputable def dAsg (W:Wd)(G:GI)(sc:Scope)(ns:List Str)(tt:Bool)(m:M V):Ev→Option (M Flow)
 | .att o x _=>(dE W G sc ns o).map fun o=>setAttrM W o x m
 | .name x p=>(dTgv sc ns (.name x p)).map fun tg=>assignM tg m
 | .tup ts k p=>if tt then none else (dTgv sc ns (.tup ts k p)).map fun tg=>assignM tg m
 | _=>none
noncomputable def dFor (W:Wd)(G:GI)(sc:Scope)(ns:List Str)(tt:Bool)(e:Expr):Option (M Src) :=
 srcOf tt (dn W G sc ns e)
inductive Sv where
 | fn (name:Str) (args:Arguments) (body:List Stmt) (scope:Scope)
 | cls (name:Str) (bs:List Expr) (body:List Stmt)
 | asg (ts:List Expr) (e:Expr)
 | ret (e:Option Expr)
 | other
noncomputable def sv:Stmt→Sv
 | .FunctionDef name args body decs ret tps scope doc bind _=>if bind==name&&(decs.isEmpty&&(ret.isNone&&(tps.isEmpty&&doc.isNone))) then .fn name args body scope else .other
 | .ClassDef name bs _ body _ _ _ _ _ _ _=>.cls name bs body
 | .Assign ts e _=>.asg ts e
 | .Return e _=>.ret e
 | _=>.other
noncomputable def Ev.isCall:Ev→Bool
 | .call ..=>true
 | _=>false
noncomputable def isStrC:Const→Bool
 | .str _=>true
 | _=>false
noncomputable def Ev.str:Ev→Bool
 | .con c _ _=>isStrC c
 | _=>false
noncomputable def Ev.exn:Ev→Option Str
 | .call f as ks _=>if ks.isEmpty then (one1 as).bind fun a=>if (ev a).str then nameIs f else none else none
 | _=>none
noncomputable def dRaise (W:Wd)(sc:Scope)(e:Option Expr):Option (M Flow):=e.bind fun e=>(ev e).exn.bind fun c =>
 if isGlob sc c&&W.exn c then some (raiseM c) else none
noncomputable def dSim (W:Wd)(G:GI)(sc:Scope)(ns:List Str):Sv→Option (M Flow)
 | .ret e=>e.bind fun e=>(dE W G sc ns e).map retM
 | .asg ts e=>(one1 ts).bind fun t=>(dE W G sc ns e).bind fun m=>(nameIs t).bind fun _=>(dTg sc ns t).map fun tg=>assignM tg m
 | _=>none
noncomputable def dSims (W:Wd)(G:GI)(sc:Scope)(ns:List Str):List Stmt→Option (List (M Flow))
 | []=>some []
 | s::r=>(dSim W G sc ns (sv s)).bind fun m=>(dSims W G sc ns r).map fun l=>m::l
noncomputable def dHand1 (W:Wd)(G:GI)(sc:Scope)(ns:List Str)(b:M Flow):ExceptHandler→Option (M Flow)
 | .ExceptHandler t n suite _=>t.bind fun t=>(nameIs t).bind fun k=>if isGlob sc k&&(W.exn k&&!suite.isEmpty) then (dSims W.heat G sc ns suite).bind fun l=>(match n with
   | none=>some (tryM b (fun c=>W.exn c&&W.sub c k) fun _=>seqS l)
   | some x=>if sc.names.lookup x==some .local then (idxLast ns x).map fun i=>tryM b (fun c=>W.exn c&&W.sub c k) (asM i (seqS l)) else none) else none
mutual
noncomputable def dS (W:Wd)(G:GI)(mu:List Str)(sc:Scope)(ns:List Str):Stmt→Option (M Flow)
 | .Expr e _=>if (ev e).isCall then (dE W G sc ns e).map exprM else none
 | .Pass _=>some (M.pure .next)
 | .Return e _=>e.bind fun e=>(dE W G sc ns e).map fun m=>retM (ownM ((dn W G sc ns e).fr&&mu.contains (nm "return")) m)
 | .Assign ts e _=>(one1 ts).bind fun t=>(dVal W G mu sc ns t e).bind fun m=>dAsg W G sc ns (isTupT e) m (ev t)
 | .If t b o _=>(dB W G sc ns t).bind fun t=>(dSs W G mu sc ns b).bind fun b=>(dSs W G mu sc ns o).map fun o=>iteM t (seqS b) (seqS o)
 | .For t it b o _=>if o.isEmpty then (dTg sc ns t).bind fun tg=>(dFor W G sc ns (isTupT t) it).bind fun s=>(dSs W G mu sc ns b).map fun b=>forM tg s (seqS b) else none
 | .Raise e f _=>if f.isNone then dRaise W sc e else none
 | .Try b hs o f _=>if o.isEmpty&&f.isEmpty then (dSs W G mu sc ns b).bind fun b=>(one1 hs).bind (dHand1 W G sc ns (seqS b)) else none
 | _=>none
noncomputable def dSs (W:Wd)(G:GI)(mu:List Str)(sc:Scope)(ns:List Str):List Stmt→Option (List (M Flow))
 | []=>some []
 | s::r=>(dSs W G mu sc ns r).map fun l=>(dS W G mu sc ns s).getD stuck::l
end
noncomputable def mutM:Str→Bool:=fun m=>m==nm "append" || m==nm "extend" || m==nm "pop"
noncomputable def attrIs (e:Expr):Option Str:=(ev e).attr
section
variable (g:Expr→Option Str)
noncomputable def mutF:Ev→List Str
 | .att o m _=>if mutM m then (g o).toList else []
 | _=>[]
noncomputable def mutE:Ev→List Str
 | .call f _ _ _=>mutF g (ev f)
 | _=>[]
noncomputable def mutU (o:Expr):Ev→List Str
 | .sub o' _ _=>(g o').toList
 | _=>(g o).toList
noncomputable def mutT:Ev→List Str
 | .sub o _ _=>mutU g o (ev o)
 | _=>[]
mutual
noncomputable def mutS:Stmt→List Str
 | .Expr e _=>mutE g (ev e)
 | .Assign ts e _=>(one1 ts).elim [] (fun t=>mutT g (ev t))++mutE g (ev e)
 | .If _ b o _=>mutSs b++mutSs o
 | .While _ b _ _=>mutSs b
 | .For _ _ b _ _=>mutSs b
 | .Try b _ _ _ _=>mutSs b
 | _=>[]
noncomputable def mutSs:List Stmt→List Str
 | []=>[]
 | s::r=>mutS s++mutSs r
end
end
noncomputable def slotsOf (sc:Scope):List Str:=(sc.names.filter fun p=>p.2==.local || p.2==.cell).map (·.1)
structure FnD where
 key:FnKey
 params:List Str
 scope:Scope
 body:List Stmt
noncomputable def fnOfStmt (k:Str→FnKey):Sv→Option FnD
 | .fn name args body scope =>
  if args.posonlyargs.isEmpty&&args.vararg.isNone&&args.kwonlyargs.isEmpty&&args.kwarg.isNone&&args.defaults.isEmpty then
   some ⟨k name,args.args.map (·.arg),scope,body⟩ else none
 | _=>none
noncomputable def fnsOf1:Sv→List FnD
 | .cls name _ body=>body.filterMap fun s=>fnOfStmt (.meth name) (sv s)
 | s=>(fnOfStmt .fn s).toList
noncomputable def fnsOf:List Stmt→List FnD
 | []=>[]
 | s::r=>fnsOf1 (sv s)++fnsOf r
noncomputable def basesOf1:Sv→List (Str×Str)
 | .cls name bs _=>[(name,((one1 bs).bind nameIs).getD (nm "object"))]
 | _=>[]
noncomputable def basesOf:List Stmt→List (Str×Str)
 | []=>[]
 | s::r=>basesOf1 (sv s)++basesOf r
noncomputable def constE:Ev→Option V
 | .con c _ _=>dConst c
 | _=>none
noncomputable def constsOf1:Sv→List (Str×V)
 | .asg ts e=>(((one1 ts).bind nameIs).bind fun x=>(constE (ev e)).bind fun v=>if x==nm "__name__" then none else some (x,v)).toList
 | _=>[]
noncomputable def constsOf:List Stmt→List (Str×V)
 | []=>[]
 | s::r=>constsOf1 (sv s)++constsOf r
noncomputable def giOf (p:List Stmt):GI where
 fns:=(fnsOf p).filterMap fun f=>match f.key with | .fn x=>some x | _=>none
 clss:=(basesOf p).map (·.1)
 consts:=constsOf p
 muf:=(fnsOf p).flatMap fun f=>mutSs attrIs f.body
 mup:=(fnsOf p).flatMap fun f=>(mutSs nameIs f.body).filter f.params.contains
noncomputable def subOf (bs:List (Str×Str)):Nat→Str→Str→Bool
 | 0,_,_=>false
 | n+1,c,d=>c==d || match bs.lookup c with
  | some b=>subOf bs n b d
  | none=>false
noncomputable def FnKey.beq:FnKey→FnKey→Bool
 | .fn x,.fn y=>x==y
 | .meth a b,.meth c d=>a==c&&b==d
 | _,_=>false
noncomputable def FnKey.raw:FnKey→Bool
 | .meth _ m=>m==nm "__init__"
 | _=>false
noncomputable def FnKey.base:FnKey→FnKey
 | .fnR x=>.fn x
 | .methR c m=>.meth c m
 | k=>k
noncomputable def FnKey.keep:FnKey→Bool
 | .fnR _=>true
 | .methR ..=>true
 | _=>false
noncomputable def FnD.mu (f:FnD)(G:GI)(raw:Bool):List Str:=(if raw then [nm "return"] else [])++(mutSs nameIs f.body++G.mup)
noncomputable def FnD.sem (W:Wd)(G:GI)(raw:Bool)(f:FnD):List V→M V :=
 match dSs W G (f.mu G raw) f.scope (slotsOf f.scope) f.body with
 | some l=>runFn (raw || f.key.raw) f.params.length (slotsOf f.scope).length (seqS l)
 | none=>fun _=>stuck
noncomputable def attrN:Ev→Option Str
 | .att _ x _=>some x
 | _=>none
noncomputable def fieldsIn1:Sv→List Str
 | .asg ts _=>((one1 ts).bind fun t=>attrN (ev t)).toList
 | _=>[]
noncomputable def fieldsIn:List Stmt→List Str
 | []=>[]
 | s::r=>fieldsIn1 (sv s)++fieldsIn r
noncomputable def fldOf (p:List Stmt)(c x:Str):Bool:=(fnsOf p).any fun f=>match f.key with
 | .meth c' _=>c'==c&&(fieldsIn f.body).contains x
 | _=>false
noncomputable def hasOf (p:List Stmt)(c x:Str):Bool:=(fnsOf p).any fun f=>f.key.beq (.meth c x)
noncomputable def exnOf (p:List Stmt)(c:Str):Bool:=((basesOf p).map (·.1)).contains c&&subOf (basesOf p) 6 c (nm "ValueError")
noncomputable def wdOf (p:List Stmt)(cf:FnKey→List V→M V)(ch:Str→List V→M V)(hot:Bool:=false):Wd:=⟨cf,subOf (basesOf p) 6,fldOf p,hasOf p,fun c=>c==nm "Machine", exnOf p,hot,ch⟩
noncomputable def FnD.hot (W:Wd)(G:GI)(f:FnD):List V→M V :=
 match dSims W G f.scope (slotsOf f.scope) f.body with
 | some l=>runFn false f.params.length (slotsOf f.scope).length (seqS l)
 | none=>fun _=>stuck
noncomputable abbrev wdH (p:List Stmt):Wd:=wdOf p (fun _ _=>stuck) (fun _ _=>stuck) true
noncomputable def chOf (p:List Stmt):Nat→Str→List V→M V
 | 0,_=>fun _=>stuck
 | _+1,x=>match (fnsOf p).find? (fun f=>f.key.beq (.fn x)) with
  | some f=>f.hot (wdH p) (giOf p)
  | none=>fun _=>stuck
noncomputable def cfOf (p:List Stmt):Nat→FnKey→List V→M V
 | 0,_=>fun _=>stuck
 | d+1,k=>match (fnsOf p).find? (fun f=>f.key.beq k.base) with
  | some f=>f.sem (wdOf p (cfOf p d) (chOf p d)) (giOf p) k.keep
  | none=>fun _=>stuck
end Mine
namespace Mine
set_option backward.match.sparseCases false
open PySem PyProof.Rows PySem.W
noncomputable def FnD.ok (f:FnD):Bool:=f.scope.kind==.function&&!f.scope.isGenerator&&!f.scope.isCoroutine&&decide (f.scope.names.map (·.1)).Nodup&&f.scope.names.all (fun p=>p.2 != .free&&!(p.1==("__debug__" : Str)))&&f.params.isPrefixOf (slotsOf f.scope)
noncomputable def bltTab:List (Str×Value):=[(nm "len", .builtin "len"),(nm "isinstance", .builtin "isinstance"),(nm "ValueError", .type "ValueError"),(nm "sorted", .builtin "sorted"),(nm "max", .builtin "max"),(nm "list", .type "list"),(nm "tuple", .type "tuple"),(nm "int", .type "int"),(nm "str", .type "str"),
 (nm "set", .type "set"),(nm "dict", .type "dict"),(nm "range", .type "range"),(nm "enumerate", .type "enumerate"),(nm "zip", .type "zip"),(nm "bool", .type "bool"),(nm "ValueError", .type "ValueError")]
noncomputable def refIn:Option (Option Value)→Option Addr
 | some (some (.ref a))=>some a
 | _=>none
noncomputable def gAddr (K:Frag)(x:Str):Option Addr:=refIn (nsIn K mainGlobals x)
noncomputable def mAddr (K:Frag)(k:Addr)(x:Str):Option Addr:=refIn (findIn K (.ref k) x)
noncomputable def adr (K:Frag):FnKey→Option Addr
 | .fn x=>gAddr K x
 | .meth c m=>(gAddr K c).bind fun k=>mAddr K k m
 | .fnR x=>gAddr K x
 | .methR c m=>(gAddr K c).bind fun k=>mAddr K k m
noncomputable def fnV (K:Frag)(a:Option Addr):Option FuncData:=match a with
 | some a=>(match K.lookup a with
  | some ⟨_,_,.func fd,_⟩=>some fd
  | _=>none)
 | none=>none
noncomputable def codeB (K:Frag)(cd:Value)(q:Str):Bool:=match cd with
 | .ref c=>(match K.lookup c with
  | some ⟨_,_,.fields vs,_⟩=>(match (vs[1]?:Option Value) with
   | some (Value.str y _)=>y==q
   | _=>false)
  | _=>false)
 | _=>false
noncomputable def isNoneV:Value→Bool
 | .none=>true
 | _=>false
noncomputable def fnH (K:Frag)(f:FnD):Bool:=match fnV K (adr K f.key) with
 | some fd=>fd.globals==mainGlobals&&fd.closure.isEmpty&&fd.builtins==builtinsNs&&codeB K fd.code fd.qualname&&fd.params.posonlyargs.isEmpty&&fd.params.vararg.isNone&&fd.params.kwonlyargs.isEmpty&&fd.params.kw_defaults.isEmpty&&fd.params.kwarg.isNone&&fd.params.defaults.isEmpty &&
   (fd.params.args.map (·.arg)==f.params)&&isNoneV fd.defaults
 | none=>false
noncomputable def fnB (K:Frag)(f:FnD):Bool:=f.ok&&fnH K f
noncomputable def fnShape (K:Frag)(f:FnD):Option (Scope×FuncBody):=(fnV K (adr K f.key)).map fun fd=>(fd.scope,fd.body)
noncomputable def wantShape (f:FnD):Option (Scope×FuncBody):=some (f.scope,.stmts f.body)
noncomputable def fldB (K:Frag)(k:Addr)(x:Str):Bool:=plainGet K k x&&hasDictIn K k&&(findIn K (.ref k) x).elim false (noGet K) &&
 (findIn K (.ref k) "__setattr__" == some (some (.builtin "object.__setattr__")))&&plainOver K k&&(takerIn K k x==some none)
noncomputable def keyB (K:Frag)(f:FnD):Bool:=match f.key with
 | .fn x=>(gAddr K x).elim false fun a=>keepIn K (.ref a)
 | .meth c m=>(gAddr K c).elim false fun k=>plainGet K k m&&((mAddr K k m).elim false fun a=>isFn K (.ref a)&&keepIn K (.ref a))&&(!(m==nm "__init__") || (keepIn K (.ref k)&&makesIn K k))&&(fieldsIn f.body).all (fldB K k)
 | .fnR _=>false
 | .methR ..=>false
noncomputable def intIs (b:Int):Option (Option Value)→Bool
 | some (some (.int c _))=>b==c
 | _=>false
noncomputable def strIs (b:List Nat):Option (Option Value)→Bool
 | some (some (.str c _))=>(⟨b.toArray⟩:Str)==c
 | _=>false
noncomputable def constV (x:Option (Option Value)):V→Bool
 | .int b=>intIs b x
 | .str b=>strIs b x
 | _=>false
noncomputable def constB (K:Frag)(p:Str×V):Bool:=constV (nsIn K mainGlobals p.1) p.2
noncomputable def bltB (K:Frag)(G:GI)(p:Str×Value):Bool:=G.fns.contains p.1 || G.clss.contains p.1 || (G.consts.lookup p.1).isSome || nsIn K mainGlobals p.1==some none
noncomputable def exns (p:List Stmt):List Str:=((basesOf p).map (·.1)).filter (exnOf p)
noncomputable def exc2 (K:Frag)(p:List Stmt)(c d:Str):Bool:=(gAddr K c).elim false fun k=>(gAddr K d).elim false fun l=>subIn K (.ref k) (.ref l)==some (subOf (basesOf p) 6 c d)
noncomputable def exc1 (K:Frag)(p:List Stmt)(c:Str):Bool:=match gAddr K c with
 | some k=>(findIn K (.ref k) "__class__" == some (some (.builtin "object.__class__")))&&(mroIn K k (.type "object")==some true)&&(subIn K (.ref k) (.type "BaseException")==some true)&&(subIn K (.ref k) (.ref k)==some true)&&(clsIn K k).isSome&&(typeIn K (.ref k)==some (.type "type")) &&
   (subIn K (.ref k) (.type "ValueError")==some (subOf (basesOf p) 6 c (nm "ValueError")))
 | none=>false
noncomputable def excB (K:Frag)(p:List Stmt):Bool:=(exns p).all (fun c=>exc1 K p c&&(exns p).all (exc2 K p c))&&!exnOf p (nm "dict")
noncomputable def nameLine:Stmt→Bool
 | .Assign [.Name x _] _ _=>x==nm "__name__"
 | _=>false
noncomputable def viewOf (p:Program):Program:={ p with main:={ p.main with body:=p.main.body.filter fun s=>!nameLine s } }
noncomputable def fragAll (h:Heap):Frag:=(h.objs.toList.zipIdx.filterMap fun p=>if p.1.isFreed then none else some (p.2,p.1)).reverse
noncomputable def topB (p:List Stmt)(K:Frag):Bool:=(fnsOf p).all (fnB K)&&(fnsOf p).all (keyB K)&&(giOf p).consts.all (constB K)&&(giOf p).clss.all (fun x=>(gAddr K x).isSome)&&bltTab.all (bltB K (giOf p))&&(K.lookup sysModules).isSome&&(gAddr K (nm "law")).isSome
 && excB K p
noncomputable def topObs (p:List Stmt)(s:Shared):Bool×List (Option (Scope×FuncBody)):=(topB p (fragAll s.heap),(fnsOf p).map (fnShape (fragAll s.heap)))
noncomputable def topVal (p:List Stmt)(_:World):Bool×List (Option (Scope×FuncBody)):=(true,(fnsOf p).map wantShape)
end Mine
namespace Mine
open PySem PySem.W PyProof.Rows
set_option maxRecDepth 100000
set_option maxHeartbeats 8000000
noncomputable def p1:List Stmt:=PySem.Challenge.pw_uf020027_02.main.body
noncomputable def view1:Program:=viewOf PySem.Challenge.pw_uf020027_02
noncomputable def xt1 (s:Shared):Bool:=xlAt view1 [] s&&recOk PySem.Challenge.rw_uf020027_02.row.records s
noncomputable def seen1 (s:Shared):=openSeen view1 [] (importedModules PySem.Challenge.rw_uf020027_02.row.prog.main.body) xt1 true s
theorem top_b (w:World):(openEnds treeTable PySem.Challenge.rw_uf020027_02.row.prog w 4500).map (fun s=>(seen1 s).2)=some (openGood view1 []).2:=by kernel_rfl
theorem top_t (w:World):(openEnds treeTable PySem.Challenge.rw_uf020027_02.row.prog w 4500).map (topObs p1)=some (topVal p1 w):=by kernel_rfl
theorem top_a (w:World):(openEnds treeTable PySem.Challenge.rw_uf020027_02.row.prog w 4500).map (fun s=>(seen1 s).1)=some (openGood view1 []).1:=by kernel_rfl
theorem left1:LeftO PySem.Challenge.rw_uf020027_02.row.prog view1 [] xt1 (topObs p1) (topVal p1) 4500:=by
 intro w
 obtain⟨s,hs,a⟩:=Option.map_eq_some_iff.mp (top_a w)
 have b:=top_b w
 have t:=top_t w
 rw[hs] at b t
 rw[hs]
 exact congrArg some (Prod.ext (Prod.ext a (Option.some.inj b)) (Option.some.inj t))
end Mine
namespace Mine
open PySem
section
variable {prog:Program}{w:World}{K:Type}[DecidableEq K]{knd:KeyKind prog w K}{A:Around}{E:Value→Shared→Prop}{s:Shared}
noncomputable def DictK (knd:KeyKind prog w K)(h:Heap)(a:Addr)(kvs:List (K×Value))(j:Int):Prop:=∃ ep:Nat,h.DictAt knd a kvs ep∧(ep:Int)+j=kvs.length
theorem DictK.of {h:Heap}{a:Addr}{kvs:List (K×Value)}{j:Int}(x:DictK knd h a kvs j):h.DictOf knd a kvs:=let ⟨_,y,_⟩:=x;y.dictOf
theorem DictK.obj {h:Heap}{a:Addr}{kvs:List (K×Value)}{j:Int}(x:DictK knd h a kvs j):∃ o,h.get? a=some o∧o.cls=.type "dict" ∧ ∀ h':Heap,h'.get? a=some o→DictK knd h' a kvs j :=
 let ⟨ep,⟨o,es,ho,hc,r⟩,e⟩:=x;⟨o,ho,hc.1,fun _ z=>⟨ep,⟨o,es,z,hc,r⟩,e⟩⟩
theorem DictK.new (h:Heap):DictK knd (h.push { cls:=.type "dict", data:=.dict #[] }) h.objs.size [] 0 :=
 ⟨0,⟨_,#[],Heap.get?_push_size _ rfl,⟨rfl,rfl,rfl⟩,rfl,fun _ he=>(by simp at he),.nil,List.nodup_nil⟩,rfl⟩
theorem dx_hashed {d:Addr}{kvs:List (K×Value)}{k:K}{key v:Value}{j:Int}{Q:Unit→Shared→Prop}(hkey:knd.is k key=true)(hm:DictK knd s.heap d kvs j)(hsz:kvs.length≤sizeLine)
  (hQ:∀ h',DictK knd h' d (stored kvs k v) j→Heap.SameBut d s.heap h'→Q () { s with heap:=h' }):wpAny (model prog w) A (dictSetHashed d key (knd.hash k) v) Q E s:=by
 obtain⟨ep,⟨o,es,ho,hc,hd,hk,hp,hn⟩,hj⟩:=hm
 have hl:es.toList.length=kvs.length:=hp.length
 unfold dictSetHashed
 refine wpAny_holding (wpAny_bind (wpAny_dictFind_of hkey ho hd hk ?_))
 have hx:es.toList.findIdx? (fun e=>knd.is k e.key)=es.findIdx? fun e=>knd.is k e.key:=by obtain⟨l⟩:=es;simp
 have hy:=hp.findIdx k
 rw[hx] at hy
 cases hi:es.findIdx? fun e=>knd.is k e.key with
 | none =>
  rw[hi] at hy
  have hnot:=not_mem_of_findIdx_none hy.symm
  have hst:stored kvs k v=kvs++[(k,v)]:=if_neg fun q=>by
   obtain⟨p,h1,h2⟩:=List.any_eq_true.mp q
   exact hnot (List.mem_map.mpr ⟨p,h1,of_decide_eq_true h2⟩)
  rw[hst] at hQ
  refine wpAny_bind (wpAny_rule (wpAny_updateDictKeys ho hd (hQ _ ⟨ep+1,⟨_,_,Heap.get?_update_self _ ho (Obj.isFreed_of_dict (Obj.data_mapDictKeys hd _)),hc.mapDictKeys _,Obj.data_mapDictKeys hd _,hk.push hkey v,?_,?_⟩,?_⟩ (Heap.SameBut.update ..)) (hz:=by rw[← Array.length_toList,hl];exact hsz)))
  ·rw[Array.toList_push];exact hp.append hkey _ v
  ·rw[List.map_append]
   exact List.nodup_append.mpr ⟨hn,List.pairwise_singleton ..,fun a ha b hb e=>by
    have e:a=k:=e.trans (List.mem_singleton.mp hb)
    exact hnot (e▸ha)⟩
  ·rw[List.length_append]
   show ((ep:Int)+1)+j=((kvs.length:Int)+1)
   rw[Int.add_right_comm,hj]
 | some i =>
  rw[hi] at hy
  have hst:stored kvs k v=kvs.map fun kv=>if kv.1=k then (kv.1,v) else kv:=if_pos (any_of_findIdx_some hy.symm)
  rw[hst] at hQ
  refine wpAny_bind (wpAny_rule (wpAny_bind (wpAny_updateDict ho hd (wpAny_point (hQ _ ⟨ep,⟨_,_,Heap.get?_update_self _ ho (Obj.isFreed_of_dict (Obj.data_mapDict hd _)),hc.mapDict _,Obj.data_mapDict hd _,hk.modify _ _,?_,?_⟩,?_⟩ (Heap.SameBut.update ..))))))
  ·have:=hp.modify hn (by rw[hx];exact hi) v
   obtain⟨l⟩:=es
   simpa using this
  ·rw[keys_map_store];exact hn
  ·rw[List.length_map];exact hj
theorem dx_setItem {d:Addr}{kvs:List (K×Value)}{k:K}{key v:Value}{j:Int}{Q:Unit→Shared→Prop}(hkey:knd.is k key=true)(hm:DictK knd s.heap d kvs j)(hsz:kvs.length≤sizeLine)
  (hQ:∀ h',DictK knd h' d (stored kvs k v) j→Heap.SameBut d s.heap h'→Q () { s with heap:=h',toks:=s.toks+1 }):wpAny (model prog w) A (setItem (.ref d) key v) Q E s:=by
 have hT:s.TypeIs (.ref d) "dict" := hm.of.typeIs
 unfold setItem
 refine wpAny_holding (wpAny_bind (wpAny_sequenceKey hT (by decide) (wpAny_bind (wpAny_callSpecial?_slot (name:=Str.ofString "__setitem__") hT slot_dict_setitem (wpAny_call_entry slot_dict_setitem hT entry_dict_setitem ?_ (args_dict_setitem _ _ _))))))
 refine wpAny_bind (wpAny_notOrdered_dict hT ?_)
 show wpAny _ _ (dictSet d key v >>= _) _ _ s
 unfold dictSet
 refine wpAny_bind (wpAny_holding (wpAny_bind (knd.pyHash hkey (dx_hashed (s:={ s with toks:=s.toks+1 }) hkey hm hsz fun h' h1 h2=>wpAny_pure ⟨.none,rfl,wpAny_pure (hQ h' h1 h2)⟩))))
theorem dx_loop {nm:String}{d o:Addr}{oo:Obj}{eso:Array DictEntry}{epo:Nat}{more:List (K×Value)}{Q:Unit→Shared→Prop}(hdo:d≠o)(hd:DictK knd s.heap d [] 0)(hoo:s.heap.get? o=some oo)(hdat:oo.data=.dict eso epo)(hk:KeysOf knd eso)(hp:Pairs knd eso.toList more)(hn:(more.map (·.1)).Nodup)(hsz:more.length≤sizeLine)
  (hQ:∀ h',DictK knd h' d more 0→Heap.SameBut d s.heap h'→Q () { s with heap:=h' }) :
  wpAny (model prog w) A (forIn (m:=Sem) [:eso.size] PUnit.unit fun i (_:PUnit)=>do
   let es' ← dictEntries o
   match es'[i]? with
   | some e=>do
    holding [e.key,e.val] (dictSetHashed d e.key e.hash e.val)
    let ep' ← dictEpoch o
    if (ep' != epo)=true then do
     (unsupported (toString nm++toString ":source-changed-during-callback"):Sem PUnit)
     pure (ForInStep.yield PUnit.unit)
    else pure (ForInStep.yield PUnit.unit)
   | _=>do
    (unsupported "internal:dict-merge" : Sem PUnit)
    pure (ForInStep.yield PUnit.unit)) Q E s:=by
 have hlen:eso.size=more.length:=by rw[← Array.length_toList];exact hp.length
 rw[Std.Legacy.Range.forIn_eq_forIn_range']
 simp only[Std.Legacy.Range.size,Nat.sub_zero,Nat.add_sub_cancel,Nat.div_one]
 refine wpAny_forIn_list _ (fun rest _ s'=>∃ h' i,s'={ s with heap:=h' }∧rest=List.range' i (eso.size-i)∧DictK knd h' d (more.take i) 0∧h'.get? o=some oo∧Heap.SameBut d s.heap h') _ ?_ ?_ _ _ ⟨s.heap,0,rfl,rfl,hd,hoo,Heap.SameBut.refl _ _⟩
 ·rintro x rest _ _ ⟨h',i,rfl,hr,hd',hoo',hs⟩
  cases hq:eso.size-i with
  | zero=>rw[hq] at hr;cases hr
  | succ r =>
   rw[hq,List.range'_succ] at hr
   cases hr
   have hlt:x<eso.size:=by exact Nat.lt_of_sub_pos (hq▸Nat.succ_pos _)
   have hlt':x<more.length:=hlen▸hlt
   refine wpAny_bind (wpAny_dictEntries hoo' hdat ?_)
   rw[Array.getElem?_eq_getElem hlt]
   have hkv:more[x]?=some (more[x].1,more[x].2):=List.getElem?_eq_getElem hlt'
   obtain⟨h1,h2⟩:=hp.get? (e:=eso[x]) (by simp[hlt]) hkv
   obtain⟨k',h3,h4⟩:=hk eso[x] (Array.getElem_mem hlt)
   have e:=knd.inj _ _ _ h3 h1
   subst e
   show wpAny _ _ (holding _ (dictSetHashed d eso[x].key eso[x].hash eso[x].val) >>= _) _ _ _
   rw[h4,h2]
   refine wpAny_bind (wpAny_holding (dx_hashed (s:={ s with heap:=h' }) h1 hd' (Nat.le_trans (by rw[List.length_take];exact Nat.min_le_right _ _) hsz) fun h'' hd'' hs''=>?_))
   have hoo'':h''.get? o=some oo:=(hs''.2 o (Ne.symm hdo)).trans hoo'
   refine wpAny_bind (wpAny_dictEpoch (s:={ s with heap:=h'' }) hoo'' hdat ?_)
   rw[if_neg (by simp)]
   refine wpAny_pure ⟨h'',x+1,rfl,by rw[show eso.size-(x+1)=r by (rw[Nat.sub_succ,hq];rfl)],?_,hoo'',hs.trans hs''⟩
   have hst:stored (more.take x) more[x].1 more[x].2=more.take (x+1):=by
    unfold stored
    rw[if_neg,List.take_add_one,hkv]
    ·rfl
    ·intro q
     obtain⟨p,q1,q2⟩:=List.any_eq_true.mp q
     have q2:p.1=more[x].1:=of_decide_eq_true q2
     obtain⟨i,hi,q3⟩:=List.getElem_of_mem q1
     rw[List.length_take] at hi
     rw[List.getElem_take] at q3
     have:=(List.getElem_inj (i:=i) (j:=x) (h₀:=by rw[List.length_map];exact Nat.lt_of_lt_of_le hi (Nat.min_le_right _ _)) (h₁:=by rw[List.length_map];exact hlt') hn).mp (by rw[List.getElem_map,List.getElem_map,q3];exact q2)
     exact absurd (Nat.lt_of_lt_of_le hi (Nat.min_le_left _ _)) (Nat.not_lt_of_le (Nat.le_of_eq this.symm))
   rw[← hst];exact hd''
 ·rintro _ _ ⟨h',i,rfl,hr,hd',hoo',hs⟩
  cases hq:eso.size-i with
  | succ r=>rw[hq,List.range'_succ] at hr;cases hr
  | zero=>exact hQ h' (by rw[List.take_of_length_le (by exact hlen▸Nat.le_of_sub_eq_zero hq)] at hd';exact hd') hs
theorem dx_merge {nm:String}{d o:Addr}{more:List (K×Value)}{Q:Unit→Shared→Prop}(hkp:∀ k v,knd.is k v=true→(keyPart v).isSome=true)(hdo:d≠o)(hoS:(o==sysModules)=false)(hd:DictK knd s.heap d [] 0)(ho:s.heap.DictOf knd o more)(hsz:more.length≤sizeLine)
  (hQ:∀ h',DictK knd h' d more (cpK more.length)→Heap.SameBut d s.heap h'→Q () { s with heap:=h' }):wpAny (model prog w) A (Builtin.Dict.mergeDict nm d o) Q E s:=by
 obtain⟨oo,eso,epo,hoo,hco,hdat,hk,hp,hn⟩:=ho
 have hlen:eso.size=more.length:=by rw[← Array.length_toList];exact hp.length
 unfold Builtin.Dict.mergeDict
 rw[if_neg (by simpa using hdo)]
 unfold Builtin.Dict.showsAll
 rw[if_neg (by rw[hoS];exact Bool.false_ne_true)]
 refine wpAny_bind (wpAny_pure (wpAny_bind (wpAny_dictEntries hoo hdat ?_)))
 have hall:(eso.all fun e=>(keyPart e.key).isSome)=true:=Array.all_eq_true.mpr fun i hi=>let ⟨k,h1,_⟩:=hk eso[i] (Array.getElem_mem hi);hkp k _ h1
 dsimp only
 rw[hall,Bool.and_true]
 by_cases h8:more.length≤8
 ·rw[if_neg (by rw[hlen];simp[h8])]
  refine wpAny_bind (wpAny_dictEpoch hoo hdat (wpAny_bind (wpAny_dictEntries hoo hdat (wpAny_bind (dx_loop hdo hd hoo hdat hk hp hn hsz fun h' h1 h2=>wpAny_pure (hQ h' ?_ h2))))))
  unfold cpK
  rw[if_pos h8];exact h1
 ·rw[if_pos (by rw[hlen];rw[decide_eq_false h8];rfl)]
  obtain⟨ep,⟨od,es,hod,hcd,hdd,hkd,hpd,_⟩,hj⟩:=hd
  have he:es=#[]:=by
   have:=hpd.length
   exact Array.eq_empty_of_size_eq_zero (by rw[← Array.length_toList];exact this)
  have hep:ep=0:=Int.ofNat_inj.mp ((Int.add_zero _).symm.trans hj)
  subst he
  subst hep
  refine wpAny_bind (wpAny_dictEntries hod hdd ?_)
  rw[if_pos (show (#[]:Array DictEntry).isEmpty=true from rfl)]
  refine wpAny_bind (wpAny_entriesForEmpty (knd:=knd) hoo hdat hk ?_)
  rw[if_pos (by rw[Bool.not_eq_true',Array.isEmpty_eq_false_iff];intro q;rw[q] at hlen;simp at hlen;omega)]
  refine wpAny_bind (wpAny_updateDictKeysTo hod hdd (wpAny_pure (hQ _ ⟨1,⟨_,_,Heap.get?_update_self _ hod (Obj.isFreed_of_dict (Obj.data_mapDictKeys hdd _)),hcd.mapDictKeys _,Obj.data_mapDictKeys hdd _,hk,hp,hn⟩,?_⟩ (Heap.SameBut.update ..))) (by rw[hlen];omega))
  unfold cpK
  rw[if_neg h8]
  exact (Int.add_comm _ _).trans (Int.sub_add_cancel _ _)
theorem dx_call {o:Addr}{more:List (K×Value)}{Q:Value→Shared→Prop}(hkp:∀ k v,knd.is k v=true→(keyPart v).isSome=true)(hoS:(o==sysModules)=false)(ho:s.heap.DictOf knd o more)(hsz:more.length≤sizeLine)
  (h:∀ h',DictK knd h' s.heap.objs.size more (cpK more.length)→(∀ b x,s.heap.get? b=some x→h'.get? b=some x)→Q (.ref s.heap.objs.size) { s with heap:=h' }):wpAny (model prog w) A (call (.type "dict") [.ref o]) Q E s:=by
 have hlt:o<s.heap.objs.size:=let ⟨_,_,_,z,_⟩:=ho;Heap.lt_size z
 refine callType_codes (Q₁:=fun obj s₁=>obj=.ref s.heap.objs.size∧s₁={ s with heap:=s.heap.push { cls:=.type "dict", data:=.dict #[] } }) PySem.F.kt_called_dict (PySem.F.kt_typeCall_dict_1 _) PySem.F.entry_dict_init (kt_code_dict_new _ ⟨rfl,rfl⟩) ?_
 rintro _ _ ⟨rfl,rfl⟩
 have hn:=DictK.new (knd:=knd) s.heap
 have hT:=hn.of.typeIs (s:={ s with heap:=s.heap.push { cls:=.type "dict", data:=.dict #[] } })
 have ho':=ho.push { cls:=.type "dict", data:=.dict #[] }
 have hT':=ho'.typeIs (s:={ s with heap:=s.heap.push { cls:=.type "dict", data:=.dict #[] } })
 refine⟨hT,PySem.F.args_dict_init_2 _ _,?_⟩
 unfold Builtin.«dict.__init__» Builtin.Dict.selfAndRest
 refine wpAny_bind (wpAny_bind (wpAny_notOrdered_dict hT ?_))
 show wpAny _ _ (pure (s.heap.objs.size,[Value.ref o])) _ _ _
 refine wpAny_pure ?_
 show wpAny _ _ (Builtin.Dict.updateFrom "dict.__init__" s.heap.objs.size (.ref o) [] .none) _ _ _
 unfold Builtin.Dict.updateFrom Builtin.Dict.merge Builtin.Dict.readDirectly
 refine wpAny_bind (wpAny_typeOf hT' ?_)
 rw[if_neg (by decide)]
 refine wpAny_bind (wpAny_bind (wpAny_bind (wpAny_isInstance hT' isSubtype_dict_dict ?_)))
 simp only[Bool.not_true,Bool.false_eq_true,if_false]
 refine wpAny_bind (wpAny_specialOf hT' PySem.F.slot_dict_iter.lookup (wpAny_pure ?_))
 simp only[beq_self_eq_true,if_true]
 refine wpAny_bind (wpAny_pure (dx_merge hkp (Nat.ne_of_gt hlt) hoS hn ho' hsz fun h' hd hs=>?_))
 show wpAny _ _ (Builtin.Dict.addKeywords s.heap.objs.size [] >>= _) _ _ _
 exact wpAny_bind (wpAny_pure (wpAny_pure ⟨rfl,h h' hd fun b x hb=>(hs.2 b (Nat.ne_of_lt (Heap.lt_size hb))).trans (Heap.get?_push_of_some _ hb)⟩))
end
end Mine
namespace Mine
set_option backward.match.sparseCases false
open PySem
noncomputable def wpM {α:Type}(m:M α)(st:St)(Q:α→St→Prop)(X:Str→St→Prop):Prop:=match m st with
 | .ok a s=>Q a s
 | .exc c s=>X c s
 | .stuck=>False
theorem shut {G:Prop}(h:∀ P:Prop,(G→P)→P):G:=h G id
theorem wpM_bind {α β:Type}{m:M α}{f:α→M β}{st:St}{Q:β→St→Prop}{X:Str→St→Prop} :
  wpM (m.bind f) st Q X↔wpM m st (fun a s=>wpM (f a) s Q X) X:=by
 unfold wpM M.bind
 cases m st <;> rfl
theorem wpM_pure {α:Type}{a:α}{st:St}{Q:α→St→Prop}{X:Str→St→Prop}:wpM (M.pure a) st Q X↔Q a st:=Iff.rfl
theorem wpM_stuck {α:Type}{st:St}{Q:α→St→Prop}{X:Str→St→Prop}:wpM (stuck:M α) st Q X↔False:=Iff.rfl
theorem wpM_mono {α:Type}{m:M α}{st:St}{Q Q':α→St→Prop}{X X':Str→St→Prop}(h:wpM m st Q X)(hq:∀ a s,Q a s→Q' a s)(hx:∀ c s,X c s→X' c s):wpM m st Q' X':=by
 unfold wpM at *
 cases hm:m st with
 | ok a s=>rw[hm] at h;exact hq a s h
 | exc c s=>rw[hm] at h;exact hx c s h
 | stuck=>rw[hm] at h;exact h
theorem wpM_noX {α:Type}{m:M α}{st:St}{Q:α→St→Prop}{X:Str→St→Prop}(h:wpM (noX m) st Q X):wpM m st Q fun _ _=>False:=by
 unfold wpM noX at *
 cases hm:m st with
 | ok a s=>rw[hm] at h;exact h
 | exc c s=>rw[hm] at h;exact h
 | stuck=>rw[hm] at h;exact h
section
variable {st:St}{X:Str→St→Prop}
theorem wpM_getVar {i:Nat}{Q:V→St→Prop}:wpM (getVar i) st Q X↔∃ v,st.vars[i]?=some (some v)∧Q v st:=by
 unfold wpM getVar
 cases h:st.vars[i]? with
 | none=>simp
 | some o=>cases o with
  | none=>simp
  | some v=>simp
theorem wpM_setVar {i:Nat}{v:V}{Q:Unit→St→Prop}:wpM (setVar i v) st Q X↔i<st.vars.length∧Q () { st with vars:=st.vars.set i (some v) }:=by
 unfold wpM setVar
 by_cases h:i<st.vars.length <;> simp[h]
theorem wpM_getOb {a:Nat}{Q:Ob→St→Prop}:wpM (getOb a) st Q X↔∃ o,st.obs[a]?=some o∧Q o st:=by
 unfold wpM getOb
 cases h:st.obs[a]? with
 | none=>simp
 | some o=>simp
theorem wpM_setOb {a:Nat}{o:Ob}{Q:Unit→St→Prop}:wpM (setOb a o) st Q X↔a<st.obs.length∧Q () { st with obs:=st.obs.set a o }:=by
 unfold wpM setOb
 by_cases h:a<st.obs.length <;> simp[h]
theorem wpM_alloc {o:Ob}{Q:V→St→Prop}:wpM (alloc o) st Q X↔Q (.ref st.obs.length) { st with obs:=st.obs++[o] }:=Iff.rfl
theorem wpM_innerM {α:Type}{b n:Nat}{m:M α}{Q:α→St→Prop}:wpM (innerM b n m) st Q X↔wpM m { st with vars:=st.vars.take b++List.replicate n none } (fun a st'=>Q a { st with obs:=st'.obs }) (fun c st'=>X c { st with obs:=st'.obs }):=by
 unfold wpM innerM
 cases m { st with vars:=st.vars.take b++List.replicate n none } <;> rfl
theorem wpM_withObs {α:Type}{f:List Ob→Option α}{Q:α→St→Prop}:wpM (withObs f) st Q X↔∃ a,f st.obs=some a∧Q a st:=by
 unfold wpM withObs
 cases h:f st.obs with
 | none=>simp
 | some o=>simp
theorem wpM_ofOpt {α:Type}{o:Option α}{Q:α→St→Prop}:wpM (ofOpt o) st Q X↔∃ a,o=some a∧Q a st:=by
 cases o with
 | none=>simp[ofOpt,wpM_stuck]
 | some a=>simp[ofOpt,wpM_pure]
theorem wpM_getList {a:Nat}{Q:List V→St→Prop}:wpM (getList a) st Q X↔∃ xs,st.obs[a]?=some (.list xs)∧Q xs st:=by
 unfold getList
 rw[wpM_bind,wpM_getOb]
 constructor
 ·rintro ⟨o,h1,h2⟩
  cases o <;> first | exact⟨_,h1,h2⟩ | exact h2.elim
 ·rintro ⟨xs,h1,h2⟩
  exact⟨_,h1,h2⟩
theorem wpM_asBool {v:V}{Q:Bool→St→Prop}:wpM (asBool v) st Q X↔∃ b,v=.bool b∧Q b st:=by
 refine⟨fun h=>?_,fun ⟨b,e,h⟩=>by subst e;exact h⟩
 cases v <;> first | exact h.elim | exact⟨_,rfl,h⟩
theorem wpM_asInt {v:V}{Q:Int→St→Prop}:wpM (asInt v) st Q X↔∃ b,v=.int b∧Q b st:=by
 refine⟨fun h=>?_,fun ⟨b,e,h⟩=>by subst e;exact h⟩
 cases v <;> first | exact h.elim | exact⟨_,rfl,h⟩
theorem wpM_asStr {v:V}{Q:List Nat→St→Prop}:wpM (asStr v) st Q X↔∃ b,v=.str b∧Q b st:=by
 refine⟨fun h=>?_,fun ⟨b,e,h⟩=>by subst e;exact h⟩
 cases v <;> first | exact h.elim | exact⟨_,rfl,h⟩
theorem wpM_asTy {v:V}{Q:String→St→Prop}:wpM (asTy v) st Q X↔∃ b,v=.type b∧Q b st:=by
 refine⟨fun h=>?_,fun ⟨b,e,h⟩=>by subst e;exact h⟩
 cases v <;> first | exact h.elim | exact⟨_,rfl,h⟩
theorem wpM_asFl {v:V}{Q:List V→St→Prop}:wpM (asFl v) st Q X↔∃ b,v=.flist b∧Q b st:=by
 refine⟨fun h=>?_,fun ⟨b,e,h⟩=>by subst e;exact h⟩
 cases v <;> first | exact h.elim | exact⟨_,rfl,h⟩
theorem wpM_asExc {v:V}{Q:Str→St→Prop}:wpM (asExc v) st Q X↔∃ b,v=.exc b∧Q b st:=by
 refine⟨fun h=>?_,fun ⟨b,e,h⟩=>by subst e;exact h⟩
 cases v <;> first | exact h.elim | exact⟨_,rfl,h⟩
theorem wpM_arg2 {α:Type}{f:V→V→M α}{vs:List V}{Q:α→St→Prop}(h:wpM (arg2 f vs) st Q X):∃ v w,vs=[v,w]∧wpM (f v w) st Q X:=by
 rcases vs with _ | ⟨v,_ | ⟨w,_ | ⟨u,l⟩⟩⟩ <;> first | exact h.elim | exact⟨_,_,rfl,h⟩
theorem wpM_asTup {v:V}{Q:List V→St→Prop}:wpM (asTup v) st Q X↔∃ b,v=.tuple b∧Q b st:=by
 refine⟨fun h=>?_,fun ⟨b,e,h⟩=>by subst e;exact h⟩
 cases v <;> first | exact h.elim | exact⟨_,rfl,h⟩
theorem wpM_asRef {v:V}{Q:Nat→St→Prop}:wpM (asRef v) st Q X↔∃ b,v=.ref b∧Q b st:=by
 refine⟨fun h=>?_,fun ⟨b,e,h⟩=>by subst e;exact h⟩
 cases v <;> first | exact h.elim | exact⟨_,rfl,h⟩
theorem wpM_listOf {v:V}{Q:List V→St→Prop}(h:wpM (listOf v) st Q X):(∃ xs,(v=.flist xs∨v=.alist xs)∧Q xs st)∨(∃ a xs,v=.ref a∧st.obs[a]?=some (.list xs)∧Q xs st):=by
 cases v <;> first | exact h.elim | skip
 ·exact .inl ⟨_,.inl rfl,h⟩
 ·exact .inl ⟨_,.inr rfl,h⟩
 ·obtain⟨xs,h1,h2⟩:=wpM_getList.mp h
  exact .inr ⟨_,xs,rfl,h1,h2⟩
theorem wpM_int2 {α:Type}{f:Int→Int→M α}{a b:V}{Q:α→St→Prop}(h:wpM (int2 f a b) st Q X):∃ i j,a=.int i∧b=.int j∧wpM (f i j) st Q X:=by
 obtain⟨i,rfl,h1⟩:=wpM_asInt.mp (wpM_bind.mp h)
 obtain⟨j,rfl,h2⟩:=wpM_asInt.mp (wpM_bind.mp h1)
 exact⟨i,j,rfl,rfl,h2⟩
theorem wpM_ite {α:Type}{c:Prop}[Decidable c]{m n:M α}{Q:α→St→Prop}:wpM (if c then m else n) st Q X↔if c then wpM m st Q X else wpM n st Q X:=by
 by_cases h:c <;> simp[h]
end
end Mine
namespace Mine
set_option backward.match.sparseCases false
open PySem PyProof.Rows
structure Aux where
 frs:List Env
 hot:Option Addr
structure Cx where
 prog:Program
 w:World
 base:Heap
 mg:Str→Option Value
 mb:Str→Option Value
 off:Addr→Prop
 aux:Aux
noncomputable def Cx.at (C:Cx)(f:Addr→Prop)(x:Aux:=C.aux):Cx:={ C with off:=f,aux:=x }
noncomputable def Cx.hide (C:Cx)(N:Addr→Prop)(x:Aux:=C.aux):Cx:=C.at (fun b=>C.off b∨N b) x
noncomputable def Free (C:Cx)(ρ:List Addr)(a:Addr):Prop:=a∉ρ∧¬ C.off a
noncomputable def KeysR:List Str→List DictEntry→Prop
 | [],l=>l=[]
 | x::xs,l=>∃ e es t,l=e::es∧e.key=.str x t∧KeysR xs es
inductive IsInst (C:Cx)(h:Heap)(c:Str)(a da:Addr)(ents:Array DictEntry):Prop
 | mk (k:Addr) (n:Nat) (h1:C.mg c=some (.ref k)) (h2:h.get? a=some { cls:=.ref k,dict:=some da }) (h3:h.get? da=some { cls:=.type "dict", data:=.dict ents n })
inductive SetN (C:Cx)(h:Heap)(a:Addr):List Int→Prop
 | int (S:Int→Bool) (n:Nat) (q:h.SetOf (intKind C.prog C.w) a S n):SetN C h a (List.replicate n 0)
 | str (S:Str→Bool) (n:Nat) (q:h.SetOf (PySem.strKind C.prog C.w) a S n):SetN C h a (List.replicate n 0)
noncomputable def ExcIs (C:Cx)(c:Str)(o:Obj):Prop:=(c≠nm "dict" ∧ ∃ k,C.mg c=some (.ref k)∧o.cls=.ref k)∨(c=nm "dict" ∧ o.cls=.type "dict")
inductive TupR (h:Heap)(F:Addr→Prop)(P:List Value→Prop)(v:Value):Prop
 | mk (a:Addr) (items:Array Value) (e:v=.ref a) (h1:IsTup h a items) (h2:F a) (h3:P items.toList)
inductive FlR' (h:Heap)(F:Addr→Prop)(P:List Value→Prop)(v:Value):Prop
 | mk (a:Addr) (items:Array Value) (n:Nat) (e:v=.ref a) (h1:h.get? a=some { cls:=.type "list", data:=.seq items n }) (h2:F a) (h3:P items.toList)
inductive AlR (h:Heap)(F:Addr→Prop)(P:List Value→Prop)(v:Value):Prop
 | mk (a:Addr) (items:Array Value) (e:v=.ref a) (h1:h.IsList a items) (h2:F a) (h3:P items.toList)
inductive InR (C:Cx)(h:Heap)(F:Addr→Prop)(c:Str)(ns:List Str)(P:List Value→Prop)(v:Value):Prop
 | mk (a da:Addr) (ents:Array DictEntry) (e:v=.ref a) (h1:IsInst C h c a da ents) (h2:F a∧F da) (h3:KeysR ns ents.toList) (h4:P (ents.toList.map (·.val)))
inductive DiR (C:Cx)(h:Heap)(F:Addr→Prop)(ks:List (List Nat))(P:List Value→Prop)(v:Value):Prop
 | mk (a:Addr) (kvs:List (Str×Value)) (e:v=.ref a) (h1:h.DictOf (PySem.strKind C.prog C.w) a kvs) (h2:F a∧C.base.get? a=none) (h3:kvs.map (·.1)=ks.map mkS) (h4:P (kvs.map (·.2)))
inductive RaR (h:Heap)(F:Addr→Prop)(lo hi:Int)(v:Value):Prop
 | mk (a:Addr) (t u k:Tok) (e:v=.ref a) (h1:F a) (h2:IsRange h a lo hi 1 t u k)
inductive RefR (P:Addr→Prop)(v:Value):Prop
 | mk (a:Addr) (e:v=.ref a) (h:P a)
inductive ConsR (P:Value→Prop)(Q:List Value→Prop)(l:List Value):Prop
 | mk (x:Value) (xs:List Value) (e:l=x::xs) (h1:P x) (h2:Q xs)
mutual
noncomputable def VR (C:Cx)(h:Heap)(ρ:List Addr):V→Value→Prop
 | .none,v=>v=.none
 | .bool b,v=>v=.bool b
 | .int i,v=>∃ t,v=.int i t
 | .str s,v=>∃ t,v=.str ⟨s.toArray⟩ t
 | .tuple vs,v=>TupR h (Free C ρ) (VRs C h ρ vs) v
 | .flist vs,v=>FlR' h (Free C ρ) (VRs C h ρ vs) v
 | .alist vs,v=>AlR h (Free C ρ) (VRs C h ρ vs) v
 | .finst c ns vs,v=>InR C h (Free C ρ) c ns (VRs C h ρ vs) v
 | .fdict ks vs,v=>DiR C h (Free C ρ) ks (VRs C h ρ vs) v
 | .range lo hi,v=>RaR h (Free C ρ) lo hi v
 | .set ns,v=>∃ a,v=.ref a∧Free C ρ a∧SetN C h a ns
 | .exc c,v=>∃ a o,v=.ref a∧h.get? a=some o∧Free C ρ a∧ExcIs C c o
 | .ref i,v=>RefR (fun a=>ρ[i]?=some a) v
 | .own x,v=>RefR (fun a=>C.mg x=some (.ref a)) v
 | .type n,v=>v=.type n
noncomputable def VRs (C:Cx)(h:Heap)(ρ:List Addr):List V→List Value→Prop
 | [],l=>l=[]
 | v::vs,l=>ConsR (VR C h ρ v) (VRs C h ρ vs) l
end
section
variable {C:Cx}{h:Heap}{ρ:List Addr}{v:Value}
theorem vR0:VR C h ρ (.none) v=(v=.none):=rfl
theorem vR1 {b:Bool}:VR C h ρ (.bool b) v=(v=.bool b):=rfl
theorem vR2 {i:Int}:VR C h ρ (.int i) v=(∃ t,v=.int i t):=rfl
theorem vR3 {s:List Nat}:VR C h ρ (.str s) v=(∃ t,v=.str ⟨s.toArray⟩ t):=rfl
theorem vR9 {ns:List Int}:VR C h ρ (.set ns) v=(∃ a,v=.ref a∧Free C ρ a∧SetN C h a ns):=rfl
theorem vR10 {c:Str}:VR C h ρ (.exc c) v=(∃ a o,v=.ref a∧h.get? a=some o∧Free C ρ a∧ExcIs C c o):=rfl
theorem vR13 {n:String}:VR C h ρ (.type n) v=(v=.type n):=rfl
theorem vS0 {l:List Value}:VRs C h ρ [] l=(l=[]):=rfl
theorem vS0.mpr':VRs C h ρ [] []:=rfl
theorem vS1 {v:V}{vs:List V}{l:List Value}:VRs C h ρ (v::vs) l=ConsR (VR C h ρ v) (VRs C h ρ vs) l:=rfl
end
noncomputable def DR (C:Cx)(h:Heap)(ρ:List Addr)(es:Es)(kvs:List (Str×Value)):Prop:=kvs.map (·.1)=es.map (fun p=>mkS p.1)∧VRs C h ρ (es.map (·.2)) (kvs.map (·.2))
noncomputable def NsR (C:Cx)(h:Heap)(ρ:List Addr):List (Str×V)→List DictEntry→Prop
 | [],l=>l=[]
 | e::es,l=>∃ x xs t,l=x::xs∧x.key=.str e.1 t∧VR C h ρ e.2 x.val∧NsR C h ρ es xs
section
variable {C:Cx}{h:Heap}{ρ:List Addr}{x:Value}{P:Value→Prop}
@[elab_as_elim] theorem VR.intE {i:Int}(r:VR C h ρ (.int i) x)(k:∀ t,P (.int i t)):P x:=by obtain⟨t,rfl⟩:=r;exact k t
@[elab_as_elim] theorem VR.strE {i:List Nat}(r:VR C h ρ (.str i) x)(k:∀ t,P (.str ⟨i.toArray⟩ t)):P x:=by obtain⟨t,rfl⟩:=r;exact k t
@[elab_as_elim] theorem VR.noneE (r:VR C h ρ .none x)(k:P .none):P x:=by obtain rfl:=r;exact k
@[elab_as_elim] theorem VR.boolE {b:Bool}(r:VR C h ρ (.bool b) x)(k:P (.bool b)):P x:=by obtain rfl:=r;exact k
@[elab_as_elim] theorem VR.typeE {n:String}(r:VR C h ρ (.type n) x)(k:P (.type n)):P x:=by obtain rfl:=r;exact k
@[elab_as_elim] theorem VR.tupE {vs:List V}(r:VR C h ρ (.tuple vs) x)(k:∀ a items,IsTup h a items→VRs C h ρ vs items.toList→P (.ref a)):P x:=by obtain⟨a,items,rfl,h1,_,h3⟩:=r;exact k a items h1 h3
@[elab_as_elim] theorem VR.flistE {vs:List V}(r:VR C h ρ (.flist vs) x)(k:∀ a items,h.IsList a items→VRs C h ρ vs items.toList→P (.ref a)):P x:=by obtain⟨a,items,n,rfl,h1,_,h3⟩:=r;exact k a items ⟨_,h1,rfl,n,rfl⟩ h3
@[elab_as_elim] theorem VR.alistE {vs:List V}(r:VR C h ρ (.alist vs) x)(k:∀ a items,h.IsList a items→VRs C h ρ vs items.toList→P (.ref a)):P x:=by obtain⟨a,items,rfl,h1,_,h3⟩:=r;exact k a items h1 h3
@[elab_as_elim] theorem VR.refE {i:Nat}(r:VR C h ρ (.ref i) x)(k:∀ a,ρ[i]?=some a→P (.ref a)):P x:=by obtain⟨a,rfl,h1⟩:=r;exact k a h1
@[elab_as_elim] theorem VR.ownE {c:Str}(r:VR C h ρ (.own c) x)(k:∀ a,C.mg c=some (.ref a)→P (.ref a)):P x:=by obtain⟨a,rfl,h1⟩:=r;exact k a h1
variable {l:List Value}{Ps:List Value→Prop}
@[elab_as_elim] theorem VRs.nilE (r:VRs C h ρ [] l)(k:Ps []):Ps l:=by obtain rfl:=r;exact k
@[elab_as_elim] theorem VRs.oneE {v:V}(r:VRs C h ρ [v] l)(k:∀ x,VR C h ρ v x→Ps [x]):Ps l:=by obtain⟨x,_,rfl,h1,rfl⟩:=r;exact k x h1
@[elab_as_elim] theorem VRs.twoE {v w:V}(r:VRs C h ρ [v,w] l)(k:∀ x y,VR C h ρ v x→VR C h ρ w y→Ps [x,y]):Ps l:=by obtain⟨x,_,rfl,h1,y,_,rfl,h2,rfl⟩:=r;exact k x y h1 h2
@[elab_as_elim] theorem VRs.consE {v:V}{vs:List V}(r:VRs C h ρ (v::vs) l)(k:∀ x xs,VR C h ρ v x→VRs C h ρ vs xs→Ps (x::xs)):Ps l:=by obtain⟨x,xs,rfl,h1,h2⟩:=r;exact k x xs h1 h2
end
theorem ns_keys {C:Cx}{h:Heap}{ρ:List Addr}:∀ {fs:List (Str×V)} {l:List DictEntry},NsR C h ρ fs l→KeysR (fs.map (·.1)) l∧VRs C h ρ (fs.map (·.2)) (l.map (·.val))
 | [],l,r=>by obtain rfl:=r;exact⟨rfl,rfl⟩
 | (x,v)::fs,l,r=>by
  obtain⟨e,es,t,rfl,h1,h2,h3⟩:=r
  obtain⟨q1,q2⟩:=ns_keys h3
  exact⟨⟨e,es,t,rfl,h1,q1⟩,_,_,rfl,h2,q2⟩
theorem keys_ns {C:Cx}{h:Heap}{ρ:List Addr}:∀ {ns:List Str} {vs:List V} {l:List DictEntry},KeysR ns l→VRs C h ρ vs (l.map (·.val))→NsR C h ρ (ns.zip vs) l
 | [],vs,l,r,q=>by obtain rfl:=r;rfl
 | x::ns,vs,l,r,q=>by
  obtain⟨e,es,t,rfl,h1,h2⟩:=r
  cases vs with
  | nil=>cases q
  | cons v vs =>
   obtain⟨_,_,q1,q2,q3⟩:=q
   cases q1
   exact⟨e,es,t,rfl,h1,q2,keys_ns h2 q3⟩
noncomputable def OR (C:Cx)(h:Heap)(ρ:List Addr):Ob→Addr→Prop
 | .list xs,a=>∃ items n,h.get? a=some { cls:=.type "list", data:=.seq items n }∧VRs C h ρ xs items.toList
 | .sdict j es,a=>∃ kvs,DictK (PySem.strKind C.prog C.w) h a kvs j∧DR C h ρ es kvs
 | .inst c d,a=>∃ da k,ρ[d]?=some da∧C.mg c=some (.ref k)∧h.get? a=some { cls:=.ref k,dict:=some da }
 | .ns fs,a=>∃ ents n,h.get? a=some { cls:=.type "dict", data:=.dict ents n }∧NsR C h ρ fs ents.toList
structure Inv (C:Cx)(h:Heap)(ρ:List Addr)(obs:List Ob):Prop where
 base:C.base.StaysIn h
 len:ρ.length=obs.length
 nodup:ρ.Nodup
 sys:∃ o,C.base.get? sysModules=some o
 new:∀ a:Addr,a∈ρ→C.base.get? a=none∧¬ C.off a
 hid:∀ a:Addr,C.off a→∃ o,h.get? a=some o
 ob:∀ (i:Nat) (o:Ob),obs[i]?=some o→∃ a:Addr,ρ[i]?=some a∧OR C h ρ o a
noncomputable def valTypes:List String:=["tuple", "list", "range", "dict", "set"]
noncomputable def isVal (o:Obj):Bool:=match o.cls with
 | .type n=>valTypes.contains n
 | .ref _=>true
 | _=>false
structure Mv (n:Nat)(C:Cx)(h:Heap)(ρ:List Addr)(C':Cx)(h':Heap)(ρ':List Addr):Prop where
 eq:∃ f x,C'=C.at f x
 idx:∀ (i:Nat) (a:Addr),i<n→ρ[i]?=some a→ρ'[i]?=some a
 val:∀ (b:Addr) (o:Obj),h.get? b=some o→Free C ρ b→isVal o=true→h'.get? b=some o∧Free C' ρ' b
theorem Mv.mg {n:Nat}{C C':Cx}{h h':Heap}{ρ ρ':List Addr}(e:Mv n C h ρ C' h' ρ'):C'.mg=C.mg:=by obtain⟨f,x,q⟩:=e.eq;rw[q];rfl
theorem Mv.pw {n:Nat}{C C':Cx}{h h':Heap}{ρ ρ':List Addr}(e:Mv n C h ρ C' h' ρ'):C'.prog=C.prog∧C'.w=C.w:=by obtain⟨f,x,q⟩:=e.eq;rw[q];exact⟨rfl,rfl⟩
theorem setOf_obj {prog:Program}{w:World}{K:Type}[DecidableEq K]{knd:KeyKind prog w K}{h:Heap}{a:Addr}{S:K→Bool}{n:Nat}(q:h.SetOf knd a S n):∃ o,h.get? a=some o∧o.cls=.type "set" ∧ ∀ h':Heap,h'.get? a=some o→h'.SetOf knd a S n:=by
 obtain⟨o,es,ep,t,ho,hc,r⟩:=q
 exact⟨o,ho,hc.1,fun h' z=>⟨o,es,ep,t,z,hc,r⟩⟩
theorem list_isVal {o:Obj}(h:o.cls=.type "list"):isVal o=true:=by unfold isVal;rw[h];rfl
section
variable {n:Nat}{C C':Cx}{h h':Heap}{ρ ρ':List Addr}{x:Value}
theorem mv_tup (e:Mv n C h ρ C' h' ρ'){vs:List V}(k:∀ {xs},VRs C h ρ vs xs→VRs C' h' ρ' vs xs)(r:VR C h ρ (.tuple vs) x):VR C' h' ρ' (.tuple vs) x:=by
 obtain⟨a,items,e0,⟨o,ho,hc,n,hd⟩,hn,hr⟩:=r
 have z:=e.val a o ho hn (by unfold isVal;rw[hc];rfl)
 exact⟨a,items,e0,⟨o,z.1,hc,n,hd⟩,z.2,k hr⟩
theorem mv_flist (e:Mv n C h ρ C' h' ρ'){vs:List V}(k:∀ {xs},VRs C h ρ vs xs→VRs C' h' ρ' vs xs)(r:VR C h ρ (.flist vs) x):VR C' h' ρ' (.flist vs) x:=by
 obtain⟨a,items,n,e0,ho,hn,hr⟩:=r
 have z:=e.val a _ ho hn rfl
 exact⟨a,items,n,e0,z.1,z.2,k hr⟩
theorem mv_alist (e:Mv n C h ρ C' h' ρ'){vs:List V}(k:∀ {xs},VRs C h ρ vs xs→VRs C' h' ρ' vs xs)(r:VR C h ρ (.alist vs) x):VR C' h' ρ' (.alist vs) x:=by
 obtain⟨a,items,e0,⟨o,ho,hc,n,hd⟩,hn,hr⟩:=r
 have z:=e.val a o ho hn (list_isVal hc)
 exact⟨a,items,e0,⟨o,z.1,hc,n,hd⟩,z.2,k hr⟩
theorem mv_inst (e:Mv n C h ρ C' h' ρ'){c:Str}{ns:List Str}{vs:List V}(k:∀ {xs},VRs C h ρ vs xs→VRs C' h' ρ' vs xs)(r:VR C h ρ (.finst c ns vs) x):VR C' h' ρ' (.finst c ns vs) x:=by
 obtain⟨a,da,ents,e0,⟨j,m,hj,ha,hd⟩,hn,hks,hr⟩:=r
 have k1:=e.val a _ ha hn.1 rfl
 have k2:=e.val da _ hd hn.2 rfl
 exact⟨a,da,ents,e0,⟨j,m,e.mg▸hj,k1.1,k2.1⟩,⟨k1.2,k2.2⟩,hks,k hr⟩
theorem mv_dict (e:Mv n C h ρ C' h' ρ'){ks:List (List Nat)}{vs:List V}(k:∀ {xs},VRs C h ρ vs xs→VRs C' h' ρ' vs xs)(r:VR C h ρ (.fdict ks vs) x):VR C' h' ρ' (.fdict ks vs) x:=by
 obtain⟨a,kvs,e0,⟨o,es,ep,ho,hc,hr⟩,hn,hk,hv⟩:=r
 have z:=e.val a o ho hn.1 (by unfold isVal;rw[hc.1];rfl)
 have kv:=k hv
 obtain⟨f,y,q⟩:=e.eq
 subst q
 exact⟨a,kvs,e0,⟨o,es,ep,z.1,hc,hr⟩,⟨z.2,hn.2⟩,hk,kv⟩
theorem mv_range (e:Mv n C h ρ C' h' ρ'){lo hi:Int}(r:VR C h ρ (.range lo hi) x):VR C' h' ρ' (.range lo hi) x:=by
 obtain⟨a,t,u,k,e0,hn,ho⟩:=r
 have z:=e.val a _ ho hn rfl
 exact⟨a,t,u,k,e0,z.2,z.1⟩
theorem mv_set (e:Mv n C h ρ C' h' ρ'){ns:List Int}(r:VR C h ρ (.set ns) x):VR C' h' ρ' (.set ns) x:=by
 obtain⟨a,e0,hn,hs⟩:=r
 have z:=fun o ho (hc:o.cls=.type "set")=>e.val a o ho hn (by unfold isVal;rw[hc];rfl)
 obtain⟨f,y,q⟩:=e.eq
 subst q
 cases hs with
 | int S n hs =>
  obtain⟨o,ho,hc,k⟩:=setOf_obj hs
  exact⟨a,e0,(z o ho hc).2,.int S n (k _ (z o ho hc).1)⟩
 | str S n hs =>
  obtain⟨o,ho,hc,k⟩:=setOf_obj hs
  exact⟨a,e0,(z o ho hc).2,.str S n (k _ (z o ho hc).1)⟩
theorem mv_exc (e:Mv n C h ρ C' h' ρ'){c:Str}(r:VR C h ρ (.exc c) x):VR C' h' ρ' (.exc c) x :=
 let ⟨a,o,e0,ho,hn,hc⟩:=r;have k:=e.val a o ho hn (by unfold isVal;rcases hc with ⟨_,k,_,q⟩ | ⟨_,q⟩ <;> rw[q] <;> rfl);⟨a,o,e0,k.1,k.2,hc.imp (fun q=>⟨q.1,e.mg▸q.2⟩) id⟩
theorem mv_ref (e:Mv n C h ρ C' h' ρ'){i:Nat}(q:i<n)(r:VR C h ρ (.ref i) x):VR C' h' ρ' (.ref i) x:=let ⟨a,e0,hi⟩:=r;⟨a,e0,e.idx i a q hi⟩
theorem mv_own (e:Mv n C h ρ C' h' ρ'){c:Str}(r:VR C h ρ (.own c) x):VR C' h' ρ' (.own c) x:=let ⟨a,e0,hi⟩:=r;⟨a,e0,e.mg▸hi⟩
theorem mv_cons {v:V}{vs:List V}{l:List Value}(k1:∀ {y},VR C h ρ v y→VR C' h' ρ' v y)(k:∀ {xs},VRs C h ρ vs xs→VRs C' h' ρ' vs xs)(r:VRs C h ρ (v::vs) l):VRs C' h' ρ' (v::vs) l:=let ⟨x,xs,e0,h1,h2⟩:=r;⟨x,xs,e0,k1 h1,k h2⟩
end
mutual
theorem vr_move {n:Nat}{C C':Cx}{h h':Heap}{ρ ρ':List Addr}(e:Mv n C h ρ C' h' ρ'):∀ (v:V) {x:Value},ltV n v=true→VR C h ρ v x→VR C' h' ρ' v x
 | .none,_,_,r=>r
 | .bool _,_,_,r=>r
 | .int _,_,_,r=>r
 | .str _,_,_,r=>r
 | .tuple vs,_,q,r=>mv_tup e (vrs_move e vs q) r
 | .flist vs,_,q,r=>mv_flist e (vrs_move e vs q) r
 | .alist vs,_,q,r=>mv_alist e (vrs_move e vs q) r
 | .finst _ _ vs,_,q,r=>mv_inst e (vrs_move e vs q) r
 | .fdict _ vs,_,q,r=>mv_dict e (vrs_move e vs q) r
 | .range _ _,_,_,r=>mv_range e r
 | .set _,_,_,r=>mv_set e r
 | .exc _,_,_,r=>mv_exc e r
 | .ref _,_,q,r=>mv_ref e (of_decide_eq_true q) r
 | .own _,_,_,r=>mv_own e r
 | .type _,_,_,r=>r
theorem vrs_move {n:Nat}{C C':Cx}{h h':Heap}{ρ ρ':List Addr}(e:Mv n C h ρ C' h' ρ'):∀ (vs:List V) {xs:List Value},ltVs n vs=true→VRs C h ρ vs xs→VRs C' h' ρ' vs xs
 | [],_,_,r=>r
 | v::vs,_,q,r=>have q:=Bool.and_eq_true_iff.mp q;mv_cons (vr_move e v q.1) (vrs_move e vs q.2) r
end
theorem VR.move {n:Nat}{C C':Cx}{h h':Heap}{ρ ρ':List Addr}(e:Mv n C h ρ C' h' ρ'){v:V}{x:Value}(q:ltV n v=true)(r:VR C h ρ v x):VR C' h' ρ' v x:=vr_move e v q r
theorem VRs.move {n:Nat}{C C':Cx}{h h':Heap}{ρ ρ':List Addr}(e:Mv n C h ρ C' h' ρ'){vs:List V}{xs:List Value}(q:ltVs n vs=true)(r:VRs C h ρ vs xs):VRs C' h' ρ' vs xs:=vrs_move e vs q r
theorem lt_tup {C:Cx}{h:Heap}{ρ:List Addr}{x:Value}{vs:List V}(k:∀ {xs},VRs C h ρ vs xs→ltVs ρ.length vs=true):(VR C h ρ (.tuple vs) x→ltVs ρ.length vs=true)∧(VR C h ρ (.flist vs) x→ltVs ρ.length vs=true)∧(VR C h ρ (.alist vs) x→ltVs ρ.length vs=true)∧(∀ c ns,VR C h ρ (.finst c ns vs) x→ltVs ρ.length vs=true)∧∀ ks,VR C h ρ (.fdict ks vs) x→ltVs ρ.length vs=true :=
 ⟨fun ⟨_,_,_,_,_,hr⟩=>k hr,fun ⟨_,_,_,_,_,_,hr⟩=>k hr,fun ⟨_,_,_,_,_,hr⟩=>k hr,fun _ _ ⟨_,_,_,_,_,_,_,hr⟩=>k hr,fun _ ⟨_,_,_,_,_,_,hr⟩=>k hr⟩
mutual
theorem VR.lt {C:Cx}{h:Heap}{ρ:List Addr}:∀ {v:V} {x:Value},VR C h ρ v x→ltV ρ.length v=true
 | .none,_,_=>rfl
 | .bool _,_,_=>rfl
 | .int _,_,_=>rfl
 | .str _,_,_=>rfl
 | .tuple _,_,r=>(lt_tup VRs.lt).1 r
 | .flist _,_,r=>(lt_tup VRs.lt).2.1 r
 | .alist _,_,r=>(lt_tup VRs.lt).2.2.1 r
 | .finst _ _ _,_,r=>(lt_tup VRs.lt).2.2.2.1 _ _ r
 | .fdict _ _,_,r=>(lt_tup VRs.lt).2.2.2.2 _ r
 | .range _ _,_,_=>rfl
 | .set _,_,_=>rfl
 | .exc _,_,_=>rfl
 | .ref _,_,r=>let ⟨_,_,hi⟩:=r;decide_eq_true (List.getElem?_eq_some_iff.mp hi).1
 | .own _,_,_=>rfl
 | .type _,_,_=>rfl
theorem VRs.lt {C:Cx}{h:Heap}{ρ:List Addr}:∀ {vs:List V} {xs:List Value},VRs C h ρ vs xs→ltVs ρ.length vs=true
 | [],_,_=>rfl
 | _::_,_,r=>let ⟨_,_,_,h1,h2⟩:=r;Bool.and_eq_true_iff.mpr ⟨VR.lt h1,VRs.lt h2⟩
end
theorem NsR.move {n:Nat}{C C':Cx}{h h':Heap}{ρ ρ':List Addr}(e:Mv n C h ρ C' h' ρ'):∀ {es:List (Str×V)} {xs:List DictEntry},ltVs n (es.map (·.2))=true→NsR C h ρ es xs→NsR C' h' ρ' es xs
 | [],_,_,r=>r
 | _::_,_,q,⟨x,xs,t,q0,h1,h2,h3⟩=>by
  have q:=Bool.and_eq_true_iff.mp q
  exact⟨x,xs,t,q0,h1,h2.move e q.1,NsR.move e q.2 h3⟩
theorem NsR.lt {C:Cx}{h:Heap}{ρ:List Addr}{es:List (Str×V)}{xs:List DictEntry}(r:NsR C h ρ es xs):ltVs ρ.length (es.map (·.2))=true:=(ns_keys r).2.lt
theorem OR.move {n:Nat}{C C':Cx}{h h':Heap}{ρ ρ':List Addr}(e:Mv n C h ρ C' h' ρ'){o:Ob}{a:Addr}(q:ltO n o=true)(r:OR C h ρ o a)(ha:h'.get? a=h.get? a):OR C' h' ρ' o a:=by
 cases o with
 | list xs=>obtain⟨items,n,h1,h2⟩:=r;exact⟨items,n,ha.trans h1,h2.move e q⟩
 | sdict j es =>
  obtain⟨kvs,⟨ep,⟨o,ens,h1,hr⟩,hj⟩,h2⟩:=r
  have mv:DR C' h' ρ' es kvs:=⟨h2.1,h2.2.move e q⟩
  obtain⟨f,z,q'⟩:=e.eq
  subst q'
  exact⟨kvs,⟨ep,⟨o,ens,ha.trans h1,hr⟩,hj⟩,mv⟩
 | inst c d =>
  obtain⟨da,k,h1,h2,h3⟩:=r
  simp only[ltO,decide_eq_true_eq] at q
  exact⟨da,k,e.idx _ _ q h1,by rw[e.mg];exact h2,ha.trans h3⟩
 | ns fs=>obtain⟨items,n,h1,h2⟩:=r;exact⟨items,n,ha.trans h1,h2.move e q⟩
theorem OR.lt {C:Cx}{h:Heap}{ρ:List Addr}{o:Ob}{a:Addr}(r:OR C h ρ o a):ltO ρ.length o=true:=by
 cases o with
 | list xs=>obtain⟨items,n,h1,h2⟩:=r;exact h2.lt
 | sdict j es=>obtain⟨kvs,h1,h2⟩:=r;exact h2.2.lt
 | inst c d =>
  obtain⟨da,k,h1,h2,h3⟩:=r
  simp only[ltO,decide_eq_true_eq]
  exact (List.getElem?_eq_some_iff.mp h1).1
 | ns fs=>obtain⟨items,n,h1,h2⟩:=r;exact h2.lt
theorem OR.there {C:Cx}{h:Heap}{ρ:List Addr}{o:Ob}{a:Addr}(r:OR C h ρ o a):∃ ob,h.get? a=some ob:=by
 cases o with
 | list xs=>obtain⟨items,n,h1,_⟩:=r;exact⟨_,h1⟩
 | sdict j es=>obtain⟨kvs,⟨_,⟨o,_,h1,_⟩,_⟩,_⟩:=r;exact⟨o,h1⟩
 | inst c d=>obtain⟨da,k,_,_,h3⟩:=r;exact⟨_,h3⟩
 | ns fs=>obtain⟨items,n,h1,_⟩:=r;exact⟨_,h1⟩
structure ExtV (C:Cx)(h:Heap)(ρ:List Addr)(h':Heap)(ρ':List Addr):Prop where
 pre:∃ t,ρ'=ρ++t
 val:∀ (b:Addr) (o:Obj),h.get? b=some o→Free C ρ b→isVal o=true→h'.get? b=some o∧b∉ρ'
theorem ExtV.at {C:Cx}{h h':Heap}{ρ ρ':List Addr}(e:ExtV C h ρ h' ρ'){i:Nat}{a:Addr}(hi:ρ[i]?=some a):ρ'[i]?=some a:=by
 obtain⟨t,rfl⟩:=e.pre
 rw[List.getElem?_append_left (List.getElem?_eq_some_iff.mp hi).1];exact hi
theorem ExtV.mv {C:Cx}{h h':Heap}{ρ ρ':List Addr}(e:ExtV C h ρ h' ρ'):Mv ρ.length C h ρ C h' ρ' :=
 ⟨⟨C.off,C.aux,rfl⟩,fun i a _ q=>e.at q,fun b o h1 h2 h3=>⟨(e.val b o h1 h2 h3).1,(e.val b o h1 h2 h3).2,h2.2⟩⟩
theorem VR.ext {C:Cx}{h h':Heap}{ρ ρ':List Addr}(e:ExtV C h ρ h' ρ'){v:V}{x:Value}(r:VR C h ρ v x):VR C h' ρ' v x:=r.move e.mv r.lt
theorem VRs.ext {C:Cx}{h h':Heap}{ρ ρ':List Addr}(e:ExtV C h ρ h' ρ'){vs:List V}{xs:List Value}(r:VRs C h ρ vs xs):VRs C h' ρ' vs xs:=r.move e.mv r.lt
theorem NsR.ext {C:Cx}{h h':Heap}{ρ ρ':List Addr}(e:ExtV C h ρ h' ρ'){es:List (Str×V)}{xs:List DictEntry}(r:NsR C h ρ es xs):NsR C h' ρ' es xs:=r.move e.mv r.lt
theorem OR.ext {C:Cx}{h h':Heap}{ρ ρ':List Addr}(e:ExtV C h ρ h' ρ'){o:Ob}{a:Addr}(r:OR C h ρ o a)(ha:h'.get? a=h.get? a):OR C h' ρ' o a:=r.move e.mv r.lt ha
theorem Inv.mem {C:Cx}{h:Heap}{ρ:List Addr}{obs:List Ob}(I:Inv C h ρ obs){a:Addr}(ha:a∈ρ):∃ o,h.get? a=some o:=by
 obtain⟨i,hi,rfl⟩:=List.getElem_of_mem ha
 have hl:i<obs.length:=I.len▸hi
 obtain⟨b,hb,r⟩:=I.ob i obs[i] (List.getElem?_eq_getElem hl)
 obtain rfl:=some_eq (List.getElem?_eq_getElem hi) hb
 exact r.there
theorem Inv.ext {C:Cx}{h h':Heap}{ρ:List Addr}{obs:List Ob}(I:Inv C h ρ obs)(hb:C.base.StaysIn h')(e:ExtV C h ρ h' ρ)(ha:∀ a:Addr,a∈ρ→h'.get? a=h.get? a)(hal:∀ b o,h.get? b=some o→∃ o',h'.get? b=some o'):Inv C h' ρ obs :=
 ⟨hb,I.len,I.nodup,I.sys,I.new,fun a q=>let ⟨o,h1⟩:=I.hid a q;hal a o h1,fun i o ho=>let ⟨a,h1,h2⟩:=I.ob i o ho;⟨a,h1,h2.ext e (ha a (List.mem_of_getElem? h1))⟩⟩
theorem Inv.notB {C:Cx}{h:Heap}{ρ:List Addr}{obs:List Ob}(I:Inv C h ρ obs){a:Addr}(hn:h.get? a=none):C.base.get? a=none:=by
 cases q:C.base.get? a with
 | none=>rfl
 | some o=>have:=I.base _ o q;exact no_eq this hn
theorem Inv.notOff {C:Cx}{h:Heap}{ρ:List Addr}{obs:List Ob}(I:Inv C h ρ obs){a:Addr}(hn:h.get? a=none):¬ C.off a:=fun q=>by
 obtain⟨o,ho⟩:=I.hid a q;exact no_eq ho hn
theorem Inv.notIn {C:Cx}{h:Heap}{ρ:List Addr}{obs:List Ob}(I:Inv C h ρ obs){a:Addr}(hn:h.get? a=none):a∉ρ:=fun hm=>by
 obtain⟨o,ho⟩:=I.mem hm;exact no_eq ho hn
noncomputable def Grows (h h':Heap):Prop:=∀ (b:Addr) (o:Obj),h.get? b=some o→h'.get? b=some o
theorem Grows.refl (h:Heap):Grows h h:=fun _ _ e=>e
theorem Grows.trans {a b c:Heap}(x:Grows a b)(y:Grows b c):Grows a c:=fun i o e=>y i o (x i o e)
theorem Grows.push (h:Heap)(o:Obj):Grows h (h.push o):=fun _ _ e=>Heap.get?_push_of_some _ e
theorem Grows.extBut {h h':Heap}(x:Heap.ExtBut h.objs.size h h'):Grows h h':=fun b o e=>x b o (Nat.ne_of_lt (Heap.lt_size e)) e
theorem Grows.extV {C:Cx}{h h':Heap}(g:Grows h h')(ρ:List Addr):ExtV C h ρ h' ρ:=⟨⟨[],by simp⟩,fun b o e hn _=>⟨g b o e,hn.1⟩⟩
theorem Inv.grows {C:Cx}{h h':Heap}{ρ:List Addr}{obs:List Ob}(I:Inv C h ρ obs)(g:Grows h h'):Inv C h' ρ obs :=
 I.ext (fun b o e=>g b o (I.base b o e)) (g.extV ρ) (fun a ha=>by obtain⟨o,ho⟩:=I.mem ha;rw[ho,g a o ho]) fun b o e=>⟨o,g b o e⟩
theorem ExtV.made {C:Cx}{h h':Heap}{ρ:List Addr}{D:Addr}(g:Grows h h')(hD:h.get? D=none):ExtV C h ρ h' (ρ++[D]) :=
 ⟨⟨[D],rfl⟩,fun b o hb hn _=>⟨g b o hb,fun hm=>by
  rcases List.mem_append.mp hm with q | q
  ·exact hn.1 q
  ·cases List.mem_singleton.mp q
   exact no_eq hb hD⟩⟩
theorem at_end {ρ:List Addr}{obs:List Ob}{D:Addr}{o o':Ob}{i:Nat}(hl:ρ.length=obs.length)(h:(obs++[o])[i]?=some o'):(i<obs.length∧obs[i]?=some o')∨(o'=o∧(ρ++[D])[i]?=some D):=by
 by_cases hi:i<obs.length
 ·rw[List.getElem?_append_left hi] at h
  exact .inl ⟨hi,h⟩
 ·rw[List.getElem?_append_right (Nat.le_of_not_lt hi)] at h
  have e:i-obs.length=0:=by
   cases hq:i-obs.length with
   | zero=>rfl
   | succ k=>rw[hq] at h;simp at h
  rw[e] at h
  simp at h
  have hi':i=ρ.length:=(Nat.le_antisymm (Nat.le_of_sub_eq_zero e) (Nat.le_of_not_lt hi)).trans hl.symm
  exact .inr ⟨h.symm,by rw[hi'];simp⟩
theorem Inv.adopt {C C':Cx}{h h':Heap}{ρ:List Addr}{obs:List Ob}{D:Addr}{o:Ob}(I:Inv C h ρ obs)(e:Mv ρ.length C h ρ C' h' (ρ++[D]))(hbase:C'.base=C.base)(hb:C.base.StaysIn h')(ha:∀ a:Addr,a∈ρ→h'.get? a=h.get? a∧¬ C'.off a)
  (hn:D∉ρ) (hDb:C.base.get? D=none) (hDo:¬ C'.off D) (hid:∀ a:Addr,C'.off a→∃ o,h'.get? a=some o) (r:OR C' h' (ρ++[D]) o D):Inv C' h' (ρ++[D]) (obs++[o]):=by
 refine⟨by rw[hbase];exact hb,by simp[I.len],List.nodup_append.mpr ⟨I.nodup,by simp,fun x hx y hy=>?_⟩,by rw[hbase];exact I.sys,fun b hb'=>?_,hid,fun i o' ho=>?_⟩
 ·cases List.mem_singleton.mp hy
  exact fun q=>hn (q▸hx)
 ·rcases List.mem_append.mp hb' with q | q
  ·rw[hbase];exact⟨(I.new b q).1,(ha b q).2⟩
  ·cases List.mem_singleton.mp q;rw[hbase];exact⟨hDb,hDo⟩
 ·rcases at_end (D:=D) I.len ho with ⟨hi,ho⟩ | ⟨rfl,hi⟩
  ·obtain⟨b,q1,q2⟩:=I.ob i o' ho
   exact⟨b,e.idx i b (by rw[I.len];exact hi) q1,q2.move e q2.lt (ha b (List.mem_of_getElem? q1)).1⟩
  ·exact⟨D,hi,r⟩
theorem Inv.made {C:Cx}{h h':Heap}{ρ:List Addr}{obs:List Ob}{D:Addr}{o:Ob}(I:Inv C h ρ obs)(g:Grows h h')(hD:h.get? D=none)(r:OR C h' (ρ++[D]) o D):Inv C h' (ρ++[D]) (obs++[o]) :=
 have I':=I.grows g
 I.adopt (ExtV.made g hD).mv rfl I'.base (fun a ha=>⟨by obtain⟨o,ho⟩:=I.mem ha;rw[ho,g a o ho],(I.new a ha).2⟩) (I.notIn hD) (I.notB hD) (I.notOff hD) I'.hid r
theorem ExtV.put {C:Cx}{h h':Heap}{ρ:List Addr}{a:Addr}(ha:a∈ρ)(hs:∀ b o,b≠a→h.get? b=some o→h'.get? b=some o):ExtV C h ρ h' ρ :=
 ⟨⟨[],by simp⟩,fun b o hb hn _=>⟨hs b o (fun q=>hn.1 (q▸ha)) hb,hn.1⟩⟩
theorem ExtV.put2 {C:Cx}{h h':Heap}{ρ:List Addr}{a L:Addr}(ha:a∈ρ)(hL:C.off L)(hs:∀ b o,b≠L→b≠a→h.get? b=some o→h'.get? b=some o):ExtV C h ρ h' ρ :=
 ⟨⟨[],by simp⟩,fun b o hb hn hv=>⟨hs b o (fun q=>hn.2 (q▸hL)) (fun q=>hn.1 (q▸ha)) hb,hn.1⟩⟩
theorem Inv.put' {C:Cx}{h h':Heap}{ρ:List Addr}{obs:List Ob}{i:Nat}{a:Addr}{o:Ob}(I:Inv C h ρ obs)(hi:ρ[i]?=some a)(e:ExtV C h ρ h' ρ)(hs:∀ b o,b∈ρ→b≠a→h.get? b=some o→h'.get? b=some o)(hb:C.base.StaysIn h')(hal:∀ b o,h.get? b=some o→∃ o',h'.get? b=some o')(r:OR C h' ρ o a):Inv C h' ρ (obs.set i o):=by
 refine⟨hb,by simp[I.len],I.nodup,I.sys,I.new,fun b q=>let ⟨o,h1⟩:=I.hid b q;hal b o h1,fun j o' ho=>?_⟩
 rw[List.getElem?_set] at ho
 split at ho
 ·rename_i e
  split at ho
  ·obtain rfl:=Option.some.inj ho;subst e;exact⟨a,hi,r⟩
  ·cases ho
 ·rename_i ne
  obtain⟨b,q1,q2⟩:=I.ob j o' ho
  have hne:b≠a:=fun q=>ne ((List.getElem?_inj (List.getElem?_eq_some_iff.mp hi).1 I.nodup).mp (by rw[hi,q1,q]))
  obtain⟨ob,q3⟩:=q2.there
  exact⟨b,q1,q2.ext e (by rw[q3];exact hs b ob (List.mem_of_getElem? q1) hne q3)⟩
theorem Inv.put {C:Cx}{h h':Heap}{ρ:List Addr}{obs:List Ob}{i:Nat}{a:Addr}{o:Ob}(I:Inv C h ρ obs)(hi:ρ[i]?=some a)(hs:∀ b o,b≠a→h.get? b=some o→h'.get? b=some o)(r:OR C h' ρ o a):Inv C h' ρ (obs.set i o):=by
 have ha:a∈ρ:=List.mem_of_getElem? hi
 refine I.put' hi (.put ha hs) (fun b o _=>hs b o) (fun b o' hb=>hs b o' (fun q=>?_) (I.base b o' hb)) (fun b o' hb=>?_) r
 ·have:=(I.new a ha).1;rw[← q,hb] at this;cases this
 ·by_cases q:b=a
  ·subst q;exact r.there
  ·exact⟨o',hs b o' q hb⟩
theorem Mv.hide {C:Cx}{N:Addr→Prop}{x:Aux}{h h':Heap}{ρ:List Addr}(g:Grows h h')(hN:∀ b,N b→h.get? b=none):Mv ρ.length C h ρ (C.hide N x) h' ρ :=
 ⟨⟨_,_,rfl⟩,fun _ _ _ q=>q,fun b o hb hf _=>⟨g b o hb,hf.1,fun q=>q.elim hf.2 fun q=>by exact no_eq hb (hN b q)⟩⟩
theorem Mv.show {C:Cx}{N:Addr→Prop}{x:Aux}{h:Heap}{ρ:List Addr}:Mv ρ.length (C.hide N x) h ρ C h ρ :=
 ⟨⟨C.off,C.aux,rfl⟩,fun _ _ _ q=>q,fun b o hb hf _=>⟨hb,hf.1,fun q=>hf.2 (.inl q)⟩⟩
theorem Inv.hide {C:Cx}{N:Addr→Prop}{x:Aux}{h h':Heap}{ρ:List Addr}{obs:List Ob}(I:Inv C h ρ obs)(g:Grows h h')(hN:∀ b,N b→h.get? b=none∧∃ o,h'.get? b=some o):Inv (C.hide N x) h' ρ obs :=
 have I':=I.grows g
 ⟨I'.base,I.len,I.nodup,I.sys,fun a ha=>⟨(I.new a ha).1,fun q=>q.elim (I.new a ha).2 fun q=>by obtain⟨o,ho⟩:=I.mem ha;exact no_eq ho ((hN a q).1)⟩,fun a q=>q.elim (I'.hid a) fun q=>(hN a q).2,
  fun i o ho=>let ⟨a,h1,h2⟩:=I.ob i o ho;⟨a,h1,h2.move (.hide g fun b q=>(hN b q).1) h2.lt (by obtain⟨o,q⟩:=h2.there;rw[q];exact g a o q)⟩⟩
theorem Inv.show {C:Cx}{N:Addr→Prop}{x:Aux}{h:Heap}{ρ:List Addr}{obs:List Ob}(I:Inv (C.hide N x) h ρ obs):Inv C h ρ obs :=
 ⟨I.base,I.len,I.nodup,I.sys,fun a ha=>⟨(I.new a ha).1,fun q=>(I.new a ha).2 (.inl q)⟩,fun a q=>I.hid a (.inl q),fun i o ho=>let ⟨a,h1,h2⟩:=I.ob i o ho;⟨a,h1,h2.move .show h2.lt rfl⟩⟩
theorem VR.show {C:Cx}{N:Addr→Prop}{z:Aux}{h:Heap}{ρ:List Addr}{v:V}{x:Value}(r:VR (C.hide N z) h ρ v x):VR C h ρ v x:=r.move .show r.lt
theorem Mv.drop {C:Cx}{h:Heap}{ρ t:List Addr}:Mv ρ.length C h (ρ++t) C h ρ :=
 ⟨⟨C.off,C.aux,rfl⟩,fun i a hi q=>by rw[List.getElem?_append_left hi] at q;exact q,fun b o hb hf _=>⟨hb,fun q=>hf.1 (List.mem_append_left t q),hf.2⟩⟩
theorem allO_some {α β:Type}{f:α→Option β}:∀ {l:List α} {r:List β},allO f l=some r→l.length=r.length∧∀ (i:Nat) (a:α),l[i]?=some a→∃ b,f a=some b∧r[i]?=some b
 | [],r,h=>by obtain rfl:=Option.some.inj h;exact⟨rfl,fun i a q=>by simp at q⟩
 | x::l,r,h=>by
  unfold allO at h
  split at h
  ·rename_i b l' h1 h2
   obtain rfl:=Option.some.inj h
   obtain⟨q1,q2⟩:=allO_some h2
   refine⟨by simp[q1],fun i a q=>?_⟩
   cases i with
   | zero=>simp at q;subst q;exact⟨b,h1,rfl⟩
   | succ i=>simp at q;simpa using q2 i a q
  ·cases h
theorem vrs_of {C:Cx}{h:Heap}{ρ ρ':List Addr}{f:V→Option V}(hf:∀ v v' x,f v=some v'→VR C h ρ' v x→VR C h ρ v' x):∀ {vs vs':List V} {xs:List Value},allO f vs=some vs'→VRs C h ρ' vs xs→VRs C h ρ vs' xs
 | [],vs',xs,e,r=>by obtain rfl:=Option.some.inj e;exact r
 | v::vs,vs',xs,e,r=>by
  obtain⟨x,xs,rfl,r1,r2⟩:=r
  unfold allO at e
  split at e
  ·rename_i b l' h1 h2
   obtain rfl:=Option.some.inj e
   exact⟨x,xs,rfl,hf v b x h1 r1,vrs_of hf h2 r2⟩
  ·cases e
theorem Inv.above {C:Cx}{h:Heap}{ρ t:List Addr}{obs:List Ob}(I:Inv C h (ρ++t) obs){i:Nat}{a:Addr}(hi:ρ.length≤i)(ha:(ρ++t)[i]?=some a):Free C ρ a:=by
 refine⟨fun q=>?_,(I.new a (List.mem_of_getElem? ha)).2⟩
 rw[List.getElem?_append_right hi] at ha
 exact (List.nodup_append.mp I.nodup).2.2 a q a (List.mem_of_getElem? ha) rfl
theorem Inv.at {C:Cx}{h:Heap}{ρ:List Addr}{obs:List Ob}(I:Inv C h ρ obs){i:Nat}{a:Addr}{o:Ob}(ha:ρ[i]?=some a)(ho:obs[i]?=some o):OR C h ρ o a:=by
 obtain⟨a',h1,h2⟩:=I.ob i o ho
 obtain rfl:=some_eq ha h1
 exact h2
theorem res_ok {C:Cx}{h:Heap}{ρ t:List Addr}{o:List Ob}(I:Inv C h (ρ++t) o):∀ (k:Nat) (v v':V) (x:Value),res ρ.length o k v=some v'→VR C h (ρ++t) v x→VR C h ρ v' x
 | 0,v,v',x,e,_=>by cases e
 | k+1,v,v',x,e,r=>by
  unfold res at e
  split at e
  ·rename_i hl
   obtain rfl:=Option.some.inj e
   exact r.move .drop hl
  ·rename_i hl
   split at e
   ·rename_i vs
    obtain⟨vs',h1,rfl⟩:=Option.map_eq_some_iff.mp e
    obtain⟨a,items,rfl,ht,hf,hr⟩:=r
    exact⟨a,items,rfl,ht,⟨fun q=>hf.1 (List.mem_append_left t q),hf.2⟩,vrs_of (fun v v' x=>res_ok I k v v' x) h1 hr⟩
   ·rename_i i
    have hi:ρ.length≤i:=Nat.le_of_not_lt fun q=>hl (decide_eq_true q)
    obtain⟨a,rfl,ha⟩:=r
    split at e
    ·rename_i xs ho
     obtain⟨vs',h1,rfl⟩:=Option.map_eq_some_iff.mp e
     obtain⟨items,n,h2,h3⟩:=I.at ha ho
     exact⟨a,items,n,rfl,h2,I.above hi ha,vrs_of (fun v v' x=>res_ok I k v v' x) h1 h3⟩
    ·rename_i j es ho
     obtain⟨vs',h1,rfl⟩:=Option.map_eq_some_iff.mp e
     obtain⟨kvs,h2,h3⟩:=I.at ha ho
     exact⟨a,kvs,rfl,h2.of,⟨I.above hi ha,(I.new a (List.mem_of_getElem? ha)).1⟩,by rw[h3.1,List.map_map];rfl,vrs_of (fun v v' x=>res_ok I k v v' x) h1 h3.2⟩
    ·cases e
   ·cases e
theorem resO_ok {C:Cx}{h:Heap}{ρ t:List Addr}{o:List Ob}(I:Inv C h (ρ++t) o){x x':Ob}{a:Addr}(e:resO ρ.length o x=some x')(r:OR C h (ρ++t) x a):OR C h ρ x' a:=by
 unfold resO at e
 split at e
 ·rename_i hl
  obtain rfl:=Option.some.inj e
  exact r.move .drop hl rfl
 ·split at e
  ·obtain⟨vs',h1,rfl⟩:=Option.map_eq_some_iff.mp e
   obtain⟨items,n,h2,h3⟩:=r
   exact⟨items,n,h2,vrs_of (fun v v' x=>res_ok I 4 v v' x) h1 h3⟩
  ·cases e
theorem Inv.below {C:Cx}{h:Heap}{ρ t:List Addr}{o' ob:List Ob}(I:Inv C h (ρ++t) o')(hl:ob.length=ρ.length)(hk:∀ (i:Nat) (x:Ob) (a:Addr),ob[i]?=some x→(ρ++t)[i]?=some a→OR C h ρ x a):Inv C h ρ ob :=
 ⟨I.base,hl.symm,(List.nodup_append.mp I.nodup).1,I.sys,fun a ha=>I.new a (List.mem_append_left t ha),I.hid,fun i x hx=>by
  have hi:i<ρ.length:=hl▸(List.getElem?_eq_some_iff.mp hx).1
  have ha:=List.getElem?_append_left (l₂:=t) hi
  rw[List.getElem?_eq_getElem hi] at ha
  exact⟨_,List.getElem?_eq_getElem hi,hk i x _ hx ha⟩⟩
theorem Inv.keeps {C C₀:Cx}{h h₀:Heap}{ρ t:List Addr}{o o' ob:List Ob}(I₀:Inv C₀ h₀ ρ o)(I:Inv C h (ρ++t) o')(hk:keepL o o'=some ob):Inv C h ρ ob:=by
 have hlen:=I₀.len
 have hle:o.length≤o'.length:=by rw[← hlen,← I.len,List.length_append];exact Nat.le_add_right ..
 have get:∀ {i:Nat} {x:Ob},(o'.take o.length)[i]?=some x→o'[i]?=some x:=fun {i x} q=>by
  rw[List.getElem?_take] at q
  split at q
  ·exact q
  ·cases q
 unfold keepL at hk
 split at hk
 ·rename_i e
  obtain rfl:=Option.some.inj hk
  refine I.below hlen.symm fun i x a hx ha=>?_
  obtain⟨_,_,r⟩:=I₀.ob i x hx
  exact (I.at ha (get (e.symm▸hx))).move .drop r.lt rfl
 ·obtain⟨h1,h2⟩:=allO_some hk
  rw[List.length_take_of_le hle] at h1
  refine I.below (h1.symm.trans hlen.symm) fun i x a hx ha=>?_
  have hi:i<(o'.take o.length).length:=by rw[List.length_take_of_le hle,h1];exact (List.getElem?_eq_some_iff.mp hx).1
  obtain⟨y,hy⟩:∃ y,(o'.take o.length)[i]?=some y:=⟨_,List.getElem?_eq_getElem hi⟩
  obtain⟨x',q1,q2⟩:=h2 i y hy
  obtain rfl:=some_eq hx q2
  rw[← hlen] at q1
  exact resO_ok I q1 (I.at ha (get hy))
end Mine
namespace Mine
set_option backward.match.sparseCases false
open PySem PyProof.Rows
noncomputable def KeepO (o:Obj)(h':Heap)(b:Addr):Prop:=h'.get? b=some o∨(o.cls=.type "frame" ∧ ∃ sl,h'.get? b=some { o with slots:=sl })
theorem KeepO.data {o:Obj}{h':Heap}{b:Addr}(k:KeepO o h' b):∃ o',h'.get? b=some o'∧o'.cls=o.cls∧o'.data=o.data∧o'.dict=o.dict:=by
 rcases k with k | ⟨_,sl,k⟩
 ·exact⟨o,k,rfl,rfl,rfl⟩
 ·exact⟨_,k,rfl,rfl,rfl⟩
theorem KeepO.trans {o:Obj}{h h':Heap}{b:Addr}(k:KeepO o h b)(k':∀ o',h.get? b=some o'→KeepO o' h' b):KeepO o h' b:=by
 rcases k with k | ⟨hc,sl,k⟩
 ·exact k' o k
 ·rcases k' _ k with q | ⟨_,sl',q⟩
  ·exact .inr ⟨hc,sl,q⟩
  ·exact .inr ⟨hc,sl',q⟩
theorem KeepO.val {o:Obj}{h':Heap}{b:Addr}(k:KeepO o h' b)(hv:o.cls≠.type "frame"):h'.get? b=some o:=by
 rcases k with k | ⟨hc,_⟩
 ·exact k
 ·exact absurd hc hv
theorem isVal_cls {o:Obj}(h:isVal o=true):o.cls≠.type "frame" := fun q=>by
 unfold isVal at h;rw[q] at h;revert h;decide
noncomputable def Aside (C:Cx)(h:Heap)(b:Addr):Prop:=C.off b∨∀ o,h.get? b=some o→isVal o=false
theorem Aside.no {C:Cx}{h:Heap}{ρ:List Addr}{b:Addr}{o:Obj}(a:Aside C h b)(hb:h.get? b=some o)(hf:Free C ρ b)(hv:isVal o=true):False:=by
 rcases a with q | q
 ·exact hf.2 q
 ·exact bool_no hv (q o hb)
structure Ext (S:Addr→Prop)(s:Shared)(ρ:List Addr)(s':Shared)(ρ':List Addr):Prop where
 pre:∃ t,ρ'=ρ++t
 fresh:∀ a:Addr,a∈ρ'→a∈ρ∨s.heap.get? a=none
 keep:∀ (b:Addr) (o:Obj),s.heap.get? b=some o→b∉ρ→¬ S b→KeepO o s'.heap b
 alive:∀ (b:Addr) (o:Obj),s.heap.get? b=some o→∃ o',s'.heap.get? b=some o'
 gens:s'.gens=s.gens
 drawn:s'.drawn=s.drawn
 os:s'.os=s.os
noncomputable def Nil (_:Addr):Prop:=False
noncomputable def Own (env:Env)(b:Addr):Prop:=b=env.locals∨∃ x,env.kindOf x=some .cell∧env.cells.lookup x=some b
theorem Ext.refl (S:Addr→Prop)(s:Shared)(ρ:List Addr):Ext S s ρ s ρ :=
 ⟨⟨[],by simp⟩,fun _ h=>.inl h,fun _ _ h _ _=>.inl h,fun _ o h=>⟨o,h⟩,rfl,rfl,rfl⟩
theorem Ext.apart {S:Addr→Prop}{s s':Shared}{ρ ρ':List Addr}(x:Ext S s ρ s' ρ'){b:Addr}{o:Obj}(hb:s.heap.get? b=some o)(hn:b∉ρ):b∉ρ':=fun hm=>by
 rcases x.fresh b hm with q | q
 ·exact hn q
 ·exact no_eq hb q
theorem Ext.was {S:Addr→Prop}{s s':Shared}{ρ ρ':List Addr}(x:Ext S s ρ s' ρ'){a:Addr}(h:s'.heap.get? a=none):s.heap.get? a=none:=by
 cases q:s.heap.get? a with
 | none=>rfl
 | some o=>obtain⟨o',h'⟩:=x.alive a o q;exact no_eq h' h
theorem Ext.trans {S:Addr→Prop}{s s' s'':Shared}{ρ ρ' ρ'':List Addr}(x:Ext S s ρ s' ρ')(y:Ext S s' ρ' s'' ρ''):Ext S s ρ s'' ρ'' :=
 ⟨by obtain⟨t,rfl⟩:=x.pre;obtain⟨u,rfl⟩:=y.pre;exact⟨t++u,by rw[List.append_assoc]⟩,
  fun a ha=>by
   rcases y.fresh a ha with q | q
   ·exact x.fresh a q
   ·exact .inr (x.was q),
  fun b o hb hn hS=>(x.keep b o hb hn hS).trans fun o' ho'=>y.keep b o' ho' (x.apart hb hn) hS,
  fun b o hb=>let ⟨o',h'⟩:=x.alive b o hb;y.alive b o' h',y.gens.trans x.gens,y.drawn.trans x.drawn,y.os.trans x.os⟩
theorem Ext.mono {S T:Addr→Prop}{s s':Shared}{ρ ρ':List Addr}(x:Ext S s ρ s' ρ')(h:∀ b,S b→T b):Ext T s ρ s' ρ' :=
 ⟨x.pre,x.fresh,fun b o hb hn hT=>x.keep b o hb hn fun q=>hT (h b q),x.alive,x.gens,x.drawn,x.os⟩
theorem Ext.nil {T:Addr→Prop}{s s':Shared}{ρ ρ':List Addr}(x:Ext Nil s ρ s' ρ'):Ext T s ρ s' ρ':=x.mono fun _ q=>q.elim
theorem Ext.extV {C:Cx}{S:Addr→Prop}{s s':Shared}{ρ ρ':List Addr}(x:Ext S s ρ s' ρ')(hS:∀ b,S b→Aside C s.heap b):ExtV C s.heap ρ s'.heap ρ' :=
 ⟨x.pre,fun b o hb hn hv=>⟨(x.keep b o hb hn.1 fun q=>(hS b q).no hb hn hv).val (isVal_cls hv),x.apart hb hn.1⟩⟩
theorem Ext.extN {C:Cx}{s s':Shared}{ρ ρ':List Addr}(x:Ext Nil s ρ s' ρ'):ExtV C s.heap ρ s'.heap ρ':=x.extV fun _ q=>q.elim
theorem Ext.toks {S:Addr→Prop}{s:Shared}{ρ:List Addr}(t:Nat):Ext S s ρ { s with toks:=t } ρ:=⟨⟨[],by simp⟩,fun _ h=>.inl h,fun _ _ h _ _=>.inl h,fun _ o h=>⟨o,h⟩,rfl,rfl,rfl⟩
theorem Ext.grows {S:Addr→Prop}{s:Shared}{ρ:List Addr}{h':Heap}{t:Nat}(g:Grows s.heap h'):Ext S s ρ { s with heap:=h',toks:=t } ρ :=
 ⟨⟨[],by simp⟩,fun _ h=>.inl h,fun b o h _ _=>.inl (g b o h),fun b o h=>⟨o,g b o h⟩,rfl,rfl,rfl⟩
theorem Ext.take {S:Addr→Prop}{s:Shared}{ρ:List Addr}{h':Heap}{t:Nat}{a:Addr}(g:Grows s.heap h')(ha:s.heap.get? a=none):Ext S s ρ { s with heap:=h',toks:=t } (ρ++[a]) :=
 ⟨⟨[a],rfl⟩,fun b hb=>by
  rcases List.mem_append.mp hb with q | q
  ·exact .inl q
  ·cases List.mem_singleton.mp q;exact .inr ha,fun b o h _ _=>.inl (g b o h),fun b o h=>⟨o,g b o h⟩,rfl,rfl,rfl⟩
theorem Ext.put {S:Addr→Prop}{s:Shared}{ρ:List Addr}{h':Heap}{t:Nat}{a:Addr}{o':Obj}(ha:a∈ρ)(hs:∀ b o,b≠a→s.heap.get? b=some o→h'.get? b=some o)(ho:h'.get? a=some o'):Ext S s ρ { s with heap:=h',toks:=t } ρ :=
 ⟨⟨[],by simp⟩,fun _ h=>.inl h,fun b o h hn _=>.inl (hs b o (fun q=>hn (q▸ha)) h),fun b o h=>by
  by_cases q:b=a
  ·subst q;exact⟨o',ho⟩
  ·exact⟨o,hs b o q h⟩,rfl,rfl,rfl⟩
noncomputable def Loads (h:Heap)(env:Env)(x:Str)(val:Value):Prop :=
 (env.kindOf x=some .local∧∃ m,h.Ns env.locals m∧m x=some val)∨(env.kindOf x=some .cell∧∃ c,env.cells.lookup x=some c∧h.IsCell c (some val))
noncomputable def isFrm:Bool→Obj→Prop
 | true,o=>o.cls=.type "frame" ∧ ∃ es n,o.data=.dict es n
 | false,o=>∃ k vs,o.cls=.ref k∧o.data=.fields vs∧vs[2]?=some .none
noncomputable def isFA (C:Cx)(b:Addr):Prop:=(∃ env∈C.aux.frs,env.frame=some b)∨C.aux.hot=some b
noncomputable def HotAt (C:Cx)(h:Heap)(ρ:List Addr)(e:Addr):Prop:=∃ o,h.get? e=some o∧isFrm false o∧e∉ρ∧C.base.get? e=none
noncomputable abbrev FrsOk (C:Cx)(h:Heap)(ρ:List Addr):Prop :=
 (∀ env∈C.aux.frs,env.scope.kind≠.module∧∃ L o,env.frame=some L∧h.get? L=some o∧isFrm true o∧L∉ρ∧C.base.get? L=none)∧∀ e,C.aux.hot=some e→HotAt C h ρ e
theorem FrsOk.fr {C:Cx}{h:Heap}{ρ:List Addr}(F:FrsOk C h ρ):∀ env∈C.aux.frs,env.scope.kind≠.module∧∃ L o,env.frame=some L∧h.get? L=some o∧isFrm true o∧L∉ρ∧C.base.get? L=none:=F.1
theorem FrsOk.hx {C:Cx}{h:Heap}{ρ:List Addr}(F:FrsOk C h ρ):∀ e,C.aux.hot=some e→HotAt C h ρ e:=F.2
noncomputable def NoF (o:Obj):Prop:=∃ n,o.cls=.type n∧n ≠ "frame"
theorem noFrm {b:Bool}{o:Obj}{t:String}(h:o.cls=.type t)(hn:t ≠ "frame"):¬ isFrm b o:=by
 cases b with
 | true=>exact fun f=>hn (by have:=f.1;rw[h] at this;injection this)
 | false=>exact fun ⟨k,_,q,_⟩=>by rw[h] at q;cases q
theorem NoF.no {t:Bool}{o:Obj}(h:NoF o):¬ isFrm t o:=let ⟨_,h1,h2⟩:=h;noFrm h1 h2
theorem NoF.cls {o:Obj}(h:NoF o):o.cls≠.type "frame" := let ⟨_,h1,h2⟩:=h;fun q=>h2 (by rw[h1] at q;injection q)
theorem isFrm.keep {t:Bool}{o:Obj}{h':Heap}{b:Addr}(f:isFrm t o)(k:KeepO o h' b):∃ o',h'.get? b=some o'∧isFrm t o':=by
 obtain⟨o',h1,h2,h3,_⟩:=k.data
 cases t with
 | true=>exact⟨o',h1,h2.trans f.1,by rw[h3];exact f.2⟩
 | false=>obtain⟨k,vs,f1,f2,f3⟩:=f;exact⟨o',h1,k,vs,h2.trans f1,h3.trans f2,f3⟩
theorem FrsOk.fa {C:Cx}{h:Heap}{ρ:List Addr}(F:FrsOk C h ρ){b:Addr}(hb:isFA C b):∃ o,h.get? b=some o∧(∃ t,isFrm t o)∧C.base.get? b=none∧b∉ρ:=by
 rcases hb with ⟨env,h1,h2⟩ | hb
 ·obtain⟨_,L,o,g2,g3,g4,g5,g6⟩:=F.fr env h1
  obtain rfl:=some_eq h2 g2
  exact⟨o,g3,⟨_,g4⟩,g6,g5⟩
 ·obtain⟨o,g3,g4,g5,g6⟩:=F.hx b hb
  exact⟨o,g3,⟨_,g4⟩,g6,g5⟩
theorem FrsOk.to {C C':Cx}{h h':Heap}{ρ ρ':List Addr}(F:FrsOk C h ρ)(hf:C'.aux=C.aux)(hb:C'.base=C.base)(hk:∀ {t:Bool} b o,isFA C b→h.get? b=some o→b∉ρ→isFrm t o→C.base.get? b=none→∃ o',h'.get? b=some o'∧isFrm t o')(hr:∀ {t:Bool} b o,isFA C b→h.get? b=some o→b∉ρ→isFrm t o→b∉ρ'):FrsOk C' h' ρ':=by
 refine⟨fun env he=>?_,fun e he=>?_⟩
 ·rw[hf] at he
  obtain⟨h1,L,o,h2,h3,h4,h5,h6⟩:=F.fr env he
  obtain⟨o',h7,h8⟩:=hk L o (.inl ⟨env,he,h2⟩) h3 h5 h4 h6
  exact⟨h1,L,o',h2,h7,h8,hr L o (.inl ⟨env,he,h2⟩) h3 h5 h4,by rw[hb];exact h6⟩
 ·rw[hf] at he
  obtain⟨o,h3,h4,h5,h6⟩:=F.hx e he
  obtain⟨o',h7,h8⟩:=hk e o (.inr he) h3 h5 h4 h6
  exact⟨o',h7,h8,hr e o (.inr he) h3 h5 h4,by rw[hb];exact h6⟩
theorem FrsOk.grows {C:Cx}{h h':Heap}{ρ:List Addr}(F:FrsOk C h ρ)(g:Grows h h'):FrsOk C h' ρ:=F.to rfl rfl (fun b o _ hb _ hf _=>⟨o,g b o hb,hf⟩) fun _ _ _ _ q _=>q
structure Frm (C:Cx)(h:Heap)(ρ:List Addr)(env:Env)(sc:Scope)(ns:List Str)(vars:List (Option V)):Prop where
 len:vars.length=ns.length
 loc:∃ m,h.Ns env.locals m
 off:∀ b,Own env b→C.off b
 locN:env.locals∉ρ
 locB:C.base.get? env.locals=none
 cell:∀ x:Str,env.kindOf x=some .cell→∃ c v₀,env.cells.lookup x=some c∧h.IsCell c v₀∧c∉ρ∧C.base.get? c=none
 inj:∀ (x y:Str) (c:Addr),env.kindOf x=some .cell→env.kindOf y=some .cell→env.cells.lookup x=some c→env.cells.lookup y=some c→x=y
 vals:∀ (x:Str) (i:Nat) (v:V),isVar sc x=true→idxLast ns x=some i→vars[i]?=some (some v)→∃ val,Loads h env x val∧VR C h ρ v val
 frs:FrsOk C h ρ
structure EnvOk (env:Env)(sc:Scope):Prop where
 kind:env.scope.kind=.function
 glob:env.globals=mainGlobals
 blt:env.builtins=builtinsNs
 gl:∀ x:Str,isGlob sc x=true→env.kindOf x=some .globalImplicit
 lo:∀ x:Str,sc.names.lookup x=some .local→env.kindOf x=some .local
 ce:∀ x:Str,sc.names.lookup x=some .cell∨sc.names.lookup x=some .free→env.kindOf x=some .cell
 dbg:∀ x:Str,isGlob sc x=true∨isVar sc x=true→(x==("__debug__" : Str))=false
theorem EnvOk.vr {env:Env}{sc:Scope}(h:EnvOk env sc)(x:Str)(hx:isVar sc x=true):env.kindOf x=some .local∨env.kindOf x=some .cell:=by
 unfold isVar at hx
 split at hx
 ·rename_i e;exact .inl (h.lo x e)
 ·rename_i e;exact .inr (h.ce x (.inl e))
 ·rename_i e;exact .inr (h.ce x (.inr e))
 ·cases hx
structure State (C:Cx)(env:Env)(sc:Scope)(ns:List Str)(s:Shared)(ρ:List Addr)(st:St):Prop where
 inv:Inv C s.heap ρ st.obs
 frm:Frm C s.heap ρ env sc ns st.vars
theorem Frm.ext {C:Cx}{s s':Shared}{ρ ρ':List Addr}{env:Env}{sc:Scope}{ns:List Str}{vars:List (Option V)}(F:Frm C s.heap ρ env sc ns vars)(x:Ext Nil s ρ s' ρ'):Frm C s'.heap ρ' env sc ns vars:=by
 obtain⟨m,o,es,ep,ho,hd,hk⟩:=F.loc
 obtain⟨o',ho',_,hd',_⟩:=(x.keep _ o ho F.locN id).data
 have cells:∀ (c:Addr) (v:Option Value),s.heap.IsCell c v→c∉ρ→s'.heap.IsCell c v∧c∉ρ':=fun c v ⟨oc,hc,hcd⟩ hn =>
  let ⟨o₁,h1,_,h2,_⟩:=(x.keep c oc hc hn id).data;⟨⟨o₁,h1,h2.trans hcd⟩,x.apart hc hn⟩
 refine⟨F.len,⟨m,o',es,ep,ho',hd'.trans hd,hk⟩,F.off,x.apart ho F.locN,F.locB,fun y hy=>?_,F.inj,fun y i v h1 h2 h3=>?_,F.frs.to rfl rfl (fun b o _ hb hn hf _=>hf.keep (x.keep b o hb hn id)) fun b o _ hb hn _=>x.apart hb hn⟩
 ·obtain⟨c,v₀,q1,q2,q3,q4⟩:=F.cell y hy
  exact⟨c,v₀,q1,(cells c v₀ q2 q3).1,(cells c v₀ q2 q3).2,q4⟩
 ·obtain⟨val,hl,hv⟩:=F.vals y i v h1 h2 h3
  refine⟨val,?_,hv.ext x.extN⟩
  rcases hl with ⟨k,m₁,⟨o₁,es₁,ep₁,ho₁,hd₁,hk₁⟩,hm⟩ | ⟨k,c,q1,q2⟩
  ·obtain rfl:=some_eq ho ho₁
   exact .inl ⟨k,m₁,⟨o',es₁,ep₁,ho',hd'.trans hd₁,hk₁⟩,hm⟩
  ·obtain⟨c',v₀,r1,_,r3,_⟩:=F.cell y k
   obtain rfl:=some_eq q1 r1
   exact .inr ⟨k,c,q1,(cells c _ q2 r3).1⟩
theorem State.toks {C:Cx}{env:Env}{sc:Scope}{ns:List Str}{s:Shared}{ρ:List Addr}{st:St}(S:State C env sc ns s ρ st)(t:Nat):State C env sc ns { s with toks:=t } ρ st:=⟨S.inv,S.frm⟩
theorem State.grows {C:Cx}{env:Env}{sc:Scope}{ns:List Str}{s:Shared}{ρ:List Addr}{st:St}(S:State C env sc ns s ρ st){h':Heap}(g:Grows s.heap h')(t:Nat):State C env sc ns { s with heap:=h',toks:=t } ρ st :=
 ⟨S.inv.grows g,S.frm.ext (Ext.grows (t:=t) g)⟩
theorem Frm.vars {C:Cx}{h:Heap}{ρ:List Addr}{env:Env}{sc:Scope}{ns:List Str}{vars:List (Option V)}(F:Frm C h ρ env sc ns vars):Frm C h ρ env sc ns vars:=F
theorem Frm.hide {C:Cx}{env:Env}{sc:Scope}{ns:List Str}{N:Addr→Prop}{h h':Heap}{ρ:List Addr}{vars:List (Option V)}(F:Frm C h ρ env sc ns vars)(g:Grows h h')(hN:∀ b,N b→h.get? b=none):Frm (C.hide N) h' ρ env sc ns vars:=by
 have cells:∀ (c:Addr) (v:Option Value),h.IsCell c v→h'.IsCell c v:=fun c v ⟨oc,h1,h2⟩=>⟨oc,g c oc h1,h2⟩
 have nsK:∀ {m},h.Ns env.locals m→h'.Ns env.locals m:=fun ⟨o,es,ep,h1,h2⟩=>⟨o,es,ep,g _ o h1,h2⟩
 refine⟨F.len,F.loc.imp fun m hm=>nsK hm,fun b q=>.inl (F.off b q),F.locN,F.locB,fun x hx=>?_,F.inj,fun x i v h1 h2 h3=>?_,F.frs.grows g⟩
 ·obtain⟨c,v₀,q1,q2,q3⟩:=F.cell x hx
  exact⟨c,v₀,q1,cells c v₀ q2,q3⟩
 ·obtain⟨val,hl,hv⟩:=F.vals x i v h1 h2 h3
  refine⟨val,?_,hv.move (.hide g hN) hv.lt⟩
  rcases hl with ⟨k,m,hm,hx⟩ | ⟨k,c,q1,q2⟩
  ·exact .inl ⟨k,m,nsK hm,hx⟩
  ·exact .inr ⟨k,c,q1,cells c _ q2⟩
structure Fly (C:Cx)(h₀ h:Heap)(N:Addr→Prop)(c:Str)(e:Addr):Prop where
 new:∀ b,N b→h₀.get? b=none∧¬ C.off b
 it:N e
 obj:∃ k o vs a0,C.mg c=some (.ref k)∧h.get? e=some o∧o.cls=.ref k∧o.data=.fields vs∧(vs[0]?=some a0∧vs[2]?=some .none) ∧
  (vs[1]?=some .none∨∃ T oT ts,vs[1]?=some (.ref T)∧T≠e∧h.get? T=some oT∧oT.data=.fields ts∧ts[3]?=some .none∧N T)
noncomputable def Raised (C:Cx)(env:Env)(sc:Scope)(ns:List Str)(s:Shared)(ρ:List Addr)(c:Str)(st':St)(x:Value)(s':Shared)(ρ':List Addr):Prop :=
 ∃ e N,x=.ref e∧State (C.hide N) env sc ns s' ρ' st'∧Ext (Own env) s ρ s' ρ'∧Fly C s.heap s'.heap N c e
theorem Fly.back {C:Cx}{h₀ h₁ h:Heap}{N:Addr→Prop}{c:Str}{e:Addr}(f:Fly C h₁ h N c e)(hb:∀ a,h₁.get? a=none→h₀.get? a=none):Fly C h₀ h N c e:=⟨fun b q=>⟨hb b (f.new b q).1,(f.new b q).2⟩,f.it,f.obj⟩
theorem Raised.trans {C:Cx}{S:Addr→Prop}{env:Env}{sc:Scope}{ns:List Str}{s s₁ s':Shared}{ρ ρ₁ ρ':List Addr}{c:Str}{st:St}{x:Value}(r:Raised C env sc ns s₁ ρ₁ c st x s' ρ')(e:Ext S s ρ s₁ ρ₁)(hS:∀ b,S b→Own env b):Raised C env sc ns s ρ c st x s' ρ' :=
 let ⟨a,N,r0,r1,r2,r4⟩:=r;⟨a,N,r0,r1,(e.mono hS).trans r2,r4.back fun _ q=>e.was q⟩
structure AOk (x:Aux)(d:Nat)(A:Around):Prop where
 depth:A.depth+3*d+3≤990
 units:A.units+100*d+200≤9900
 handled:x.hot=none→A.handled=none
 exc:∀ e,x.hot=some e→A.handled=some (.ref e)
 guards:A.guards=some []
 frames:A.frames=some x.frs
theorem AOk.lt {x:Aux}{d:Nat}{A:Around}(h:AOk x d A){j:Nat}(hj:j<200:=by decide):A.units+j<9900:=Nat.lt_of_lt_of_le (Nat.add_lt_add_of_le_of_lt (Nat.le_add_right _ _) hj) h.units
noncomputable def Snd {α β:Type}(C:Cx)(d:Nat)(env:Env)(sc:Scope)(ns:List Str)(R:Heap→List Addr→α→β→Prop)(S:Addr→Prop)(t:Sem β)(m:M α):Prop :=
 ∀ (A:Around) (s:Shared) (ρ:List Addr) (st:St) (Q:β→Shared→Prop) (E:Value→Shared→Prop) (X:Str→St→Prop),
  AOk C.aux d A→State C env sc ns s ρ st →
  wpM m st (fun v st'=>∀ val s' ρ',R s'.heap ρ' v val→State C env sc ns s' ρ' st'→Ext S s ρ s' ρ'→Q val s') X →
  (∀ c st' x s' ρ',X c st'→Raised C env sc ns s ρ c st' x s' ρ'→E x s') →
  wpAny (model C.prog C.w) A t Q E s
noncomputable def Bl (_:Heap)(_:List Addr)(b b':Bool):Prop:=b=b'
noncomputable def Un {α:Type}(_:Heap)(_:List Addr)(_:α)(_:Unit):Prop:=True
abbrev SndE (C:Cx)(d:Nat)(env:Env)(sc:Scope)(ns:List Str)(e:Expr)(m:M V):Prop:=Snd C d env sc ns (VR C) Nil (eval e env) m
abbrev SndB (C:Cx)(d:Nat)(env:Env)(sc:Scope)(ns:List Str)(e:Expr)(m:M Bool):Prop:=Snd C d env sc ns Bl Nil (isTrue e env (eval e env)) m
section
variable {C:Cx}{d:Nat}{env:Env}{sc:Scope}{ns:List Str}
theorem snd_const {c:Const}{k:Nat}{pos:Pos}{v:V}(h:dConst c=some v):SndE C d env sc ns (.Constant c k pos) (constM v):=by
 intro A s ρ st Q E X hA hS hw _
 cases c with
 | none=>obtain rfl:=Option.some.inj h;exact wpAny_pure (hw _ _ _ rfl hS (.refl ..))
 | bool b=>obtain rfl:=Option.some.inj h;exact wpAny_pure (hw _ _ _ rfl hS (.refl ..))
 | int i=>obtain rfl:=Option.some.inj h;exact wpAny_Constant_int (hw _ _ _ ⟨_,rfl⟩ (hS.toks _) (.toks _))
 | str x=>obtain rfl:=Option.some.inj h;exact wpAny_Constant_str (hw _ _ _ ⟨_,rfl⟩ (hS.toks _) (.toks _))
 | _=>cases h
theorem snd_var {x:Str}{pos:Pos}{i:Nat}(hE:EnvOk env sc)(hx:isVar sc x=true)(hi:idxLast ns x=some i):SndE C d env sc ns (.Name x pos) (varM i):=by
 intro A s ρ st Q E X hA hS hw _
 obtain⟨v,hv,hw⟩:=wpM_getVar.mp hw
 obtain⟨val,hl,hr⟩:=hS.frm.vals x i v hx hi hv
 refine wpAny_Name ?_ (hE.dbg x (.inr hx))
 rcases hl with ⟨k,m,hm,hmx⟩ | ⟨k,c,q1,q2⟩
 ·exact wpAny_loadName_local hE.kind k hm hmx (hw _ _ _ hr hS (.refl ..))
 ·exact wpAny_loadName_cell hE.kind k q1 q2 (hw _ _ _ hr hS (.refl ..))
noncomputable def At {α β:Type}(C:Cx)(d:Nat)(env:Env)(sc:Scope)(ns:List Str)(R:Heap→List Addr→α→β→Prop)(S:Addr→Prop)(t:Sem β)(m:M α)(s:Shared)(ρ:List Addr)(st:St):Prop :=
 ∀ (A:Around) (Q:β→Shared→Prop) (E:Value→Shared→Prop) (X:Str→St→Prop),AOk C.aux d A→State C env sc ns s ρ st →
  wpM m st (fun v st'=>∀ val s' ρ',R s'.heap ρ' v val→State C env sc ns s' ρ' st'→Ext S s ρ s' ρ'→Q val s') X →
  (∀ c st' x s' ρ',X c st'→Raised C env sc ns s ρ c st' x s' ρ'→E x s')→wpAny (model C.prog C.w) A t Q E s
noncomputable def Rest {α β:Type}(C:Cx)(env:Env)(sc:Scope)(ns:List Str)(R:Heap→List Addr→α→β→Prop)(S:Addr→Prop)(Q:β→Shared→Prop)(E:Value→Shared→Prop)(X:Str→St→Prop)(m:M α)(s:Shared)(ρ:List Addr)(st:St):Prop :=
 wpM m st (fun v st'=>∀ val s' ρ',R s'.heap ρ' v val→State C env sc ns s' ρ' st'→Ext S s ρ s' ρ'→Q val s') X ∧
 ∀ c st' x s' ρ',X c st'→Raised C env sc ns s ρ c st' x s' ρ'→E x s'
theorem At.of {α β:Type}{R:Heap→List Addr→α→β→Prop}{S:Addr→Prop}{t:Sem β}{m:M α}{s:Shared}{ρ:List Addr}{st:St}
  (h:∀ (A:Around) (Q:β→Shared→Prop) (E:Value→Shared→Prop) (X:Str→St→Prop),AOk C.aux d A→State C env sc ns s ρ st→Rest C env sc ns R S Q E X m s ρ st→wpAny (model C.prog C.w) A t Q E s) :
  At C d env sc ns R S t m s ρ st:=fun A Q E X hA hS hw hX=>h A Q E X hA hS ⟨hw,hX⟩
theorem Snd.of {α β:Type}{R:Heap→List Addr→α→β→Prop}{S:Addr→Prop}{t:Sem β}{m:M α}
  (h:∀ (A:Around) (s:Shared) (ρ:List Addr) (st:St) (Q:β→Shared→Prop) (E:Value→Shared→Prop) (X:Str→St→Prop),AOk C.aux d A→State C env sc ns s ρ st→Rest C env sc ns R S Q E X m s ρ st→wpAny (model C.prog C.w) A t Q E s) :
  Snd C d env sc ns R S t m:=fun A s ρ st Q E X hA hS hw hX=>h A s ρ st Q E X hA hS ⟨hw,hX⟩
theorem At.go {α β:Type}{R:Heap→List Addr→α→β→Prop}{S:Addr→Prop}{t:Sem β}{m:M α}{s:Shared}{ρ:List Addr}{st:St}{A:Around}{Q:β→Shared→Prop}{E:Value→Shared→Prop}{X:Str→St→Prop}
  (h:At C d env sc ns R S t m s ρ st) (hA:AOk C.aux d A) (hS:State C env sc ns s ρ st) (hr:Rest C env sc ns R S Q E X m s ρ st):wpAny (model C.prog C.w) A t Q E s:=h A Q E X hA hS hr.1 hr.2
theorem Snd.go {α β:Type}{R:Heap→List Addr→α→β→Prop}{S:Addr→Prop}{t:Sem β}{m:M α}{s:Shared}{ρ:List Addr}{st:St}{A:Around}{Q:β→Shared→Prop}{E:Value→Shared→Prop}{X:Str→St→Prop}
  (h:Snd C d env sc ns R S t m) (hA:AOk C.aux d A) (hS:State C env sc ns s ρ st) (hr:Rest C env sc ns R S Q E X m s ρ st):wpAny (model C.prog C.w) A t Q E s:=h A s ρ st Q E X hA hS hr.1 hr.2
theorem Rest.mono {α β:Type}{R:Heap→List Addr→α→β→Prop}{S:Addr→Prop}{Q:β→Shared→Prop}{E:Value→Shared→Prop}{X:Str→St→Prop}{m:M α}{s s₁:Shared}{ρ ρ₁:List Addr}{st:St}
  (e:Ext S s ρ s₁ ρ₁) (e₀:Ext (Own env) s ρ s₁ ρ₁) (h:wpM m st (fun v st'=>∀ val s' ρ',R s'.heap ρ' v val→State C env sc ns s' ρ' st'→Ext S s ρ s' ρ'→Q val s') X) (hX:∀ c st' x s' ρ',X c st'→Raised C env sc ns s ρ c st' x s' ρ'→E x s'):Rest C env sc ns R S Q E X m s₁ ρ₁ st :=
 ⟨wpM_mono h (fun _ _ h val' s' ρ' r' S' e'=>h val' s' ρ' r' S' (e.trans e')) fun _ _ h=>h,fun c st' x s' ρ' hx r=>hX c st' x s' ρ' hx (r.trans e₀ fun _ q=>q)⟩
theorem Snd.then {α β α' β':Type}{R:Heap→List Addr→α→β→Prop}{R':Heap→List Addr→α'→β'→Prop}{S:Addr→Prop}{t:Sem β}{m:M α}{g:α→M α'}{P:β→Shared→Prop}
  {A:Around} {s:Shared} {ρ:List Addr} {st:St} {Q:β'→Shared→Prop} {E:Value→Shared→Prop} {X:Str→St→Prop}
  (h1:Snd C d env sc ns R Nil t m) (hA:AOk C.aux d A) (hS:State C env sc ns s ρ st) (hr:Rest C env sc ns R' S Q E X (m.bind g) s ρ st)
  (h2:∀ v val s₁ ρ₁ st₁,R s₁.heap ρ₁ v val→State C env sc ns s₁ ρ₁ st₁→Ext Nil s ρ s₁ ρ₁→Rest C env sc ns R' S Q E X (g v) s₁ ρ₁ st₁→P val s₁) :
  wpAny (model C.prog C.w) A t P E s :=
 h1 A s ρ st _ E X hA hS (wpM_mono (wpM_bind.mp hr.1) (fun v st₁ hw₁ val s₁ ρ₁ r S₁ e₁=>h2 v val s₁ ρ₁ st₁ r S₁ e₁ (.mono e₁.nil e₁.nil hw₁ hr.2)) fun _ _ h=>h) hr.2
theorem At.then {α β α' β':Type}{R:Heap→List Addr→α→β→Prop}{R':Heap→List Addr→α'→β'→Prop}{S:Addr→Prop}{t:Sem β}{m:M α}{g:α→M α'}{P:β→Shared→Prop}
  {A:Around} {s:Shared} {ρ:List Addr} {st:St} {Q:β'→Shared→Prop} {E:Value→Shared→Prop} {X:Str→St→Prop}
  (h1:At C d env sc ns R Nil t m s ρ st) (hA:AOk C.aux d A) (hS:State C env sc ns s ρ st) (hr:Rest C env sc ns R' S Q E X (m.bind g) s ρ st)
  (h2:∀ v val s₁ ρ₁ st₁,R s₁.heap ρ₁ v val→State C env sc ns s₁ ρ₁ st₁→Ext Nil s ρ s₁ ρ₁→Rest C env sc ns R' S Q E X (g v) s₁ ρ₁ st₁→P val s₁) :
  wpAny (model C.prog C.w) A t P E s :=
 h1 A _ E X hA hS (wpM_mono (wpM_bind.mp hr.1) (fun v st₁ hw₁ val s₁ ρ₁ r S₁ e₁=>h2 v val s₁ ρ₁ st₁ r S₁ e₁ (.mono e₁.nil e₁.nil hw₁ hr.2)) fun _ _ h=>h) hr.2
theorem snd_bin {l r:Expr}{op:Operator}{pos:Pos}{a b:M V}(hl:SndE C d env sc ns l a)(hr:SndE C d env sc ns r b)
  (hop:∀ x y vx vy s ρ st,VR C s.heap ρ x vx→VR C s.heap ρ y vy→At C d env sc ns (VR C) Nil (binaryOp op vx vy) (binV op x y) s ρ st) :
  SndE C d env sc ns (.BinOp l op r pos) (binM op a b):=.of fun A s ρ st Q E X hA hS hw=>by
 refine wpAny_BinOp (hl.then hA hS hw fun x vx s₁ ρ₁ st₁ r₁ S₁ e₁ hw₁=>?_)
 exact hr.then hA S₁ hw₁ fun y vy s₂ ρ₂ st₂ r₂ S₂ e₂ hw₂=>(hop x y vx vy s₂ ρ₂ st₂ (r₁.ext e₂.extN) r₂).go hA S₂ hw₂
theorem snd_ife {t x y:Expr}{pos:Pos}{mt:M Bool}{a b:M V}(ht:SndB C d env sc ns t mt)(hl:SndE C d env sc ns x a)(hr:SndE C d env sc ns y b) :
  SndE C d env sc ns (.IfExp t x y pos) (iteM mt a b):=.of fun A s ρ st Q E X hA hS hw=>by
 refine wpAny_IfExp (ht.then hA hS hw fun v val s₁ ρ₁ st₁ r₁ S₁ e₁ hw₁=>?_)
 obtain rfl:=r₁
 cases v
 ·exact hr.go hA S₁ hw₁
 ·exact hl.go hA S₁ hw₁
theorem sndB_not {x:Expr}{pos:Pos}{m:M Bool}(h:SndB C d env sc ns x m):SndB C d env sc ns (.UnaryOp .Not x pos) (notM m):=.of fun A s ρ st Q E X hA hS hw =>
 wpAny_isTrue_Not (h.then hA hS hw fun v val s₁ ρ₁ st₁ r₁ S₁ e₁ hw₁=>by
  obtain rfl:=r₁;exact (wpM_pure.mp hw₁.1) _ _ _ rfl S₁ (.refl ..))
theorem sndB_value {e:Expr}{m:M V}(h:SndE C d env sc ns e m)(he:isTrue e env (eval e env)=(do let v ← eval e env;standAt e.pos;holding [v] (truthy v))):SndB C d env sc ns e (evB m):=.of fun A s ρ st Q E X hA hS hw =>
 wpAny_isTrue_value (h.then hA hS hw fun v val s₁ ρ₁ st₁ r₁ S₁ e₁ hw₁=>by
  obtain⟨b,rfl,hb⟩:=wpM_asBool.mp hw₁.1
  obtain rfl:=r₁
  exact wpAny_truthy_bool (hb _ _ _ rfl S₁ (.refl ..))) he
end
noncomputable def All2 {α β:Type}(P:α→β→Prop):List α→List β→Prop
 | [],[]=>True
 | a::l,b::r=>P a b∧All2 P l r
 | _,_=>False
theorem All2.len {α β:Type}{P:α→β→Prop}:∀ {l:List α} {r:List β},All2 P l r→l.length=r.length
 | [],[],_=>rfl
 | _::_,_::_,h=>congrArg (·+1) (All2.len h.2)
 | [],_::_,h=>h.elim
 | _::_,[],h=>h.elim
section
variable {C:Cx}{d:Nat}{env:Env}{sc:Scope}{ns:List Str}
theorem snd_andB:∀ {es:List Expr} {ms:List (M Bool)},All2 (SndB C d env sc ns) es ms→Snd C d env sc ns Bl Nil (allTrue .And es env) (andM ms)
 | [],[],_=>.of fun A s ρ st Q E X hA hS hw=>wpAny_allTrue_And_nil (hw.1 _ _ _ rfl hS (.refl ..))
 | e::es,m::ms,h=>.of fun A s ρ st Q E X hA hS hw=>by
  refine wpAny_allTrue_And_cons (h.1.then hA hS hw fun v val s₁ ρ₁ st₁ r₁ S₁ e₁ hw₁=>?_)
  obtain rfl:=r₁
  cases v
  ·exact hw₁.1 _ _ _ rfl S₁ (.refl ..)
  ·exact (snd_andB h.2).go hA S₁ hw₁
 | [],_::_,h=>h.elim
 | _::_,[],h=>h.elim
theorem snd_orB:∀ {es:List Expr} {ms:List (M Bool)},All2 (SndB C d env sc ns) es ms→Snd C d env sc ns Bl Nil (allTrue .Or es env) (orM ms)
 | [],[],_=>.of fun A s ρ st Q E X hA hS hw=>wpAny_allTrue_Or_nil (hw.1 _ _ _ rfl hS (.refl ..))
 | e::es,m::ms,h=>.of fun A s ρ st Q E X hA hS hw=>by
  refine wpAny_allTrue_Or_cons (h.1.then hA hS hw fun v val s₁ ρ₁ st₁ r₁ S₁ e₁ hw₁=>?_)
  obtain rfl:=r₁
  cases v
  ·exact (snd_orB h.2).go hA S₁ hw₁
  ·exact hw₁.1 _ _ _ rfl S₁ (.refl ..)
 | [],_::_,h=>h.elim
 | _::_,[],h=>h.elim
theorem sndB_and {es:List Expr}{pos:Pos}{ms:List (M Bool)}(h:All2 (SndB C d env sc ns) es ms):SndB C d env sc ns (.BoolOp .And es pos) (andM ms):=.of fun A s ρ st Q E X hA hS hw =>
 wpAny_isTrue_BoolOp ((snd_andB h).go hA hS hw)
theorem sndB_or {es:List Expr}{pos:Pos}{ms:List (M Bool)}(h:All2 (SndB C d env sc ns) es ms):SndB C d env sc ns (.BoolOp .Or es pos) (orM ms):=.of fun A s ρ st Q E X hA hS hw =>
 wpAny_isTrue_BoolOp ((snd_orB h).go hA hS hw)
theorem snd_and:∀ {es:List Expr} {pos:Pos} {ms:List (M V)},es≠[]→All2 (SndE C d env sc ns) es ms→SndE C d env sc ns (.BoolOp .And es pos) (boolV (andM (ms.map evB)))
 | [],_,_,h,_=>absurd rfl h
 | [e],pos,[m],_,h=>.of fun A s ρ st Q E X hA hS hw=>by
  refine BoolOp_one (h.1.go hA hS ⟨?_,hw.2⟩)
  have h1:=hw.1
  simp only[boolV,andM,evB,List.map,wpM_bind] at h1
  refine wpM_mono h1 (fun v st₁ h2 val s' ρ' r S' e'=>?_) fun _ _ h=>h
  obtain⟨b,rfl,h3⟩:=wpM_asBool.mp h2
  cases b <;> simp only[Bool.false_eq_true,if_false,if_true,wpM_pure] at h3 <;> exact h3 val s' ρ' r S' e'
 | e::e'::es,pos,m::m'::ms,_,h=>.of fun A s ρ st Q E X hA hS hw=>by
  have hw':Rest C env sc ns (VR C) Nil Q E X (m.bind fun v=>(asBool v).bind fun b=>(if b then andM ((m'::ms).map evB) else M.pure false).bind fun b=>M.pure (.bool b)) s ρ st:=by
   refine⟨?_,hw.2⟩
   have h1:=hw.1
   simp only[boolV,andM,evB,List.map_cons,wpM_bind] at h1 ⊢
   exact h1
  refine BoolOp_and (h.1.then hA hS hw' fun v val s₁ ρ₁ st₁ r₁ S₁ e₁ hw₁=>?_)
  obtain⟨b,rfl,h3⟩:=wpM_asBool.mp (wpM_bind.mp hw₁.1)
  obtain rfl:=r₁
  refine wpAny_truthy_bool ?_
  cases b
  ·exact h3 _ _ _ rfl S₁ (.refl ..)
  ·exact (snd_and (List.cons_ne_nil _ _) h.2).go hA S₁ ⟨h3,hw₁.2⟩
 | [_],_,[],_,h=>h.elim
 | [_],_,_::_::_,_,h=>h.2.elim
 | _::_::_,_,[],_,h=>h.elim
 | _::_::_,_,[_],_,h=>h.2.elim
theorem snd_or:∀ {es:List Expr} {pos:Pos} {ms:List (M V)},es≠[]→All2 (SndE C d env sc ns) es ms→SndE C d env sc ns (.BoolOp .Or es pos) (boolV (orM (ms.map evB)))
 | [],_,_,h,_=>absurd rfl h
 | [e],pos,[m],_,h=>.of fun A s ρ st Q E X hA hS hw=>by
  refine BoolOp_one (h.1.go hA hS ⟨?_,hw.2⟩)
  have h1:=hw.1
  simp only[boolV,orM,evB,List.map,wpM_bind] at h1
  refine wpM_mono h1 (fun v st₁ h2 val s' ρ' r S' e'=>?_) fun _ _ h=>h
  obtain⟨b,rfl,h3⟩:=wpM_asBool.mp h2
  cases b <;> simp only[Bool.false_eq_true,if_false,if_true,wpM_pure] at h3 <;> exact h3 val s' ρ' r S' e'
 | e::e'::es,pos,m::m'::ms,_,h=>.of fun A s ρ st Q E X hA hS hw=>by
  have hw':Rest C env sc ns (VR C) Nil Q E X (m.bind fun v=>(asBool v).bind fun b=>(if b then M.pure true else orM ((m'::ms).map evB)).bind fun b=>M.pure (.bool b)) s ρ st:=by
   refine⟨?_,hw.2⟩
   have h1:=hw.1
   simp only[boolV,orM,evB,List.map_cons,wpM_bind] at h1 ⊢
   exact h1
  refine BoolOp_or (h.1.then hA hS hw' fun v val s₁ ρ₁ st₁ r₁ S₁ e₁ hw₁=>?_)
  obtain⟨b,rfl,h3⟩:=wpM_asBool.mp (wpM_bind.mp hw₁.1)
  obtain rfl:=r₁
  refine wpAny_truthy_bool ?_
  cases b
  ·exact (snd_or (List.cons_ne_nil _ _) h.2).go hA S₁ ⟨h3,hw₁.2⟩
  ·exact h3 _ _ _ rfl S₁ (.refl ..)
 | [_],_,[],_,h=>h.elim
 | [_],_,_::_::_,_,h=>h.2.elim
 | _::_::_,_,[],_,h=>h.elim
 | _::_::_,_,[_],_,h=>h.2.elim
theorem snd_not {x:Expr}{pos:Pos}{m:M V}(h:SndE C d env sc ns x m):SndE C d env sc ns (.UnaryOp .Not x pos) (boolV (notM (evB m))):=.of fun A s ρ st Q E X hA hS hw=>by
 have hw':Rest C env sc ns (VR C) Nil Q E X (m.bind fun v=>(asBool v).bind fun b=>M.pure (.bool (!b))) s ρ st:=by
  refine⟨?_,hw.2⟩
  have h1:=hw.1
  simp only[boolV,notM,evB,wpM_bind] at h1 ⊢
  exact h1
 refine wpAny_UnaryOp (h.then hA hS hw' fun v val s₁ ρ₁ st₁ r₁ S₁ e₁ hw₁=>?_)
 obtain⟨b,rfl,h3⟩:=wpM_asBool.mp (wpM_bind.mp hw₁.1)
 obtain rfl:=r₁
 exact not_of (wpAny_truthy_bool (h3 _ _ _ rfl S₁ (.refl ..)))
theorem snd_neg {x:Expr}{pos:Pos}{m:M V}(h:SndE C d env sc ns x m):SndE C d env sc ns (.UnaryOp .USub x pos) (negM m):=.of fun A s ρ st Q E X hA hS hw=>by
 refine wpAny_UnaryOp (h.then hA hS hw fun v val s₁ ρ₁ st₁ r₁ S₁ e₁ hw₁=>?_)
 obtain⟨b,rfl,h3⟩:=wpM_asInt.mp (wpM_bind.mp hw₁.1)
 obtain⟨t,rfl⟩:=r₁
 exact P.neg_int (h3 _ _ _ ⟨_,rfl⟩ (S₁.toks _) (.toks _))
noncomputable def RB (_:Heap)(_:List Addr)(b:Bool)(val:Value):Prop:=val=.bool b
noncomputable def CmpSnd (C:Cx)(d:Nat)(env:Env)(sc:Scope)(ns:List Str):Prop :=
 ∀ op x y vx vy s ρ st,VR C s.heap ρ x vx→VR C s.heap ρ y vy→At C d env sc ns RB Nil (compareOp op vx vy) (cmpV op x y) s ρ st
noncomputable def ChainR (C:Cx)(d:Nat)(env:Env)(sc:Scope)(ns:List Str):List CmpOp→List Expr→List (CmpOp×M V)→Prop
 | [],[],[]=>True
 | o::os,e::es,p::r=>o=p.1∧SndE C d env sc ns e p.2∧ChainR C d env sc ns os es r
 | _,_,_=>False
theorem snd_test (hc:CmpSnd C d env sc ns){pos:Pos}:∀ {ops:List CmpOp} {es:List Expr} {r:List (CmpOp×M V)} {x:V} {vx:Value} {s:Shared} {ρ:List Addr} {st:St},r≠[]→ChainR C d env sc ns ops es r→VR C s.heap ρ x vx →
  At C d env sc ns Bl Nil (testChain pos vx ops (evalEach es env)) (chainM x r) s ρ st
 | _,_,[],_,_,_,_,_,h,_,_=>absurd rfl h
 | [o],[e],[(o',m)],x,vx,s,ρ,st,_,h,hr=>.of fun A Q E X hA hS hw=>by
  obtain⟨rfl,h1,_⟩:=h
  refine test_last (h1.then hA hS hw fun y vy s₁ ρ₁ st₁ r₁ S₁ e₁ hw₁=>?_)
  refine (hc o x y vx vy s₁ ρ₁ st₁ (hr.ext e₁.extN) r₁) A _ E X hA S₁ (wpM_mono hw₁.1 (fun b st' h val s' ρ' r' S' e'=>?_) fun _ _ h=>h) hw₁.2
  obtain rfl:=r'
  exact wpAny_truthy_bool (h _ _ _ rfl S' e')
 | o::o₂::os,e::e₂::es,(o',m)::p::r,x,vx,s,ρ,st,_,h,hr=>.of fun A Q E X hA hS hw=>by
  obtain⟨rfl,h1,h2⟩:=h
  refine test_link (h1.then hA hS hw fun y vy s₁ ρ₁ st₁ r₁ S₁ e₁ hw₁=>?_)
  refine (hc o x y vx vy s₁ ρ₁ st₁ (hr.ext e₁.extN) r₁).then hA S₁ hw₁ fun b val s₂ ρ₂ st₂ r₂ S₂ e₂ hw₂=>?_
  obtain rfl:=r₂
  refine wpAny_truthy_bool ?_
  cases b
  ·exact hw₂.1 _ _ _ rfl S₂ (.refl ..)
  ·exact (snd_test hc (List.cons_ne_nil _ _) h2 (r₁.ext e₂.extN)).go hA S₂ hw₂
 | [],[],_::_,_,_,_,_,_,_,h,_=>h.elim
 | [],_::_,_::_,_,_,_,_,_,_,h,_=>h.elim
 | _::_,[],_::_,_,_,_,_,_,_,h,_=>h.elim
 | [_],[_],_::_::_,_,_,_,_,_,_,h,_=>h.2.2.elim
 | [_],_::_::_,[_],_,_,_,_,_,_,h,_=>h.2.2.elim
 | [_],_::_::_,_::_::_,_,_,_,_,_,_,h,_=>h.2.2.elim
 | _::_::_,[_],[_],_,_,_,_,_,_,h,_=>h.2.2.elim
 | _::_::_,[_],_::_::_,_,_,_,_,_,_,h,_=>h.2.2.elim
 | _::_::_,_::_::_,[_],_,_,_,_,_,_,h,_=>h.2.2.elim
theorem snd_chain (hc:CmpSnd C d env sc ns){pos:Pos}:∀ {ops:List CmpOp} {es:List Expr} {r:List (CmpOp×M V)} {x:V} {vx:Value} {s:Shared} {ρ:List Addr} {st:St},r≠[]→ChainR C d env sc ns ops es r→VR C s.heap ρ x vx →
  At C d env sc ns RB Nil (compareChain pos vx ops (evalEach es env)) (chainM x r) s ρ st
 | _,_,[],_,_,_,_,_,h,_,_=>absurd rfl h
 | [o],[e],[(o',m)],x,vx,s,ρ,st,_,h,hr=>.of fun A Q E X hA hS hw=>by
  obtain⟨rfl,h1,_⟩:=h
  refine chain_last (h1.then hA hS hw fun y vy s₁ ρ₁ st₁ r₁ S₁ e₁ hw₁=>?_)
  exact (hc o x y vx vy s₁ ρ₁ st₁ (hr.ext e₁.extN) r₁).go hA S₁ hw₁
 | o::o₂::os,e::e₂::es,(o',m)::p::r,x,vx,s,ρ,st,_,h,hr=>.of fun A Q E X hA hS hw=>by
  obtain⟨rfl,h1,h2⟩:=h
  refine chain_link (h1.then hA hS hw fun y vy s₁ ρ₁ st₁ r₁ S₁ e₁ hw₁=>?_)
  refine (hc o x y vx vy s₁ ρ₁ st₁ (hr.ext e₁.extN) r₁).then hA S₁ hw₁ fun b val s₂ ρ₂ st₂ r₂ S₂ e₂ hw₂=>?_
  obtain rfl:=r₂
  refine wpAny_truthy_bool ?_
  cases b
  ·exact hw₂.1 _ _ _ rfl S₂ (.refl ..)
  ·exact (snd_chain hc (List.cons_ne_nil _ _) h2 (r₁.ext e₂.extN)).go hA S₂ hw₂
 | [],[],_::_,_,_,_,_,_,_,h,_=>h.elim
 | [],_::_,_::_,_,_,_,_,_,_,h,_=>h.elim
 | _::_,[],_::_,_,_,_,_,_,_,h,_=>h.elim
 | [_],[_],_::_::_,_,_,_,_,_,_,h,_=>h.2.2.elim
 | [_],_::_::_,[_],_,_,_,_,_,_,h,_=>h.2.2.elim
 | [_],_::_::_,_::_::_,_,_,_,_,_,_,h,_=>h.2.2.elim
 | _::_::_,[_],[_],_,_,_,_,_,_,h,_=>h.2.2.elim
 | _::_::_,[_],_::_::_,_,_,_,_,_,_,h,_=>h.2.2.elim
 | _::_::_,_::_::_,[_],_,_,_,_,_,_,h,_=>h.2.2.elim
theorem sndB_cmp (hc:CmpSnd C d env sc ns){l:Expr}{ops:List CmpOp}{cs:List Expr}{pos:Pos}{a:M V}{r:List (CmpOp×M V)}(hl:SndE C d env sc ns l a)(hr:ChainR C d env sc ns ops cs r)(hn:r≠[])(hm:lastMarks ops cs=false) :
  SndB C d env sc ns (.Compare l ops cs pos) (cmpM a r):=.of fun A s ρ st Q E X hA hS hw=>by
 rw[arm_isTrue_Compare,markedEach_of_false _ _ _ hm]
 exact wpAny_bind (hl.then hA hS hw fun x vx s₁ ρ₁ st₁ r₁ S₁ e₁ hw₁=>(snd_test hc hn hr r₁).go hA S₁ hw₁)
theorem snd_cmp (hc:CmpSnd C d env sc ns){l:Expr}{ops:List CmpOp}{cs:List Expr}{pos:Pos}{a:M V}{r:List (CmpOp×M V)}(hl:SndE C d env sc ns l a)(hr:ChainR C d env sc ns ops cs r)(hn:r≠[])(hm:lastMarks ops cs=false) :
  SndE C d env sc ns (.Compare l ops cs pos) (boolV (cmpM a r)):=.of fun A s ρ st Q E X hA hS hw=>by
 have hw':Rest C env sc ns (VR C) Nil Q E X (a.bind fun x=>(chainM x r).bind fun b=>M.pure (.bool b)) s ρ st:=by
  refine⟨?_,hw.2⟩
  have h1:=hw.1
  simp only[boolV,cmpM,wpM_bind] at h1 ⊢
  exact h1
 show wpAny _ _ (do compareChain pos (← eval l env) ops (markedEach ops cs (evalEach cs env))) Q E s
 rw[markedEach_of_false _ _ _ hm]
 refine wpAny_bind (hl.then hA hS hw' fun x vx s₁ ρ₁ st₁ r₁ S₁ e₁ hw₁=>?_)
 refine (snd_chain hc hn hr r₁).then hA S₁ hw₁ fun b val s₂ ρ₂ st₂ r₂ S₂ e₂ hw₂=>?_
 obtain rfl:=r₂
 exact hw₂.1 _ _ _ rfl S₂ (.refl ..)
end
end Mine
namespace Mine
set_option backward.match.sparseCases false
open PySem PyProof.Rows
noncomputable def HandOk (A:Around)(h:Heap):Prop:=∀ v,A.handled=some v→∃ e o,v=.ref e∧h.get? e=some o∧isFrm false o
theorem AOk.hand {C:Cx}{h:Heap}{ρ:List Addr}{d:Nat}{A:Around}(hA:AOk C.aux d A)(F:FrsOk C h ρ):HandOk A h:=fun v hv=>by
 cases q:C.aux.hot with
 | none=>exact no_eq hv (hA.handled q)
 | some e =>
  obtain⟨o,h1,h2,_⟩:=F.hx e q
  exact⟨e,o,some_eq hv (hA.exc e q),h1,h2⟩
theorem HandOk.at {A:Around}{h h':Heap}(H:HandOk A h)(hk:∀ e o,h.get? e=some o→isFrm false o→h'.get? e=some o):HandOk A h':=fun v hv =>
 let ⟨e,o,h1,h2,h3⟩:=H v hv;⟨e,o,h1,hk e o h2 h3,h3⟩
theorem entry_unchain:entryFor table "proto.unchain" = some Builtin.«proto.unchain»:=entryFor_of_tree (by kernel_rfl)
section
variable {prog:Program}{w:World}{A:Around}{E:Value→Shared→Prop}{s:Shared}
theorem raise_new {α:Type}{Q:α→Shared→Prop}{a:Addr}{oa:Obj}{vs:Array Value}(hH:HandOk A s.heap)(ha:s.heap.get? a=some oa)(hd:oa.data=.fields vs)(hsz:2<vs.size)(hne:∀ e,A.handled=some (.ref e)→e≠a)
  (hE:∀ h' oa',Heap.SameBut a s.heap h'→h'.get? a=some oa'→oa'.cls=oa.cls→E (.ref a) { s with heap:=h' }):wpAny (model prog w) A (raiseNew (.ref a):Sem α) Q E s:=by
 unfold raiseNew
 refine wpAny_bind (wpAny_handled ?_)
 cases hh:A.handled with
 | none=>exact wpAny_bind (wpAny_pure (wpAny_throw (hE s.heap oa (Heap.SameBut.refl ..) ha rfl)))
 | some v =>
  obtain⟨e,o,rfl,h1,k,ws,h2,h3,h4⟩:=hH v hh
  have hn:=hne e hh
  dsimp only
  rw[if_pos (show (Value.ref e != Value.ref a)=true from by simp[hn])]
  refine wpAny_bind (wpAny_holding (wpAny_runValue (codeAny_builtin entry_unchain ?_)))
  unfold Builtin.«proto.unchain»
  dsimp only
  refine wpAny_bind (wpAny_field h1 h3 h4 ?_)
  rw[if_pos (show (Value.none==Value.none)=true from by decide)]
  refine wpAny_bind (wpAny_pure (wpAny_pure ?_))
  refine wpAny_bind (wpAny_setField (x:=.ref e) ha hd hsz (wpAny_throw (hE _ _ (Heap.SameBut.update ..) (Heap.get?_update_self _ ha (Obj.isFreed_of_fields (Obj.data_mapFields hd _))) (Obj.cls_mapFields ..))))
theorem mk_raise {α:Type}{T:String}{vs:Array Value}{Q:α→Shared→Prop}(hH:HandOk A s.heap)(hsz:2<vs.size)(hok:sizeOk (.fields vs))
  (hE:∀ h' oa,(∀ b o,s.heap.get? b=some o→h'.get? b=some o)→h'.get? s.heap.objs.size=some oa→oa.cls=.type T→E (.ref s.heap.objs.size) { s with heap:=h' }):wpAny (model prog w) A (newObj (.type T) (.fields vs) >>= fun e=>(raiseNew e:Sem α)) Q E s:=by
 have ne:∀ {e:Addr} {o:Obj},s.heap.get? e=some o→e≠s.heap.objs.size:=fun h=>Nat.ne_of_lt (Heap.lt_size h)
 refine wpAny_bind (wpAny_newObj_type (raise_new (vs:=vs) (hH.at fun e o h1 _=>Heap.get?_push_of_some _ h1) (Heap.get?_push_size _ rfl) rfl hsz (fun e he=>?_) fun h' oa hs ha hc=>hE h' oa (fun b o q=>?_) ha hc) hok)
 ·obtain⟨e',o,h1,h2,_⟩:=hH _ he
  cases h1
  exact ne h2
 ·exact (hs.2 b (ne q)).trans (Heap.get?_push_of_some _ q)
theorem stop_end {α:Type}{it:Addr}{o:Obj}{vs:Array Value}{T:String}{Q:α→Shared→Prop}(hH:HandOk A s.heap)(ho:s.heap.get? it=some o)(hc:o.cls=.type T)(hd:o.data=.fields vs)(h0:0<vs.size)
  (hE:∀ h' a oa,Heap.ExtBut it s.heap h'→h'.get? a=some oa→oa.cls=.type "StopIteration" → E (.ref a) { s with heap:=h' }):wpAny (model prog w) A (PySem.setField (.ref it) 0 .none >>= fun _=>(Builtin.SmallTypes.stopIteration:Sem α)) Q E s:=by
 refine wpAny_bind (wpAny_setField ho hd h0 ?_)
 unfold Builtin.SmallTypes.stopIteration newExc newTuple
 rw[bind_assoc]
 refine wpAny_bind (wpAny_newObj_type ?_ (by size_fits))
 rw[bind_assoc]
 refine wpAny_bind (m:=firstArgMember _ _) (wpAny_of_eq (a:=Value.none) (by first | rfl | (simp only[firstArgMember];rfl)) ?_)
 have x:Heap.ExtBut it s.heap ((s.heap.update it (Obj.mapFields (·.setIfInBounds 0 Value.none))).push { cls:=.type "tuple", data:=.seq #[] }):=(Heap.SameBut.update ..).extBut.push _
 refine mk_raise (hH.at fun e o' h1 h2=>x e o' (fun q=>?_) h1) (Nat.le_of_ble_eq_true rfl) (by size_fits) fun h' oa hk ha hca=>hE h' _ oa (fun b o' hb q=>hk b o' (x b o' hb q)) ha hca
 obtain⟨k,_,h3,_⟩:=h2
 subst q
 obtain rfl:=some_eq ho h1
 rw[hc] at h3;cases h3
theorem list_end {it l:Addr}{i:Nat}{items:Array Value}{Q:Option Value→Shared→Prop}(hH:HandOk A s.heap)(hit:s.heap.IsListIter it l i)(hl:s.heap.IsList l items)(hx:items[i]?=none)
  (hQ:∀ h',Heap.ExtBut it s.heap h'→Q none { s with heap:=h' }):wpAny (model prog w) A (pyNext (.ref it)) Q E s:=by
 obtain⟨o,ho,hc,hd⟩:=id hit
 obtain⟨ol,hol,_,n,hdl⟩:=hl
 unfold pyNext
 refine wpAny_bind (wpAny_attempt (wpAny_callSpecial?_slot (name:=Str.ofString "__next__") hit.typeIs slot_listiter_next (wpAny_call_entry slot_listiter_next hit.typeIs entry_listiter_next ?_ (args_listiter_next _))))
 show wpAny _ _ (field (.ref it) 0 >>= _) _ _ s
 refine wpAny_bind (wpAny_field ho hd (x:=.ref l) rfl ?_)
 rw[if_neg (show ¬ ((Value.ref l==Value.none)=true) from Bool.false_ne_true)]
 refine wpAny_bind (wpAny_field ho hd (x:=.int i 0) rfl (wpAny_bind (wpAny_seqItems hol hdl ?_)))
 simp only[Int.toNat_natCast,hx]
 refine wpAny_bind (wpAny_rule (stop_end (A:=A.in1) hH ho hc hd (Nat.le_of_ble_eq_true rfl) fun h' a oa hk ha hca=>?_))
 exact wpAny_bind (wpAny_isInstance (T := "StopIteration") (b:=true) ⟨_,ha,hca⟩ isSubtype_stop (wpAny_pure (hQ h' hk)))
theorem tuple_end {it l:Addr}{i:Nat}{items:Array Value}{Q:Option Value→Shared→Prop}(hH:HandOk A s.heap)(hit:s.heap.IsTupleIter it l i)(hl:s.heap.IsTuple l items)(hx:items[i]?=none)
  (hQ:∀ h',Heap.ExtBut it s.heap h'→Q none { s with heap:=h' }):wpAny (model prog w) A (pyNext (.ref it)) Q E s:=by
 obtain⟨o,ho,hc,hd⟩:=id hit
 obtain⟨ol,hol,_,n,hdl⟩:=hl
 unfold pyNext
 refine wpAny_bind (wpAny_attempt (wpAny_callSpecial?_slot (name:=Str.ofString "__next__") hit.typeIs F.slot_tuple_iterator_next (wpAny_call_entry F.slot_tuple_iterator_next hit.typeIs F.entry_tuple_iterator_next ?_ (F.args_tuple_iterator_next_1 _))))
 show wpAny _ _ (field (.ref it) 0 >>= _) _ _ s
 refine wpAny_bind (wpAny_field ho hd (x:=.ref l) rfl ?_)
 rw[if_neg (show ¬ ((Value.ref l==Value.none)=true) from Bool.false_ne_true)]
 refine wpAny_bind (wpAny_field ho hd (x:=.int i 0) rfl (wpAny_bind (wpAny_seqItems hol hdl ?_)))
 simp only[Int.toNat_natCast,hx]
 refine wpAny_bind (wpAny_rule (stop_end (A:=A.in1) hH ho hc hd (Nat.le_of_ble_eq_true rfl) fun h' a oa hk ha hca=>?_))
 exact wpAny_bind (wpAny_isInstance (T := "StopIteration") (b:=true) ⟨_,ha,hca⟩ isSubtype_stop (wpAny_pure (hQ h' hk)))
theorem tuple_items {t:Addr}{items:Array Value}{Q:List Value→Shared→Prop}(hH:HandOk A s.heap)(ht:s.heap.IsTuple t items)
  (hQ:∀ h',Heap.ExtBut s.heap.objs.size s.heap h'→Q items.toList { s with heap:=h' }):wpAny (model prog w) A (unpackItems (.ref t) items.size none) Q E s:=by
 have hlt:t≠s.heap.objs.size:=let ⟨_,ho,_⟩:=ht;Nat.ne_of_lt (Heap.lt_size ho)
 unfold unpackItems notIterableAtAll
 refine wpAny_bind (wpAny_bind (wpAny_specialOf ht.typeIs F.slot_tuple_iter.lookup (wpAny_pure ?_)))
 rw[if_neg (by decide)]
 refine wpAny_bind (wpAny_holding (wpAny_pyIter_tuple ht (wpAny_bind (wpAny_holding (wpAny_draw_tuple hlt items.size 0 _ _ ⟨_,Heap.get?_push_size _ rfl,rfl,rfl⟩ (ht.push _) (Nat.le_of_eq (Nat.zero_add _)) fun h₁ hit hs=>?_)))))
 rw[List.drop_zero,List.take_of_length_le (Nat.le_of_eq Array.length_toList),if_neg (by simp)]
 refine wpAny_bind (wpAny_holding (tuple_end (hH.at fun e o' h1 h2=>?_) hit ((ht.push _).extBut hs.extBut hlt) (by simp) fun h₂ he=>?_))
 ·exact hs.extBut e o' (Nat.ne_of_lt (Heap.lt_size h1)) (Heap.get?_push_of_some _ h1)
 ·rw[if_neg (by decide)]
  exact wpAny_pure (hQ h₂ fun b o' hb q=>he b o' hb (hs.extBut b o' hb (Heap.get?_push_of_some _ q)))
theorem tuple_to {env:Env}{elts:List Expr}{x1:Nat}{pos:Pos}{t:Addr}{items:Array Value}{Q:Unit→Shared→Prop}(hH:HandOk A s.heap)(ht:s.heap.IsTuple t items)
  (hn:(assignEach elts env).length=items.size) (hstar:(assignEach elts env).findIdx? (·.1)=none)
  (h:∀ h',Heap.ExtBut s.heap.objs.size s.heap h'→wpAny (model prog w) A (assignInOrder ((assignEach elts env).map (·.2)) items.toList) Q E { s with heap:=h' }) :
  wpAny (model prog w) A (assign (.Tuple elts x1 pos) env (.ref t)) Q E s:=by
 rw[arm_assign_Tuple]
 refine wpAny_bind (wpAny_standAt ?_)
 unfold unpack
 rw[hn,hstar]
 exact wpAny_bind (wpAny_holding (tuple_items hH ht h))
end
end Mine
namespace Mine
set_option backward.match.sparseCases false
open PySem PyProof.Rows
theorem idxLast_get:∀ {ns:List Str} {x:Str} {i:Nat},idxLast ns x=some i→ns[i]?=some x
 | [],_,_,h=>by cases h
 | y::r,x,i,h=>by
  unfold idxLast at h
  cases q:idxLast r x with
  | some k=>rw[q] at h;cases h;simpa using idxLast_get q
  | none =>
   rw[q] at h
   dsimp only at h
   split at h
   ·rename_i e;cases h;simp[eq_of_beq e]
   ·cases h
section
variable {C:Cx}{d:Nat}{env:Env}{sc:Scope}{ns:List Str}
theorem own_aside {h h':Heap}{ρ:List Addr}{vars:List (Option V)}(F:Frm C h ρ env sc ns vars):∀ b,Own env b→Aside C h' b:=fun b q=>.inl (F.off b q)
theorem Own.notFields {h:Heap}{ρ:List Addr}{vars:List (Option V)}(F:Frm C h ρ env sc ns vars){b:Addr}{o:Obj}{vs:Array Value}(hb:h.get? b=some o)(hd:o.data=.fields vs):¬ Own env b:=by
 intro ho
 rcases ho with rfl | ⟨x,hk,hc⟩
 ·obtain⟨m,o',es,ep,ho',hd',_⟩:=F.loc
  obtain rfl:=some_eq hb ho';rw[hd] at hd';cases hd'
 ·obtain⟨c,v₀,q1,⟨o',q2,q3⟩,_⟩:=F.cell x hk
  obtain rfl:=some_eq hc q1;obtain rfl:=some_eq hb q2;rw[hd] at q3;cases q3
noncomputable def OwnV (env:Env)(x:Str)(b:Addr):Prop:=(env.kindOf x=some .local∧b=env.locals)∨(env.kindOf x=some .cell∧env.cells.lookup x=some b)
theorem OwnV.own {env:Env}{x:Str}{b:Addr}(h:OwnV env x b):Own env b:=h.elim (fun q=>.inl q.2) fun q=>.inr ⟨x,q⟩
theorem State.own {S:Addr→Prop}{s:Shared}{ρ:List Addr}{st:St}(hS:State C env sc ns s ρ st){a:Addr}{h':Heap}{t:Nat}{o':Obj}{vars':List (Option V)}(hown:Own env a)(hSa:S a)(hs:Heap.SameBut a s.heap h')(ho:h'.get? a=some o')
  (hb:C.base.get? a=none) (hn:a∉ρ) (hlen:vars'.length=ns.length) (hloc:∃ m,h'.Ns env.locals m)
  (hcell:∀ x:Str,env.kindOf x=some .cell→∃ c v₀,env.cells.lookup x=some c∧h'.IsCell c v₀)
  (hvals:∀ (x:Str) (i:Nat) (v:V),isVar sc x=true→idxLast ns x=some i→vars'[i]?=some (some v)→∃ val,Loads h' env x val∧VR C s.heap ρ v val) (hfr:∀ o,s.heap.get? a=some o→isFrm true o→isFrm true o') :
  State C env sc ns { s with heap:=h',toks:=t } ρ { st with vars:=vars' }∧Ext S s ρ { s with heap:=h',toks:=t } ρ:=by
 have keep:∀ b o,b≠a→s.heap.get? b=some o→h'.get? b=some o:=fun b o hne e=>(hs.2 b hne).trans e
 have eV:ExtV C s.heap ρ h' ρ:=⟨⟨[],by simp⟩,fun b o hb' hn' hv=>⟨keep b o (fun q=>by subst q;exact hn'.2 (hS.frm.off _ hown)) hb',hn'.1⟩⟩
 have alive:∀ b o,s.heap.get? b=some o→∃ o',h'.get? b=some o':=fun b o hb'=>by
  by_cases q:b=a
  ·subst q;exact⟨o',ho⟩
  ·exact⟨o,keep b o q hb'⟩
 refine⟨⟨hS.inv.ext (fun b o hbo=>keep b o (fun q=>by rw[q,hb] at hbo;cases hbo) (hS.inv.base b o hbo)) eV (fun b hb'=>hs.2 b fun q=>hn (q▸hb')) alive,⟨hlen,hloc,hS.frm.off,hS.frm.locN,hS.frm.locB,fun x hx=>?_,hS.frm.inj,fun x i v h1 h2 h3=>?_,hS.frm.frs.to rfl rfl (fun {tt} b o _ hb' _ hf _=>?_) fun _ _ _ _ q _=>q⟩⟩,
  ⟨⟨[],by simp⟩,fun _ h=>.inl h,fun b o hb' hn' hS'=>.inl (keep b o (fun q=>hS' (q▸hSa)) hb'),alive,rfl,rfl,rfl⟩⟩
 ·obtain⟨c,v₀,q1,q2⟩:=hcell x hx
  obtain⟨c',_,r1,_,r3,r4⟩:=hS.frm.cell x hx
  rw[q1] at r1;cases r1
  exact⟨c,v₀,q1,q2,r3,r4⟩
 ·obtain⟨val,q1,q2⟩:=hvals x i v h1 h2 h3
  exact⟨val,q1,q2.ext eV⟩
 ·by_cases q:b=a
  ·subst q
   cases tt with
   | true=>exact⟨o',ho,hfr o hb' hf⟩
   | false=>obtain⟨_,vs,_,f2,_⟩:=hf;exact absurd hown (Own.notFields hS.frm hb' f2)
  ·exact⟨o,keep b o q hb',hf⟩
theorem store_frm {M:Model}{A:Around}{x:Str}{m:Str→Option Value}{v:Value}{s:Shared}{Q:Unit→Shared→Prop}{E:Value→Shared→Prop}(hl:env.kindOf x=some .local)(hn:s.heap.Ns env.locals m)
  (hp:(env.scope.kind==.class || (env.scope.kind==.module&&env.locals != env.globals))=false) (k:wpAny M A (storeName env x v) Q E s) :
  wpAny M A (storeName env x v) (fun u s'=>Q u s'∧∀ o,s.heap.get? env.locals=some o→isFrm true o→∃ o',s'.heap.get? env.locals=some o'∧isFrm true o') E s:=by
 rw[storeName_local hl hp] at k ⊢
 intro Γ p hΓ
 have k:=k Γ p hΓ
 obtain⟨o,es,ep,ho,hd,hk,hm⟩:=hn
 have hany:es.any (·.refKey)=false:=by
  rw[Array.any_eq_false'];intro e he;obtain⟨n,t,h⟩:=hk e he;simp[DictEntry.refKey,h]
 simp only[nsSet,strHash,Sem.wp_bind',Sem.wp_cmd_ask,Sem.wp_pure',Sem.wp_cmd_mkText] at k ⊢
 rw[Sem.wp_loadPart_of M Γ _ p { s with toks:=s.toks+1 } (o:=o) _ ho] at k ⊢
 simp only[hd,aRefKeyMayBeTheName_eq,aRefKeyMayBeTheNameByArray,hany,Bool.and_false,Bool.false_eq_true,if_false,Sem.wp_cmd_updatePart] at k ⊢
 obtain⟨k1,k2⟩:=k
 refine⟨k1,k2,fun o₁ h1 hf=>?_⟩
 rw[ho] at h1
 cases h1
 obtain⟨c,d',dt,sl⟩:=o
 subst hd
 cases hi:es.findIdx? (·.key.isStr x) with
 | some i=>exact⟨_,Heap.get?_update_self _ ho (by simp only[Obj.putName_eq,Obj.putNameByArray,hi];rfl),by simp only[Obj.putName_eq,Obj.putNameByArray,hi];exact⟨hf.1,_,_,rfl⟩⟩
 | none=>exact⟨_,Heap.get?_update_self _ ho (by simp only[Obj.putName_eq,Obj.putNameByArray,hi];rfl),by simp only[Obj.putName_eq,Obj.putNameByArray,hi];exact⟨hf.1,_,_,rfl⟩⟩
theorem at_store {S:Addr→Prop}(hE:EnvOk env sc){x:Str}{i:Nat}{v:V}{val:Value}{s:Shared}{ρ:List Addr}{st:St}(hx:isVar sc x=true)(hi:idxLast ns x=some i)(hr:VR C s.heap ρ v val)(hSx:∀ b,OwnV env x b→S b) :
  At C d env sc ns Un S (storeName env x val) (setVar i v) s ρ st:=.of fun A Q E X hA hS hw=>by
 obtain⟨hlt,hw1⟩:=wpM_setVar.mp hw.1
 have hne:∀ {y:Str} {j:Nat},idxLast ns y=some j→y≠x→j≠i:=fun {y j} hj hy q=>by
  subst q
  have h1:=idxLast_get hj
  rw[idxLast_get hi] at h1;cases h1;exact hy rfl
 have same:∀ {y:Str} {j:Nat},idxLast ns y=some j→y=x→j=i:=fun {y j} hj hy=>by subst hy;rw[hi] at hj;cases hj;rfl
 have hset:(st.vars.set i (some v))[i]?=some (some v):=by rw[List.getElem?_set];simp[hlt]
 rcases hE.vr x hx with k | k
 ·obtain⟨m,hm⟩:=hS.frm.loc
  have hp:(env.scope.kind==.class || (env.scope.kind==.module&&env.locals != env.globals))=false:=by rw[hE.kind];rfl
  refine wpAny_mono (store_frm k hm hp (wpAny_storeName_local (Q:=fun _ s'=>∃ h',s'={ s with heap:=h',toks:=s.toks+1 }∧h'.Ns env.locals (fun y=>if y=x then some val else m y)∧Heap.SameBut env.locals s.heap h') k hm (fun h' a b=>⟨h',rfl,a,b⟩) hp)) (fun _ s' z=>?_) fun _ _ q=>q
  obtain⟨⟨h',rfl,hn',hs⟩,hfr⟩:=z
  obtain⟨o',_,_,ho',_⟩:=id hn'
  have hfr:∀ o,s.heap.get? env.locals=some o→isFrm true o→isFrm true o':=fun o h1 h2=>by
   obtain⟨o2,q1,q2⟩:=hfr o h1 h2
   rw[ho'] at q1;cases q1;exact q2
  have h5:∀ y:Str,env.kindOf y=some .cell→∃ c v₀,env.cells.lookup y=some c∧h'.IsCell c v₀:=fun y hy=>by
   obtain⟨c,v₀,q1,⟨oc,q2,q3⟩,_⟩:=hS.frm.cell y hy
   have hcl:c≠env.locals:=fun q=>by
    subst q
    obtain⟨ol,_,_,hol,hld,_⟩:=hm
    rw[q2] at hol;cases hol;rw[q3] at hld;cases hld
   exact⟨c,v₀,q1,oc,(hs.2 c hcl).trans q2,q3⟩
  have h6:∀ (y:Str) (j:Nat) (w:V),isVar sc y=true→idxLast ns y=some j→(st.vars.set i (some v))[j]?=some (some w)→∃ val,Loads h' env y val∧VR C s.heap ρ w val:=fun y j w h1 h2 h3=>by
   by_cases hy:y=x
   ·have:=same h2 hy;subst this;subst hy
    rw[hset] at h3;cases h3
    exact⟨val,.inl ⟨k,_,hn',by simp⟩,hr⟩
   ·rw[List.getElem?_set_ne (Ne.symm (hne h2 hy))] at h3
    obtain⟨val',hl,hv⟩:=hS.frm.vals y j w h1 h2 h3
    refine⟨val',?_,hv⟩
    rcases hl with ⟨k',m',hm',hmy⟩ | ⟨k',c,q1,oc,q2,q3⟩
    ·have hmm:m y=m' y:=by
      obtain⟨o1,e1,_,ho1,hd1,_,hf1⟩:=hm
      obtain⟨o2,e2,_,ho2,hd2,_,hf2⟩:=hm'
      rw[ho1] at ho2;cases ho2
      rw[hd1] at hd2;cases hd2
      rw[← hf1,← hf2]
     exact .inl ⟨k',_,hn',by simp[hy,hmm,hmy]⟩
    ·have hcl:c≠env.locals:=fun q=>by
      subst q
      obtain⟨ol,_,_,hol,hld,_⟩:=hm
      rw[q2] at hol;cases hol;rw[q3] at hld;cases hld
     exact .inr ⟨k',c,q1,oc,(hs.2 c hcl).trans q2,q3⟩
  obtain⟨S',e'⟩:=hS.own (t:=s.toks+1) (vars':=st.vars.set i (some v)) (.inl rfl) (hSx _ (.inl ⟨k,rfl⟩)) hs ho' hS.frm.locB hS.frm.locN (by simp[hS.frm.len]) ⟨_,hn'⟩ h5 h6 hfr
  exact hw1 _ _ _ trivial S' e'
 ·obtain⟨c,v₀,q1,hc,q3,q4⟩:=hS.frm.cell x k
  refine wpAny_storeName_cell hE.kind k q1 hc fun h' hc' hs=>?_
  obtain⟨oc',hoc',hcd'⟩:=id hc'
  have hcl:env.locals≠c:=fun q=>by
   obtain⟨m,ol,_,_,hol,hld,_⟩:=hS.frm.loc
   obtain⟨oc,hoc,hcd⟩:=hc
   rw[q,hoc] at hol;cases hol;rw[hcd] at hld;cases hld
  have nsKeep:∀ {m},s.heap.Ns env.locals m→h'.Ns env.locals m:=fun ⟨ol,es,ep,hol,r⟩=>⟨ol,es,ep,(hs.2 _ hcl).trans hol,r⟩
  have h5:∀ y:Str,env.kindOf y=some .cell→∃ c v₀,env.cells.lookup y=some c∧h'.IsCell c v₀:=fun y hy=>by
   by_cases hy':y=x
   ·subst hy';exact⟨c,_,q1,hc'⟩
   ·obtain⟨c',v',r1,⟨o1,r2,r3⟩,_⟩:=hS.frm.cell y hy
    exact⟨c',v',r1,o1,(hs.2 c' fun q=>hy' (hS.frm.inj y x c hy k (q▸r1) q1)).trans r2,r3⟩
  have h6:∀ (y:Str) (j:Nat) (w:V),isVar sc y=true→idxLast ns y=some j→(st.vars.set i (some v))[j]?=some (some w)→∃ val,Loads h' env y val∧VR C s.heap ρ w val:=fun y j w h1 h2 h3=>by
   by_cases hy:y=x
   ·have:=same h2 hy;subst this;subst hy
    rw[hset] at h3;cases h3
    exact⟨val,.inr ⟨k,c,q1,hc'⟩,hr⟩
   ·rw[List.getElem?_set_ne (Ne.symm (hne h2 hy))] at h3
    obtain⟨val',hl,hv⟩:=hS.frm.vals y j w h1 h2 h3
    refine⟨val',?_,hv⟩
    rcases hl with ⟨k',m',hm',hmy⟩ | ⟨k',c',r1,o1,r2,r3⟩
    ·exact .inl ⟨k',m',nsKeep hm',hmy⟩
    ·exact .inr ⟨k',c',r1,o1,(hs.2 c' fun q=>hy (hS.frm.inj y x c k' k (q▸r1) q1)).trans r2,r3⟩
  obtain⟨S',e'⟩:=hS.own (t:=s.toks) (vars':=st.vars.set i (some v)) (.inr ⟨x,k,q1⟩) (hSx _ (.inr ⟨k,q1⟩)) hs hoc' q4 q3 (by simp[hS.frm.len]) (hS.frm.loc.imp fun m hm=>nsKeep hm) h5 h6 fun o h1 hf=>by
   obtain⟨oc,h2,h3⟩:=hc
   rw[h1] at h2
   cases h2
   obtain⟨es,n,q⟩:=hf.2
   rw[h3] at q
   cases q
  exact hw1 _ _ _ trivial S' e'
end
noncomputable def FlR (C:Cx)(h:Heap)(ρ:List Addr):Flow→PySem.Flow→Prop
 | .next,f=>f=.next
 | .ret v,f=>∃ val,f=.ret val∧VR C h ρ v val
abbrev SndX (C:Cx)(d:Nat)(env:Env)(sc:Scope)(ns:List Str)(x:Stmt)(m:M Flow):Prop:=Snd C d env sc ns (FlR C) (Own env) (exec x env) m
abbrev SndXs (C:Cx)(d:Nat)(env:Env)(sc:Scope)(ns:List Str)(xs:List Stmt)(m:M Flow):Prop:=Snd C d env sc ns (FlR C) (Own env) (execs xs env) m
section
variable {C:Cx}{d:Nat}{env:Env}{sc:Scope}{ns:List Str}
theorem Snd.thenS {α β α' β':Type}{R:Heap→List Addr→α→β→Prop}{R':Heap→List Addr→α'→β'→Prop}{S:Addr→Prop}{t:Sem β}{m:M α}{g:α→M α'}{P:β→Shared→Prop}
  {A:Around} {s:Shared} {ρ:List Addr} {st:St} {Q:β'→Shared→Prop} {E:Value→Shared→Prop} {X:Str→St→Prop}
  (h1:Snd C d env sc ns R S t m) (hA:AOk C.aux d A) (hS:State C env sc ns s ρ st) (hr:Rest C env sc ns R' S Q E X (m.bind g) s ρ st)
  (h2:∀ v val s₁ ρ₁ st₁,R s₁.heap ρ₁ v val→State C env sc ns s₁ ρ₁ st₁→Ext S s ρ s₁ ρ₁→Rest C env sc ns R' S Q E X (g v) s₁ ρ₁ st₁→P val s₁) (hSO:∀ b,S b→Own env b:=by exact fun _ q=>q) :
  wpAny (model C.prog C.w) A t P E s :=
 h1 A s ρ st _ E X hA hS (wpM_mono (wpM_bind.mp hr.1) (fun v st₁ hw₁ val s₁ ρ₁ r S₁ e₁=>h2 v val s₁ ρ₁ st₁ r S₁ e₁ (.mono e₁ (e₁.mono hSO) hw₁ hr.2)) fun _ _ h=>h) hr.2
theorem At.thenS {α β α' β':Type}{R:Heap→List Addr→α→β→Prop}{R':Heap→List Addr→α'→β'→Prop}{S:Addr→Prop}{t:Sem β}{m:M α}{g:α→M α'}{P:β→Shared→Prop}
  {A:Around} {s:Shared} {ρ:List Addr} {st:St} {Q:β'→Shared→Prop} {E:Value→Shared→Prop} {X:Str→St→Prop}
  (h1:At C d env sc ns R S t m s ρ st) (hA:AOk C.aux d A) (hS:State C env sc ns s ρ st) (hr:Rest C env sc ns R' S Q E X (m.bind g) s ρ st)
  (h2:∀ v val s₁ ρ₁ st₁,R s₁.heap ρ₁ v val→State C env sc ns s₁ ρ₁ st₁→Ext S s ρ s₁ ρ₁→Rest C env sc ns R' S Q E X (g v) s₁ ρ₁ st₁→P val s₁) (hSO:∀ b,S b→Own env b:=by exact fun _ q=>q) :
  wpAny (model C.prog C.w) A t P E s :=
 h1 A _ E X hA hS (wpM_mono (wpM_bind.mp hr.1) (fun v st₁ hw₁ val s₁ ρ₁ r S₁ e₁=>h2 v val s₁ ρ₁ st₁ r S₁ e₁ (.mono e₁ (e₁.mono hSO) hw₁ hr.2)) fun _ _ h=>h) hr.2
theorem snd_seq:∀ {xs:List Stmt} {ms:List (M Flow)},All2 (SndX C d env sc ns) xs ms→SndXs C d env sc ns xs (seqS ms)
 | [],[],_=>.of fun A s ρ st Q E X hA hS hw=>wpAny_execs_nil (hw.1 _ _ _ rfl hS (.refl ..))
 | x::xs,m::ms,h=>.of fun A s ρ st Q E X hA hS hw=>by
  refine wpAny_execs_cons (h.1.thenS hA hS hw fun f fl s₁ ρ₁ st₁ r₁ S₁ e₁ hw₁=>?_)
  cases f with
  | next=>cases r₁;exact (snd_seq h.2).go hA S₁ hw₁
  | ret v=>obtain⟨val,rfl,hv⟩:=r₁;exact hw₁.1 _ _ _ ⟨val,rfl,hv⟩ S₁ (.refl ..)
 | [],_::_,h=>h.elim
 | _::_,[],h=>h.elim
theorem snd_if {t:Expr}{b o:List Stmt}{pos:Pos}{mt:M Bool}{mb mo:M Flow}(ht:SndB C d env sc ns t mt)(hb:SndXs C d env sc ns b mb)(ho:SndXs C d env sc ns o mo) :
  SndX C d env sc ns (.If t b o pos) (iteM mt mb mo):=.of fun A s ρ st Q E X hA hS hw=>by
 refine wpAny_If (ht.then hA hS hw fun v val s₁ ρ₁ st₁ r₁ S₁ e₁ hw₁=>?_)
 cases r₁
 cases v
 ·exact ho.go hA S₁ hw₁
 ·exact hb.go hA S₁ hw₁
theorem snd_return {e:Expr}{pos:Pos}{m:M V}(h:SndE C d env sc ns e m):SndX C d env sc ns (.Return (some e) pos) (retM m):=.of fun A s ρ st Q E X hA hS hw =>
 wpAny_Return_some (h.then hA hS hw fun v val s₁ ρ₁ st₁ r₁ S₁ e₁ hw₁=>hw₁.1 _ _ _ ⟨val,rfl,r₁⟩ S₁ (.refl ..))
theorem snd_pass {pos:Pos}:SndX C d env sc ns (.Pass pos) (M.pure .next):=.of fun A s ρ st Q E X hA hS hw=>wpAny_Pass (hw.1 _ _ _ rfl hS (.refl ..))
theorem snd_expr (hE:EnvOk env sc){e:Expr}{pos:Pos}{m:M V}(h:SndE C d env sc ns e m)(hs:swapsWith e none pos.line env=pure false):SndX C d env sc ns (.Expr e pos) (exprM m):=.of fun A s ρ st Q E X hA hS hw =>
 wpAny_Expr_any (h.then hA hS hw fun v val s₁ ρ₁ st₁ r₁ S₁ e₁ hw₁=>hw₁.1 _ _ _ rfl S₁ (.refl ..)) (by unfold interactive;rw[hE.kind];rfl) hs
theorem snd_assignName (hE:EnvOk env sc){x:Str}{p pos:Pos}{e:Expr}{m:M V}{i:Nat}(h:SndE C d env sc ns e m)(hx:isVar sc x=true)(hi:idxLast ns x=some i)
  (hs:swapsWith e (some (.Name x p)) pos.line env=pure false):SndX C d env sc ns (.Assign [.Name x p] e pos) (assignM (.var i) m):=.of fun A s ρ st Q E X hA hS hw =>
 wpAny_Assign_Name (h.then hA hS hw fun v val s₁ ρ₁ st₁ r₁ S₁ e₁ hw₁ =>
  (at_store hE hx hi r₁ fun _ q=>q.own).thenS hA S₁ hw₁ fun _ _ s₂ ρ₂ st₂ _ S₂ e₂ hw₂=>hw₂.1 _ _ _ rfl S₂ (.refl ..)) hs
noncomputable def TgR (sc:Scope)(ns:List Str):List Expr→List Nat→Prop
 | [],[]=>True
 | e::r,i::is=>(∃ x p,e=.Name x p∧isVar sc x=true∧idxLast ns x=some i)∧TgR sc ns r is
 | _,_=>False
noncomputable def tnames:List Expr→List Str
 | []=>[]
 | .Name x _::r=>x::tnames r
 | _::r=>tnames r
theorem at_stores {S:Addr→Prop}(hE:EnvOk env sc)(hSO:∀ b,S b→Own env b){is:List Nat}:∀ {es:List Expr} {vs:List V} {vals:List Value} {s:Shared} {ρ:List Addr} {st:St},TgR sc ns es is→VRs C s.heap ρ vs vals→(∀ x b,isVar sc x=true→x∈tnames es→OwnV env x b→S b) →
  At C d env sc ns Un S (assignInOrder ((assignEach es env).map (·.2)) vals) (setVars is vs) s ρ st:=by
 induction is with
 | nil =>
  intro es vs vals s ρ st ht hv hSx
  cases es with
  | cons e es=>exact ht.elim
  | nil =>
   refine .of fun A Q E X hA hS hw=>?_
   cases vs with
   | cons _ _=>exact hw.1.elim
   | nil =>
    simp only[vS0,vS1] at hv;subst hv
    exact wpAny_assignInOrder_none (hw.1 _ _ _ trivial hS (.refl ..))
 | cons i is ih =>
  intro es vs vals s ρ st ht hv hSx
  cases es with
  | nil=>exact ht.elim
  | cons e es =>
   refine .of fun A Q E X hA hS hw=>?_
   cases vs with
   | nil=>exact hw.1.elim
   | cons v vs =>
    obtain⟨val,vals,rfl,hv1,hv2⟩:=hv
    obtain⟨⟨x,p,rfl,hx,hi⟩,ht'⟩:=ht
    refine wpAny_assignInOrder_more ?_
    show wpAny _ _ (do standAt p;bindName env x val) _ _ _
    refine wpAny_bind (wpAny_standAt (wpAny_bindName ?_))
    refine (at_store hE hx hi hv1 fun b q=>hSx x b hx (.head _) q).thenS hA hS hw (fun _ _ s₁ ρ₁ st₁ _ S₁ e₁ hw₁=>?_) hSO
    exact (ih ht' (hv2.ext (e₁.extV fun b q=>own_aside hS.frm b (hSO b q))) fun y b h1 h2 h3=>hSx y b h1 (.tail _ h2) h3).go hA S₁ hw₁
theorem TgR.len {es:List Expr}{is:List Nat}(h:TgR sc ns es is):(assignEach es env).length=is.length∧(assignEach es env).findIdx? (·.1)=none:=by
 induction es generalizing is with
 | nil=>cases is with
  | nil=>exact⟨rfl,rfl⟩
  | cons _ _=>exact h.elim
 | cons e es ih =>
  cases is with
  | nil=>exact h.elim
  | cons i is =>
   obtain⟨⟨x,p,rfl,_⟩,h'⟩:=h
   obtain⟨h1,h2⟩:=ih h'
   show ((false,assign (.Name x p) env)::assignEach es env).length=_∧((false,assign (.Name x p) env)::assignEach es env).findIdx? (·.1)=none
   refine⟨congrArg (·+1) h1,?_⟩
   rw[List.findIdx?_cons,h2];rfl
theorem VRs.len {h:Heap}{ρ:List Addr}:∀ {vs:List V} {xs:List Value},VRs C h ρ vs xs→vs.length=xs.length
 | [],_,r=>by subst r;rfl
 | _::_,_,r=>by
  obtain⟨x,xs,rfl,_,h2⟩:=r
  simp[VRs.len h2]
theorem wpM_setVars_len {is:List Nat}{vs:List V}{st:St}{Q:Unit→St→Prop}{X:Str→St→Prop}(h:wpM (setVars is vs) st Q X):is.length=vs.length:=by
 induction is generalizing vs st with
 | nil=>cases vs with
  | nil=>rfl
  | cons _ _=>exact h.elim
 | cons i is ih=>cases vs with
  | nil=>exact h.elim
  | cons v vs =>
   obtain⟨_,h2⟩:=wpM_setVar.mp (wpM_bind.mp h)
   simp[ih h2]
noncomputable def TgtR (sc:Scope)(ns:List Str):Expr→Tg→Prop
 | .Name x _,.var i=>isVar sc x=true∧idxLast ns x=some i
 | .Tuple es _ _,.tup is=>TgR sc ns es is
 | _,_=>False
noncomputable def tname:Expr→List Str
 | .Name x _=>[x]
 | .Tuple es _ _=>tnames es
 | _=>[]
theorem at_asg {S:Addr→Prop}(hE:EnvOk env sc)(hSO:∀ b,S b→Own env b){t:Expr}{tg:Tg}{v:V}{val:Value}{s:Shared}{ρ:List Addr}{st:St}(ht:TgtR sc ns t tg)(hv:VR C s.heap ρ v val)(hSx:∀ x b,isVar sc x=true→x∈tname t→OwnV env x b→S b) :
  At C d env sc ns Un S (assign t env val) (asg tg v) s ρ st:=.of fun A Q E X hA hS hw=>by
 cases t <;> cases tg <;> first | exact ht.elim | skip
 ·rename_i x p i
  show wpAny _ _ (do standAt p;bindName env x val) _ _ _
  exact wpAny_bind (wpAny_standAt (wpAny_bindName ((at_store hE ht.1 ht.2 hv fun b q=>hSx x b ht.1 (.head _) q).go hA hS hw)))
 ·rename_i es k p is
  cases v <;> first | exact hw.1.elim | skip
  rename_i vs
  obtain⟨a,items,rfl,ht',hn,hr⟩:=hv
  have hlen:=wpM_setVars_len (show wpM (setVars is vs) st _ _ from hw.1)
  refine tuple_to (hA.hand hS.frm.frs) ht' ?_ ht.len.2 fun h' hx=>?_
  ·rw[ht.len.1,hlen,hr.len];simp
  ·have g:=Grows.extBut hx
   exact (at_stores hE hSO ht (hr.ext (g.extV ρ)) fun y b h1 h2 h3=>hSx y b h1 h2 h3).go hA (hS.grows g s.toks) (.mono (Ext.grows g) (Ext.grows g) hw.1 hw.2)
end
end Mine
namespace Mine
open PySem PyProof.Rows
theorem lookup_zip_some:∀ {ns:List Str} {vs:List Value} {i:Nat} {x:Str} {v:Value},ns.Nodup→ns[i]?=some x→vs[i]?=some v→(ns.zip vs).lookup x=some v
 | [],_,_,_,_,_,h,_=>by simp at h
 | _::_,[],_,_,_,_,_,h=>by simp at h
 | n::ns,w::vs,0,x,v,hn,h1,h2=>by
  simp at h1 h2;subst h1;subst h2
  simp
 | n::ns,w::vs,i+1,x,v,hn,h1,h2=>by
  have hn':=List.nodup_cons.mp hn
  simp at h1 h2
  have hne:(x==n)=false:=by
   cases q:x==n with
   | false=>rfl
   | true=>exact absurd (List.mem_of_getElem? h1) (by rw[eq_of_beq q];exact hn'.1)
  rw[List.zip_cons_cons,List.lookup_cons,hne]
  exact lookup_zip_some hn'.2 h1 h2
theorem filterMap_zip {ns:List Str}{vs:List Value}(hn:ns.Nodup)(hl:vs.length=ns.length):(ns.filterMap fun n=>((ns.zip vs).lookup n).map (n,·))=ns.zip vs:=by
 have key:∀ (k:Nat) (l:List Str),l=ns.drop k→(l.filterMap fun n=>((ns.zip vs).lookup n).map (n,·))=(ns.zip vs).drop k:=by
  intro k l
  induction l generalizing k with
  | nil =>
   intro h
   have:ns.length≤k:=by
    have:=congrArg List.length h
    simp at this;exact Nat.le_of_sub_eq_zero this.symm
   rw[List.filterMap_nil,List.drop_eq_nil_of_le (by simp;exact Nat.le_trans (Nat.min_le_left _ _) this)]
  | cons x l ih =>
   intro h
   have hk:k<ns.length:=by
    have:=congrArg List.length h
    simp at this;exact Nat.lt_of_sub_pos (this▸Nat.succ_pos _)
   have hd:=List.drop_eq_getElem_cons hk
   rw[hd] at h
   injection h with h1 h2
   have hv:k<vs.length:=by exact Nat.lt_of_lt_of_eq hk hl.symm
   have:=lookup_zip_some hn (i:=k) (x:=x) (v:=vs[k]) (by rw[List.getElem?_eq_getElem hk,h1]) (List.getElem?_eq_getElem hv)
   rw[List.filterMap_cons,this]
   rw[List.drop_eq_getElem_cons (l:=ns.zip vs) (by simp;exact Nat.lt_min.mpr ⟨hk,hv⟩)]
   simp only[Option.map_some,List.getElem_zip,h1]
   rw[ih (k+1) h2]
 simpa using key 0 ns rfl
theorem sem_pb {α β:Type}{a:α}{f:α→Sem β}:((pure a:Sem α) >>= f)=f a:=rfl
theorem seqItems_none:seqItems? Value.none=pure none:=rfl
theorem bindArgs_plain {fd:FuncData}{ps:List Arg}{vals:List Value}(hp:fd.params=⟨[],ps,none,[],[],none,[]⟩)(hd:fd.defaults=.none)(hn:(ps.map (·.arg)).Nodup)(hl:vals.length=ps.length) :
  bindArgs fd ⟨vals,[]⟩=pure ((ps.map (·.arg)).zip vals):=by
 have hl':vals.length=(ps.map (·.arg)).length:=by simp[hl]
 have hmiss:((ps.map (·.arg)).take (ps.map (·.arg)).length).filter (fun n=>(((ps.map (·.arg)).zip vals).lookup n).isNone)=[]:=by
  rw[List.take_length,List.filter_eq_nil_iff]
  intro x hx
  obtain⟨i,hi,rfl⟩:=List.getElem_of_mem hx
  rw[lookup_zip_some hn (i:=i) (v:=vals[i]'(by exact Nat.lt_of_lt_of_eq hi hl'.symm)) (List.getElem?_eq_getElem hi) (List.getElem?_eq_getElem (by exact Nat.lt_of_lt_of_eq hi hl'.symm))]
  simp
 have hgt:(decide (vals.length > (ps.map (·.arg)).length))=false:=decide_eq_false (by exact Nat.not_lt_of_le (Nat.le_of_eq hl'))
 obtain⟨⟩:=fd
 obtain rfl:=hp
 obtain rfl:=hd
 unfold bindArgs
 dsimp only[List.map_nil,List.nil_append,List.forIn_nil,sem_pb,seqItems_none,Option.getD_none,List.length_nil,Nat.sub_zero,List.isEmpty_nil,Bool.not_true]
 refine (if_neg ?_).trans ?_
 ·show ¬ (decide (vals.length > (ps.map (·.arg)).length)&&true)=true
  rw[hgt];decide
 refine (if_neg ?_).trans ?_
 ·rw[List.drop_nil]
  show ¬ (!(((ps.map (·.arg)).take (ps.map (·.arg)).length).filter (fun n=>(((ps.map (·.arg)).zip vals).lookup n).isNone)).isEmpty)=true
  rw[hmiss];decide
 simp only[List.map_nil,List.nil_append,List.append_nil,List.forIn_nil,sem_pb,List.length_nil,Nat.sub_zero,Nat.zero_sub,List.drop_nil,Bool.false_eq_true,if_false,List.isEmpty_nil,Bool.not_true,List.zip_nil_right,filterMap_zip hn hl']
theorem wpM_runFn {sf:List Ob→List Ob→V→Option (V×List Ob)}{np n:Nat}{body:M Flow}{args:List V}{st:St}{Q:V→St→Prop}{X:Str→St→Prop}(h:wpM (runFnS sf np n body args) st Q X) :
  args.length=np∧wpM body ⟨args.map some++List.replicate (n-np) none,st.obs⟩ (fun fl st'=>∃ v o,sf st.obs st'.obs (flowV fl)=some (v,o)∧Q v { st with obs:=o }) (fun c st'=>∃ o,keepL st.obs st'.obs=some o∧X c { st with obs:=o }):=by
 unfold wpM runFnS at h
 by_cases hl:args.length=np
 ·rw[if_pos hl] at h
  refine⟨hl,?_⟩
  unfold wpM
  cases hb:body ⟨args.map some++List.replicate (n-np) none,st.obs⟩ with
  | ok fl st' =>
   rw[hb] at h
   dsimp only at h ⊢
   cases hs:sf st.obs st'.obs (flowV fl) with
   | none=>rw[hs] at h;exact h.elim
   | some p=>rw[hs] at h;exact⟨p.1,p.2,rfl,h⟩
  | exc c st' =>
   rw[hb] at h
   dsimp only at h ⊢
   cases hs:keepL st.obs st'.obs with
   | none=>rw[hs] at h;exact h.elim
   | some p=>rw[hs] at h;exact⟨p,rfl,h⟩
  | stuck=>rw[hb] at h;exact h
 ·rw[if_neg hl] at h;exact h.elim
theorem settle_some {o o':List Ob}{v v':V}{o'':List Ob}(h:settle o o' v=some (v',o'')):keepL o o'=some o''∧res o.length o' 4 v=some v':=by
 obtain⟨ob,h1,h2⟩:=Option.bind_eq_some_iff.mp h
 obtain⟨w,h3,h4⟩:=Option.map_eq_some_iff.mp h2
 cases h4
 exact⟨h1,h3⟩
structure FnGood (f:FnD):Prop where
 kind:f.scope.kind=.function
 gen:f.scope.isGenerator=false
 co:f.scope.isCoroutine=false
 nodup:(f.scope.names.map (·.1)).Nodup
 nofree:∀ p∈f.scope.names,p.2≠.free
 pre:f.params <+: slotsOf f.scope
 dbg:∀ p∈f.scope.names,(p.1==("__debug__" : Str))=false
theorem FnD.good {f:FnD}(h:f.ok=true):FnGood f:=by
 simp only[FnD.ok,Bool.and_eq_true,beq_iff_eq,Bool.not_eq_true',decide_eq_true_eq,List.all_eq_true,bne_iff_ne,ne_eq] at h
 obtain⟨⟨⟨⟨⟨h1,h2⟩,h3⟩,h4⟩,h5⟩,h6⟩:=h
 exact⟨h1,h2,h3,h4,fun p hp=>(h5 p hp).1,List.isPrefixOf_iff_prefix.mp h6,fun p hp=>(h5 p hp).2⟩
structure FnOk (C:Cx)(f:FnD)(a:Addr):Prop where
 fn:∃ o fd ps,C.base.get? a=some o∧o.data=.func fd∧fd.scope=f.scope∧fd.body=.stmts f.body∧fd.globals=mainGlobals∧fd.closure=[]∧fd.builtins=builtinsNs∧C.base.CodeRec fd.code fd.qualname ∧
  fd.params=⟨[],ps,none,[],[],none,[]⟩∧ps.map (·.arg)=f.params∧fd.defaults=.none
theorem lookup_mem {α β:Type}[BEq α][LawfulBEq α]:∀ {l:List (α×β)} {x:α} {v:β},l.lookup x=some v→(x,v)∈l
 | [],_,_,h=>by cases h
 | (y,w)::r,x,v,h=>by
  rw[List.lookup_cons] at h
  split at h
  ·rename_i e;obtain rfl:=Option.some.inj h;rw[eq_of_beq e];exact .head _
  ·exact .tail _ (lookup_mem h)
theorem lookup_of_nodup {α β:Type}[BEq α][LawfulBEq α]:∀ {l:List (α×β)} {x:α} {v:β},(l.map (·.1)).Nodup→(x,v)∈l→l.lookup x=some v
 | (y,w)::r,x,v,hn,h=>by
  have hn':=List.nodup_cons.mp hn
  rw[List.lookup_cons]
  cases h with
  | head=>simp
  | tail _ h =>
   have:(x==y)=false:=by
    cases q:x==y with
    | false=>rfl
    | true=>exact absurd (List.mem_map_of_mem (f:=(·.1)) h) (by show ¬ x∈_;rw[eq_of_beq q];exact hn'.1)
   rw[this];exact lookup_of_nodup hn'.2 h
theorem bindL_get (k:Str→Option NameKind):∀ {b:List (Str×Value)} {m:Str→Option Value} {x:Str} {v:Value},(b.map (·.1)).Nodup→(x,v)∈b→k x=some .local→bindL k b m x=some v
 | (y,w)::r,m,x,v,hn,h,hk=>by
  have hn':=List.nodup_cons.mp hn
  unfold bindL
  cases h with
  | head =>
   rw[if_pos hk]
   exact bindL_skip k hn'.1 (by simp)
  | tail _ h=>exact bindL_get k hn'.2 h hk
where bindL_skip (k:Str→Option NameKind):∀ {b:List (Str×Value)} {m:Str→Option Value} {x:Str} {v:Value},x∉b.map (·.1)→m x=some v→bindL k b m x=some v
 | [],_,_,_,_,h=>h
 | (y,w)::r,m,x,v,hn,h=>by
  unfold bindL
  refine bindL_skip k (fun q=>hn (.tail _ q)) ?_
  have hne:x≠y:=fun q=>hn (by rw[q];exact .head _)
  split
  ·simp[hne,h]
  ·exact h
theorem bindC_get (k:Str→Option NameKind):∀ {b:List (Str×Value)} {m:Str→Option Value} {x:Str} {v:Value},(b.map (·.1)).Nodup→(x,v)∈b→k x=some .cell→bindC k b m x=some v
 | [],_,_,_,_,h,_=>(nomatch h)
 | (y,w)::r,m,x,v,hn,h,hk=>by
  have hn':=List.nodup_cons.mp hn
  unfold bindC
  cases h with
  | head =>
   rw[if_neg (by rw[hk];decide)]
   exact bindC_skip k hn'.1 (by simp)
  | tail _ h=>exact bindC_get k hn'.2 h hk
where bindC_skip (k:Str→Option NameKind):∀ {b:List (Str×Value)} {m:Str→Option Value} {x:Str} {v:Value},x∉b.map (·.1)→m x=some v→bindC k b m x=some v
 | [],_,_,_,_,h=>h
 | (y,w)::r,m,x,v,hn,h=>by
  unfold bindC
  refine bindC_skip k (fun q=>hn (.tail _ q)) ?_
  have hne:x≠y:=fun q=>hn (by rw[q];exact .head _)
  split
  ·exact h
  ·simp[hne,h]
theorem cells_lookup {x:Str}:∀ {names:List (Str×NameKind)} {n:Nat} {acc:List (Str×Addr)},(x,NameKind.cell)∈names∨(acc.lookup x).isSome=true→((cellsFrom n names acc).lookup x).isSome=true
 | [],_,_,h=>by
  rcases h with h | h
  ·cases h
  ·exact h
 | (y,k)::r,n,acc,h=>by
  unfold cellsFrom
  by_cases hk:(k==NameKind.cell)=true
  ·rw[if_pos hk]
   refine cells_lookup ?_
   by_cases hy:(x==y)=true
   ·right;rw[List.lookup_cons,hy];rfl
   ·rcases h with h | h
    ·cases h with
     | head=>exact absurd (by simp) hy
     | tail _ h=>exact .inl h
    ·right;rw[List.lookup_cons];simp only[hy];exact h
  ·rw[if_neg hk]
   refine cells_lookup ?_
   rcases h with h | h
   ·cases h with
    | head=>exact absurd rfl hk
    | tail _ h=>exact .inl h
   ·exact .inr h
theorem cells_inj {l:List (Str×Addr)}(h:l.Pairwise fun x y=>x.2≠y.2){x y:Str}{c:Addr}(hx:(x,c)∈l)(hy:(y,c)∈l):x=y:=by
 induction l with
 | nil=>cases hx
 | cons p l ih =>
  obtain⟨h1,h2⟩:=List.pairwise_cons.mp h
  cases hx with
  | head=>cases hy with
   | head=>rfl
   | tail _ hy=>exact absurd rfl (h1 (y,c) hy)
  | tail _ hx=>cases hy with
   | head=>exact absurd rfl (h1 (x,c) hx)
   | tail _ hy=>exact ih h2 hx hy
structure AOk2 (x:Aux)(d:Nat)(A:Around):Prop where
 depth:A.depth+3*d+4≤990
 units:A.units+100*d+250≤9900
 handled:x.hot=none→A.handled=none
 exc:∀ e,x.hot=some e→A.handled=some (.ref e)
 guards:A.guards=some []
 frames:A.frames=some x.frs
noncomputable def Back (Q:Value→Shared→Prop)(E:Value→Shared→Prop)(r:Result)(s:Shared):Prop:=match r with
 | .ok (.ret v)=>Q v s
 | .ok _=>False
 | .error e=>E e s
noncomputable def RaisedN (C:Cx)(s:Shared)(ρ:List Addr)(st:St)(c:Str)(st':St)(x:Value)(s':Shared)(ρ':List Addr):Prop :=
 ∃ e N,x=.ref e∧st'.vars=st.vars∧Inv (C.hide N) s'.heap ρ' st'.obs∧Ext Nil s ρ s' ρ'∧Fly C s.heap s'.heap N c e
theorem RaisedN.to {C:Cx}{env:Env}{sc:Scope}{ns:List Str}{s s':Shared}{ρ ρ':List Addr}{st st':St}{c:Str}{x:Value}(r:RaisedN C s ρ st c st' x s' ρ')(hS:State C env sc ns s ρ st):Raised C env sc ns s ρ c st' x s' ρ':=by
 obtain⟨e,N,rfl,hv,I,x,f⟩:=r
 refine⟨e,N,rfl,⟨I,?_⟩,x.nil,f⟩
 rw[hv]
 exact (hS.frm.hide (.refl _) fun b q=>(f.new b q).1).ext x
noncomputable def FSnd (C:Cx)(d:Nat)(a:Addr)(g:List V→M V):Prop :=
 ∀ (env:Env) (sc:Scope) (ns:List Str) (vs:List V) (vals:List Value) (s:Shared) (ρ:List Addr) (st:St),VRs C s.heap ρ vs vals →
  ∀ (A:Around) (Q:Value→Shared→Prop) (E:Value→Shared→Prop) (X:Str→St→Prop),AOk2 C.aux d A→State C env sc ns s ρ st →
  wpM (g vs) st (fun v st'=>∀ val s' ρ',VR C s'.heap ρ' v val→State C env sc ns s' ρ' st'→Ext Nil s ρ s' ρ'→Q val s') X→(∀ c st' x s' ρ',X c st'→RaisedN C s ρ st c st' x s' ρ'→E x s')→codeAny (model C.prog C.w) A (.call (.ref a) ⟨vals,[]⟩) (Back Q E) s
theorem AOk.two {x:Aux}{d:Nat}{A:Around}(h:AOk x (d+1) A):AOk2 x d A:=⟨by have:=h.depth;exact Nat.le_trans (Nat.le_add_right (A.depth+3*d+4) 2) this,by have:=h.units;exact Nat.le_trans (Nat.le_add_right (A.units+100*d+250) 50) this,h.handled,h.exc,h.guards,h.frames⟩
theorem FSnd.at {C:Cx}{d:Nat}{a:Addr}{g:List V→M V}(h:FSnd C d a g){env:Env}{sc:Scope}{ns:List Str}{vs:List V}{vals:List Value}{s:Shared}{ρ:List Addr}{st:St}(hv:VRs C s.heap ρ vs vals):At C (d+1) env sc ns (VR C) Nil (call (.ref a) vals) (g vs) s ρ st :=
 .of fun A Q E X hA hS hw=>wpAny_call (h env sc ns vs vals s ρ st hv A Q E X hA.two hS hw.1 fun c st' x s' ρ' q r=>hw.2 c st' x s' ρ' q (r.to hS))
theorem AOk2.deeper {x:Aux}{d:Nat}{A:Around}(h:AOk2 x d A)(env:Env):AOk ⟨env::x.frs,x.hot⟩ d (A.deeper env) :=
 ⟨by show A.depth+1+3*d+3≤990;have:=h.depth;exact Nat.le_trans (Nat.le_of_eq (congrArg (·+3) (Nat.add_right_comm ..))) this,by show A.units+3+100*d+200≤9900;have:=h.units;exact Nat.le_trans (Nat.le_of_eq (congrArg (·+200) (Nat.add_right_comm ..))) (Nat.le_trans (Nat.le_add_right _ 47) this),h.handled,h.exc,h.guards,Around.frames_deeper h.frames⟩
theorem slots_nodup {f:FnD}(hg:FnGood f):(slotsOf f.scope).Nodup:=by
 unfold slotsOf
 exact List.Nodup.sublist (List.Sublist.map _ List.filter_sublist) hg.nodup
theorem envOk_call {f:FnD}(hg:FnGood f){env:Env}(hs:env.scope=f.scope)(h1:env.globals=mainGlobals)(h2:env.builtins=builtinsNs):EnvOk env f.scope where
 kind:=by rw[hs];exact hg.kind
 glob:=h1
 blt:=h2
 gl:=fun x hx=>by unfold isGlob at hx;show env.scope.names.lookup x=_;rw[hs];exact eq_of_beq hx
 lo:=fun x hx=>by show env.scope.names.lookup x=_;rw[hs];exact hx
 ce:=fun x hx=>by
  show env.scope.names.lookup x=_
  rw[hs]
  rcases hx with hx | hx
  ·exact hx
  ·exact absurd rfl (hg.nofree _ (lookup_mem hx))
 dbg:=fun x hx=>by
  have:∃ k,f.scope.names.lookup x=some k:=by
   rcases hx with hx | hx
   ·exact⟨_,eq_of_beq hx⟩
   ·unfold isVar at hx
    split at hx <;> first | exact⟨_,by assumption⟩ | cases hx
  obtain⟨k,hk⟩:=this
  exact hg.dbg _ (lookup_mem hk)
theorem VRs.get {C:Cx}{h:Heap}{ρ:List Addr}:∀ {vs:List V} {xs:List Value} {i:Nat} {v:V},VRs C h ρ vs xs→vs[i]?=some v→∃ x,xs[i]?=some x∧VR C h ρ v x
 | [],_,_,_,_,h=>by simp at h
 | v::vs,_,0,w,r,h=>by
  obtain⟨x,xs,rfl,h1,_⟩:=r
  simp at h;subst h
  exact⟨x,rfl,h1⟩
 | v::vs,_,i+1,w,r,h=>by
  obtain⟨x,xs,rfl,_,h2⟩:=r
  simp at h
  simpa using VRs.get h2 h
theorem FrsOk.funs {C:Cx}{h base:Heap}{ρ:List Addr}(F:FrsOk C h ρ):∀ {l:List Env},(∀ env∈l,env∈C.aux.frs)→(∀ b∈l.filterMap (·.frame),base.get? b=none)→h.FunFrames base l
 | [],_,_=>trivial
 | env::l,h1,h2=>by
  obtain⟨g1,L,o,g2,g3,⟨_,es,n,g4⟩,_⟩:=F.fr env (h1 _ (.head _))
  refine⟨g1,⟨L,o,g2,h2 L (List.mem_filterMap.mpr ⟨env,.head _,g2⟩),g3,fun vs q=>?_⟩,F.funs (fun e he=>h1 e (.tail _ he)) fun b hb=>h2 b ?_⟩
  ·rw[g4] at q;cases q
  ·obtain⟨e,q1,q2⟩:=List.mem_filterMap.mp hb
   exact List.mem_filterMap.mpr ⟨e,.tail _ q1,q2⟩
theorem FrsOk.frame {C:Cx}{h:Heap}{ρ:List Addr}(F:FrsOk C h ρ){b:Addr}(hb:b∈C.aux.frs.filterMap (·.frame)):∃ o,h.get? b=some o∧isFrm true o∧C.base.get? b=none∧b∉ρ:=by
 obtain⟨env,h1,h2⟩:=List.mem_filterMap.mp hb
 obtain⟨_,L,o,g2,g3,g4,g5,g6⟩:=F.fr env h1
 obtain rfl:=some_eq h2 g2
 exact⟨o,g3,g4,g6,g5⟩
structure Entry (l:List Env)(e:Addr)(oe:Obj)(vs:Array Value)(h h':Heap)(T:Addr)(oT:Obj)(ts:Array Value):Prop where
 same:∀ b o,b∉l.filterMap (·.frame)→b≠e→h.get? b=some o→h'.get? b=some o
 frs:∀ b o,b∈l.filterMap (·.frame)→h.get? b=some o→∃ sl,h'.get? b=some { o with slots:=sl }
 new:h.get? T=none
 it:h'.get? e=some { oe with data:=.fields (vs.setIfInBounds 1 (.ref T)) }
 sz:1<vs.size
 ne:T≠e
 tb:h'.get? T=some oT
 dat:oT.data=.fields ts
 fl:ts[3]?=some .none
theorem new_entry {M:Model}{A:Around}{E:Value→Shared→Prop}{s:Shared}{base:Heap}{env:Env}{outer:List Env}{L e:Addr}{oe:Obj}{vs:Array Value}{head:Value}{had:Bool}{Q:Unit→Shared→Prop}(hfr:A.frames=some (env::outer))(hl:s.heap.FunFrames base (env::outer))(hf:env.frame=some L)(he:s.heap.get? e=some oe)(hd:oe.data=.fields vs)(hsz:1<vs.size)
  (h:∀ h' T oT ts,Entry (env::outer) e oe vs s.heap h' T oT ts→Q () { s with heap:=h' }) :
  wpAny M A (do let a ← frameOf env;let pl ← entryPlaceOf L had;let b ← EntryCells.newEntry head a .none (rawInt L) .none pl;PySem.setField (.ref e) 1 b) (fun _ s'=>wpAny M A (setFlight (.ref e) none) Q E s') E s:=by
 have hne:e∉(env::outer).filterMap (·.frame):=fun hm=>by
  obtain⟨_,o,ho,q⟩:=hl.mem hm
  obtain rfl:=some_eq he ho
  exact q vs hd
 refine wpAny_bind (wpAny_frameOf_fun hfr hl hf fun h₁ hs=>wpAny_bind (wpAny_entryPlaceOf fun pl hpl=>?_))
 unfold EntryCells.newEntry newFields
 refine wpAny_bind (wpAny_newObj_type ?_ (hpl.sizeOk5 _ _ _ _ _))
 obtain⟨ts,hts⟩:∃ ts:Array Value,ts=([head,.ref L,.none,rawInt L,.none]++(if pl.isEmpty then List.replicate 6 Value.none else pl)).toArray:=⟨_,rfl⟩
 have h3:3<ts.size:=by rw[hts];simp
 rw[← hts]
 obtain⟨T,hT⟩:∃ T,T=h₁.objs.size:=⟨_,rfl⟩
 rw[← hT]
 have he₁:h₁.get? e=some oe:=(hs.2.1 e hne).trans he
 have hTe:T≠e:=hT▸Nat.ne_of_gt (Heap.lt_size he₁)
 have nT:∀ {b o},h₁.get? b=some o→T≠b:=fun {b o} hb=>hT▸Nat.ne_of_gt (Heap.lt_size hb)
 have tb:(h₁.push { cls:=.type "traceback", data:=.fields ts }).get? T=some { cls:=.type "traceback", data:=.fields ts }:=hT▸Heap.get?_push_size h₁ rfl
 have up:∀ {b o},h₁.get? b=some o→(h₁.push { cls:=.type "traceback", data:=.fields ts }).get? b=some o:=fun hb=>Heap.get?_push_of_some _ hb
 refine wpAny_setField (up he₁) hd hsz ?_
 have it:=Heap.get?_update_self (Obj.mapFields (·.setIfInBounds 1 (Value.ref T))) (up he₁) (Obj.isFreed_of_fields (Obj.data_mapFields hd _))
 have tb₁:=(Heap.get?_update_other _ (Obj.mapFields (·.setIfInBounds 1 (Value.ref T))) (Ne.symm hTe)).trans tb
 unfold setFlight
 refine wpAny_bind (wpAny_field it (Obj.data_mapFields hd _) (x:=.ref T) (by simp[hsz]) ?_)
 rw[if_pos (show (Value.ref T != Value.none)=true from by simp)]
 refine wpAny_setField tb₁ rfl h3 (h _ T _ _ ⟨fun b o h1 h2 h3=>?_,fun b o h1 h3=>?_,?_,?_,hsz,hTe,Heap.get?_update_self _ tb₁ rfl,rfl,by simp[h3]⟩)
 ·have h4:=(hs.2.1 b h1).trans h3
  exact (Heap.get?_update_other _ _ (nT h4)).trans ((Heap.get?_update_other _ _ (Ne.symm h2)).trans (up h4))
 ·obtain⟨sl,h4⟩:=hs.2.2 b o h3
  exact⟨sl,(Heap.get?_update_other _ _ (nT h4)).trans ((Heap.get?_update_other _ _ (fun q=>hne (by rw[q];exact h1))).trans (up h4))⟩
 ·exact Heap.get?_none_of_le (by rw[hT,hs.1];exact Nat.le_refl _)
 ·refine (Heap.get?_update_other _ _ hTe).trans (it.trans ?_)
  obtain⟨c,dd,dt,sl⟩:=oe
  subst hd
  rfl
noncomputable def KeepF (C:Cx)(ρ:List Addr)(o:Obj)(h':Heap)(b:Addr):Prop:=h'.get? b=some o∨((C.base.get? b=none∧b∉ρ)∧o.cls=.type "frame" ∧ ∃ sl,h'.get? b=some { o with slots:=sl })
theorem KeepF.o {C:Cx}{ρ:List Addr}{o:Obj}{h':Heap}{b:Addr}(k:KeepF C ρ o h' b):KeepO o h' b:=k.imp id fun q=>q.2
open PySem.W in
theorem land_fly {M:Model}{A:Around}{E:Value→Shared→Prop}{Q:Unit→Shared→Prop}{C:Cx}{h₀:Heap}{s:Shared}{N:Addr→Prop}{c:Str}{e:Addr}{env:Env}{outer:List Env}{ρ:List Addr}
  (hA:A.frames=some C.aux.frs) (hc:C.aux.frs=env::outer) (hF:FrsOk C s.heap ρ) (hf:Fly C h₀ s.heap N c e) (h0:∀ b,s.heap.get? b=none→h₀.get? b=none) (hI:∀ a,C.off a→∃ o,s.heap.get? a=some o)
  (hQ:∀ h' N',(∀ b,N' b→N b∨s.heap.get? b=none)→(∀ b o,s.heap.get? b=some o→¬ N b→KeepF C ρ o h' b)→(∀ b,N' b→∃ o,h'.get? b=some o)→Fly C h₀ h' N' c e→Q () { s with heap:=h' }) :
  wpAny M A (noteFrame (.ref e) env) (fun _ s₂=>wpAny M A (setFlight (.ref e) none) Q E s₂) E s:=by
 obtain⟨hnew,hit,k,o,vs,a0,hk,ho,hcl,hd,hv0,htr⟩:=hf
 have hfr:A.frames=some (env::outer):=hA.trans (congrArg some hc)
 obtain⟨_,L,oL,hL,_⟩:=hF.fr env (by rw[hc];exact .head _)
 have hmem:∀ z∈env::outer,z∈C.aux.frs:=fun z hz=>by rw[hc];exact hz
 have fr:∀ b,b∈(env::outer).filterMap (·.frame)→∃ o,s.heap.get? b=some o∧isFrm true o∧C.base.get? b=none∧b∉ρ:=fun b hb=>hF.frame (by rw[hc];exact hb)
 have hsz:1<vs.size:=Nat.lt_trans (by decide) (Array.getElem?_eq_some_iff.mp hv0.2).1
 /- what is left,whichever way: h₁ is the heap but for an older entry -/
 have fin:∀ h₁:Heap,(∀ b o,s.heap.get? b=some o→h₁.get? b=some o∨N b)→(∀ b,h₁.get? b=none→s.heap.get? b=none)→∀ h' T oT ts,Entry (env::outer) e o vs h₁ h' T oT ts→Q () { s with heap:=h' }:=by
  intro h₁ hk₁ hn₁ h' T oT ts hE
  refine hQ h' (fun b=>b=e∨b=T) (fun b hb=>?_) (fun b o₁ hb hn=>?_) (fun b hb=>?_) ⟨fun b hb=>?_,.inl rfl,k,_,_,a0,hk,hE.it,hcl,rfl,⟨?_,?_⟩,.inr ⟨T,oT,ts,?_,hE.ne,hE.tb,hE.dat,hE.fl,.inr rfl⟩⟩
  ·rcases hb with rfl | rfl
   ·exact .inl hit
   ·exact .inr (hn₁ _ hE.new)
  ·have h1:=(hk₁ b o₁ hb).resolve_right hn
   by_cases hm:b∈(env::outer).filterMap (·.frame)
   ·obtain⟨o₂,q1,q2,q5⟩:=fr b hm
    obtain rfl:=some_eq hb q1
    obtain⟨sl,q3⟩:=hE.frs b o₁ hm h1
    exact .inr ⟨q5,q2.1,sl,q3⟩
   ·exact .inl (hE.same b o₁ hm (fun q=>hn (q▸hit)) h1)
  ·rcases hb with rfl | rfl
   ·exact⟨_,hE.it⟩
   ·exact⟨_,hE.tb⟩
  ·rcases hb with rfl | rfl
   ·exact hnew _ hit
   ·have q:=hn₁ _ hE.new
    exact⟨h0 _ q,fun z=>by obtain⟨o₂,z⟩:=hI _ z;exact no_eq z q⟩
  ·rw[Array.getElem?_setIfInBounds_ne (by decide)];exact hv0.1
  ·rw[Array.getElem?_setIfInBounds_ne (by decide)];exact hv0.2
  ·rw[Array.getElem?_setIfInBounds_self_of_lt hE.sz]
 have funs:=hF.funs (base:=C.base) hmem fun b hb=>let ⟨_,_,_,q,_⟩:=fr b hb;q
 unfold noteFrame
 simp only[hL]
 rcases htr with h1 | ⟨T,oT,ts,h1,hTe,hT,hdT,h3,hNT⟩
 ·refine wpAny_bind (wpAny_field ho hd h1 ?_)
  rw[if_neg (by decide)]
  exact new_entry hfr funs hL ho hd hsz (fin s.heap (fun b o q=>.inl q) fun b q=>q)
 ·refine wpAny_bind (wpAny_field ho hd h1 ?_)
  rw[if_pos (show (Value.ref T != Value.none)=true from by simp)]
  refine wpAny_bind (wpAny_field hT hdT h3 ?_)
  rw[if_neg (show ¬ ((Value.none==rawInt L)=true) from by simp[rawInt])]
  refine wpAny_bind (wpAny_setField hT hdT (Array.getElem?_eq_some_iff.mp h3).1 ?_)
  have other:∀ b,b≠T→(s.heap.update T (Obj.mapFields (·.setIfInBounds 3 Value.none))).get? b=s.heap.get? b:=fun b hb=>Heap.get?_update_other _ _ (Ne.symm hb)
  refine new_entry hfr (funs.of_keeps fun b o hb hnf=>⟨o,(other b fun q=>?_).trans hb,rfl⟩) hL ((other e (Ne.symm hTe)).trans ho) hd hsz (fin _ (fun b o q=>?_) fun b q=>?_)
  ·rw[q,hT] at hb;obtain rfl:=Option.some.inj hb;exact hnf ts hdT
  ·by_cases z:b=T
   ·exact .inr (z▸hNT)
   ·exact .inl ((other b z).trans q)
  ·by_cases z:b=T
   ·rw[z,Heap.get?_update_self _ hT (Obj.isFreed_of_fields (Obj.data_mapFields hdT _))] at q;cases q
   ·exact (other b z).symm.trans q
theorem pass_inv {C C₂:Cx}{h h':Heap}{ρ:List Addr}{N N':Addr→Prop}{obs:List Ob}(hC:∃ f x,C₂=C.at f x)(hoff:∀ b,C.off b→C₂.off b)(I:Inv (C₂.hide N) h ρ obs)(q1:∀ b,N' b→N b∨h.get? b=none)
  (q2:∀ b o,h.get? b=some o→¬ N b→KeepF C ρ o h' b) (q3:∀ b,N' b→∃ o,h'.get? b=some o) (hnew:∀ b,N b→C.base.get? b=none∧¬ C₂.off b):Inv (C.hide N') h' ρ obs:=by
 have hb:C₂.base=C.base:=by obtain⟨f,x,q⟩:=hC;rw[q];rfl
 have hx:∃ f x,C.hide N'=(C₂.hide N).at f x:=by obtain⟨f,x,q⟩:=hC;rw[q];exact⟨_,_,rfl⟩
 have nN:∀ {b o},h.get? b=some o→¬ N b→¬ N' b:=fun {b o} h1 h2 h3=>by
  rcases q1 b h3 with z | z
  ·exact h2 z
  ·exact no_eq h1 z
 have mv:Mv ρ.length (C₂.hide N) h ρ (C.hide N') h' ρ:=⟨hx,fun _ _ _ q=>q,fun b o h1 h2 h3 =>
  have n:¬ N b:=fun q=>h2.2 (.inr q)
  ⟨(q2 b o h1 n).o.val (isVal_cls h3),h2.1,fun q=>q.elim (fun z=>h2.2 (.inl (hoff b z))) (nN h1 n)⟩⟩
 have led:∀ {a},a∈ρ→∃ o,h.get? a=some o∧¬ N a∧h'.get? a=some o:=fun {a} ha=>by
  obtain⟨o,ho⟩:=I.mem ha
  have n:¬ N a:=fun q=>(I.new a ha).2 (.inr q)
  refine⟨o,ho,n,?_⟩
  rcases q2 a o ho n with q | q
  ·exact q
  ·exact absurd ha q.1.2
 refine⟨fun b o h1=>?_,I.len,I.nodup,by show ∃ o,C.base.get? sysModules=some o;rw[← hb];exact I.sys,fun a ha=>?_,fun a q=>?_,fun i o ho=>?_⟩
 ·have h1:C.base.get? b=some o:=h1
  have h2:=I.base b o (by show C₂.base.get? b=some o;rw[hb];exact h1)
  rcases q2 b o h2 (fun q=>by exact no_eq h1 ((hnew b q).1)) with q | q
  ·exact q
  ·exact no_eq h1 q.1.1
 ·obtain⟨o,h1,h2,_⟩:=led ha
  exact⟨by show C.base.get? a=none;rw[← hb];exact (I.new a ha).1,fun q=>q.elim (fun z=>(I.new a ha).2 (.inl (hoff a z))) (nN h1 h2)⟩
 ·rcases q with q | q
  ·obtain⟨o,h1⟩:=I.hid a (.inl (hoff a q))
   obtain⟨o',h2,_⟩:=(q2 a o h1 fun z=>(hnew a z).2 (hoff a q)).o.data
   exact⟨o',h2⟩
  ·exact q3 a q
 ·obtain⟨a,h1,h2⟩:=I.ob i o ho
  obtain⟨o',h3,_,h4⟩:=led (List.mem_of_getElem? h1)
  exact⟨a,h1,h2.move mv h2.lt (by rw[h3,h4])⟩
theorem leave_call {C:Cx}{s:Shared}{h₁:Heap}{tk:Nat}{ρ ρ':List Addr}{env':Env}{sc:Scope}{ns:List Str}{x:Aux}{d:Nat}{A:Around}(hx:x.frs=env'::C.aux.frs)(hA:AOk x d A)(g:Grows s.heap h₁)(hbase:C.base.StaysIn s.heap)(hown:∀ b,Own env' b→s.heap.get? b=none){c:Str}{st':St}{v:Value}{s':Shared}{E:Value→Shared→Prop}
  (r:Raised (C.hide (Own env') x) env' sc ns { s with heap:=h₁,toks:=tk } ρ c st' v s' ρ')
  (hE:∀ e N s' ρ',Inv (C.hide N) s'.heap ρ' st'.obs→Ext Nil s ρ s' ρ'→Fly C s.heap s'.heap N c e→E (.ref e) s'):wpAny (model C.prog C.w) A (leaving env' v) (fun _ s''=>E v s'') (fun e' s''=>E e' s'') s':=by
 obtain⟨e,N,rfl,S',e',f⟩:=r
 unfold leaving
 refine wpAny_bind (land_fly (C:=C.hide (Own env') x) (ρ:=ρ') hA.frames hx S'.frm.frs f (fun b q=>e'.was q) (fun a q=>S'.inv.hid a (.inl q)) fun h' N' q1 q2 q3 q4=>hE e N' _ ρ' ?_ ?_ ?_)
 ·refine pass_inv ⟨_,_,rfl⟩ (fun b q=>.inl q) S'.inv q1 q2 q3 fun b q=>⟨?_,(f.new b q).2⟩
  cases z:C.base.get? b with
  | none=>rfl
  | some o =>
   have:=g b o (hbase b o z)
   exact no_eq this ((f.new b q).1)
 ·refine⟨e'.pre,fun b hb=>?_,fun b o hb hn _=>?_,fun b o hb=>?_,e'.gens,e'.drawn,e'.os⟩
  ·rcases e'.fresh b hb with q | q
   ·exact .inl q
   ·cases z:s.heap.get? b with
    | none=>exact .inr rfl
    | some o=>have:=g b o z;exact no_eq this q
  ·refine (e'.keep b o (g b o hb) hn fun q=>by exact no_eq hb (hown b q)).trans fun o' ho'=>(q2 b o' ho' fun q=>?_).o
   have:=g b o hb
   exact no_eq this ((f.new b q).1)
  ·obtain⟨o',h1⟩:=e'.alive b o (g b o hb)
   obtain⟨o'',h2,_⟩:=(q2 b o' h1 fun q=>by have:=g b o hb;exact no_eq this ((f.new b q).1)).o.data
   exact⟨o'',h2⟩
 ·refine⟨fun b q=>⟨?_,fun z=>(q4.new b q).2 (.inl z)⟩,q4.it,q4.obj⟩
  cases z:s.heap.get? b with
  | none=>rfl
  | some o=>have:=g b o z;exact no_eq this ((q4.new b q).1)
theorem bind_frm {M:Model}{A:Around}{E:Value→Shared→Prop}{s₀:Shared}{env:Env}(f:Str×Value→PUnit→Sem (ForInStep PUnit))(hf:∀ n v u,f (n,v) u=(do storeName env n v;pure (.yield ⟨⟩)))(hk:env.scope.kind=.function) :
  ∀ (binds:List (Str×Value)) (m cm:Str→Option Value) (s:Shared) (Q:PUnit→Shared→Prop),InCallC s₀ env.locals m env.cells cm s→(∃ o,s.heap.get? env.locals=some o∧isFrm true o) →
   (∀ x∈binds,env.kindOf x.1=some .local∨(env.kindOf x.1=some .cell∧(env.cells.lookup x.1).isSome=true)) →
   (∀ s',InCallC s₀ env.locals (bindL env.kindOf binds m) env.cells (bindC env.kindOf binds cm) s'→(∃ o,s'.heap.get? env.locals=some o∧isFrm true o)→Q ⟨⟩ s')→wpAny M A (forIn binds ⟨⟩ f) Q E s
 | [],m,cm,s,Q,x,hF,_,h=>by rw[List.forIn_nil];exact wpAny_pure (h s x hF)
 | (n,v)::r,m,cm,s,Q,x,⟨o,ho,hF⟩,hkind,h=>by
  rw[List.forIn_cons,hf]
  have hr:=fun y (hy:y∈r)=>hkind y (List.mem_cons_of_mem _ hy)
  rcases hkind (n,v) List.mem_cons_self with hl | ⟨hl,hc⟩
  ·refine wpAny_bind (wpAny_bind (wpAny_mono (store_frm hl x.toInCall.ns (by rw[hk];rfl) (stLC (Q:=fun _ s'=>InCallC s₀ env.locals (fun y=>if y=n then some v else m y) env.cells cm s') x hk hl fun s' x'=>x')) (fun _ s' z=>wpAny_pure (bind_frm f hf hk r _ _ s' Q z.1 (z.2 o ho hF) hr fun s'' x''=>h s'' ?_)) fun _ _ q=>q))
   unfold bindL bindC;rw[if_pos hl,if_pos hl];exact x''
  ·obtain⟨c,hc⟩:=Option.isSome_iff_exists.mp hc
   have hnl:¬ env.kindOf n=some .local:=by rw[hl];decide
   have hLc:=x.above n c (mem_of_lookup hc)
   refine wpAny_bind (wpAny_bind (wpAny_storeName_cell hk hl hc (x.cell n c hc) fun h' hc' hs'=>wpAny_pure (bind_frm f hf hk r m (fun y=>if y=n then some v else cm y) _ Q ⟨⟨?_,x.toInCall.ns.sameBut hs' (Nat.ne_of_lt hLc),fun b o e=>?_,x.toInCall.fresh⟩,fun k c' hk'=>?_,x.apart,x.above⟩ ⟨o,(hs'.2 _ (Nat.ne_of_lt hLc)).trans ho,hF⟩ hr fun s'' x''=>h s'' ?_)))
   ·obtain⟨h₁,tk,rfl⟩:=x.toInCall.same
    exact⟨h',_,rfl⟩
   ·exact hs'.extBut b o (Nat.ne_of_lt (Nat.lt_trans (Nat.lt_of_lt_of_le (Heap.lt_size e) x.toInCall.fresh) hLc)) (x.toInCall.keep b o e)
   ·by_cases hkn:k=n
    ·subst hkn
     obtain rfl:=some_eq hc hk'
     simpa using hc'
    ·rw[if_neg hkn]
     exact (x.cell k c' hk').sameBut hs' fun e=>hkn (name_of_addr x.apart (mem_of_lookup hk') (e▸mem_of_lookup hc))
   ·unfold bindL bindC;rw[if_neg hnl,if_neg hnl];exact x''
theorem call_frm {prog:Program}{w:World}{A:Around}{s:Shared}{R:Result→Shared→Prop}{a:Addr}{o:Obj}{fd:FuncData}{body:List Stmt}{vals:List Value}{binds:List (Str×Value)}
  (hroom:A.depth<recursionLimit) (ho:s.heap.get? a=some o) (hdata:o.data=.func fd) (hlim:s.heap.NoLimit) (hcd:s.heap.CodeRec fd.code fd.qualname)
  (hbody:fd.body=.stmts body) (hbind:bindArgs fd ⟨vals,[]⟩=pure binds) (hclo:fd.closure=[])
  (hkind:∀ x∈binds,fd.scope.names.lookup x.1=some .local∨(fd.scope.names.lookup x.1=some .cell∧((cellsFrom (s.heap.objs.size+1) fd.scope.names []).lookup x.1).isSome=true))
  (h:∀ s₁,InCallC s (callEnvC fd s.heap.objs.size a).locals (bindL (callEnvC fd s.heap.objs.size a).kindOf binds fun _=>none) (callEnvC fd s.heap.objs.size a).cells
    (bindC (callEnvC fd s.heap.objs.size a).kindOf binds fun _=>none) s₁→(∃ o,s₁.heap.get? (callEnvC fd s.heap.objs.size a).locals=some o∧isFrm true o) →
   wpAny (model prog w) (A.deeper (callEnvC fd s.heap.objs.size a)) (execs body (callEnvC fd s.heap.objs.size a)) (fun f s'=>R (.ok (.ret (match f with | .ret v=>v | _=>.none))) s')
    (fun e s'=>wpAny (model prog w) (A.deeper (callEnvC fd s.heap.objs.size a)) (leaving (callEnvC fd s.heap.objs.size a) e) (fun _ s''=>R (.error e) s'') (fun e' s''=>R (.error e') s'') s') s₁)
  (hco:fd.scope.isCoroutine=false) (hgen:fd.scope.isGenerator=false) (hk:fd.scope.kind=.function) :
  codeAny (model prog w) A (.call (.ref a) ⟨vals,[]⟩) R s:=by
 refine codeAny_call_function hroom ho hdata hco hgen hbody hcd ?_
 rw[hbind,hclo]
 refine wpAny_pure ?_
 simp only[newFunctionEnv,Option.isSome_none,Bool.false_eq_true,if_false]
 refine wpAny_bind (wpAny_alloc ?_)
 refine wpAny_bind (wpAny_layCells _ (fun name kind cells=>by cases hkc:kind==NameKind.cell <;> simp[hkc]) _ _ _ _ ?_)
 have ok:=cellsFrom_ok fd.scope.names (s.heap.push { cls:=.type "frame", data:=.dict #[] }) (s.heap.objs.size+1) [] ⟨fun _ _ hm=>(nomatch hm),List.Pairwise.nil⟩ (by rw[Heap.size_push];exact Nat.le_refl _)
 rw[Heap.size_push] at ok
 rw[show ({ s with heap:=s.heap.push { cls:=.type "frame", data:=.dict #[] } }:Shared).heap.objs.size=s.heap.objs.size+1 from Heap.size_push ..]
 refine wpAny_bind (bind_frm (s₀:=s) (env:=callEnvC fd s.heap.objs.size a) _ (fun _ _ _=>rfl) hk binds (fun _=>none) (fun _=>none) _ _
  ⟨⟨⟨_,_,rfl⟩,(Heap.Ns.new s.heap (.type "frame")).keeps (pushCells_keeps _ _),fun b o e=>pushCells_keeps _ _ b o (Heap.get?_push_of_some _ e),Nat.le_refl _⟩,
   fun n c hc=>(ok.empty n c (mem_of_lookup hc)).1,ok.apart,fun n c hm=>(ok.empty n c hm).2⟩
  ⟨_,pushCells_keeps _ _ _ _ (Heap.get?_push_size _ rfl),rfl,_,_,rfl⟩ hkind fun s' x hF=>wpAny_pure ⟨hlim.keeps x.toInCall.keep,codeAny_func (h s' x hF)⟩)
noncomputable def flowVal:PySem.Flow→Value
 | .ret v=>v
 | _=>.none
theorem call_core {C:Cx}{d:Nat}{f:FnD}{a:Addr}{mb:M Flow}(hlim:C.base.NoLimit)(hf:FnOk C f a)(hg:FnGood f)
  (hbody:∀ env g,EnvOk env f.scope→SndXs (C.at g ⟨env::C.aux.frs,C.aux.hot⟩) d env f.scope (slotsOf f.scope) f.body mb)
  {vs:List V} {vals:List Value} {s:Shared} {ρ:List Addr} {obs:List Ob} (hv:VRs C s.heap ρ vs vals) {A:Around} {Q:Value→Shared→Prop} {E:Value→Shared→Prop} (hA:AOk2 C.aux d A) (hI:Inv C s.heap ρ obs) (hF:FrsOk C s.heap ρ) (hlen:vs.length=f.params.length)
  (hw1:wpM mb ⟨vs.map some++List.replicate ((slotsOf f.scope).length-f.params.length) none,obs⟩ (fun fl st'=>∀ val s' ρ',VR C s'.heap ρ' (flowV fl) val→Inv C s'.heap ρ' st'.obs→Ext Nil s ρ s' ρ'→Q val s')
   (fun c st'=>∀ e N s' ρ',Inv (C.hide N) s'.heap ρ' st'.obs→Ext Nil s ρ s' ρ'→Fly C s.heap s'.heap N c e→E (.ref e) s')):codeAny (model C.prog C.w) A (.call (.ref a) ⟨vals,[]⟩) (Back Q E) s:=by
 obtain⟨o,fd,ps,ho,hdat,hsc,hbd,hgl,hcl,hbl,hcd,hps,hpn,hdf⟩:=hf.fn
 have hkeep:=hI.base
 have hvl:vals.length=ps.length:=by rw[← hv.len,hlen,← hpn];simp
 have hpd:(ps.map (·.arg)).Nodup:=by
  rw[hpn];exact List.Nodup.sublist hg.pre.sublist (slots_nodup hg)
 have hslot:∀ x,x∈slotsOf f.scope→(x,NameKind.local)∈f.scope.names∨(x,NameKind.cell)∈f.scope.names:=fun x hx=>by
  unfold slotsOf at hx
  obtain⟨⟨y,k⟩,hp,rfl⟩:=List.mem_map.mp hx
  obtain⟨hp1,hp2⟩:=List.mem_filter.mp hp
  cases k <;> simp at hp2
  ·exact .inl hp1
  ·exact .inr hp1
 have hzip:∀ x∈(ps.map (·.arg)).zip vals,x.1∈slotsOf f.scope:=fun x hx=>by
  obtain⟨n,v⟩:=x
  exact hg.pre.subset (hpn▸(List.of_mem_zip hx).1)
 refine (call_frm (by have:=hA.depth;show A.depth<1000;exact Nat.lt_of_le_of_lt (Nat.le_trans (Nat.le_trans (Nat.le_add_right _ _) (Nat.le_add_right _ _)) this) (by decide)) (hkeep _ _ ho) hdat (hlim.keeps hkeep) (hcd.keeps hkeep) hbd (bindArgs_plain hps hdf hpd hvl) hcl (fun x hx=>?_) (fun s₁ hc hfr=>?_)
  (by rw[hsc];exact hg.co) (by rw[hsc];exact hg.gen) (by rw[hsc];exact hg.kind))
 ·rw[hsc]
  rcases hslot _ (hzip x hx) with q | q
  ·exact .inl (lookup_of_nodup hg.nodup q)
  ·exact .inr ⟨lookup_of_nodup hg.nodup q,cells_lookup (.inl q)⟩
 ·generalize he:callEnvC fd s.heap.objs.size a=env' at hc hfr ⊢
  have e6:env'.frame=some env'.locals:=by rw[← he];rfl
  have e1:env'.scope=f.scope:=by rw[← he];exact hsc
  have e2:env'.locals=s.heap.objs.size:=by rw[← he];rfl
  have e3:env'.globals=mainGlobals:=by rw[← he];exact hgl
  have e4:env'.builtins=builtinsNs:=by rw[← he];exact hbl
  have e5:env'.cells=cellsFrom (s.heap.objs.size+1) f.scope.names []:=by rw[← he,← hsc];rfl
  have hk':∀ x,env'.kindOf x=f.scope.names.lookup x:=fun x=>by show env'.scope.names.lookup x=_;rw[e1]
  obtain⟨h₁,tk,rfl,hkeep₁⟩:=hc.done
  have hnone:∀ {b:Addr},s.heap.objs.size≤b→s.heap.get? b=none:=fun hb=>Heap.get?_none_of_le hb
  have notIn:∀ {b:Addr},s.heap.objs.size≤b→b∉ρ:=fun hb hm=>by
   obtain⟨o',ho'⟩:=hI.mem hm
   exact no_eq ho' (hnone hb)
  have notB:∀ {b:Addr},s.heap.objs.size≤b→C.base.get? b=none:=fun {b} hb=>by
   cases q:C.base.get? b with
   | none=>rfl
   | some o'=>have:=hkeep b o' q;exact no_eq this (hnone hb)
  have g:Grows s.heap h₁:=hkeep₁
  have hex:Ext Nil s ρ { s with heap:=h₁,toks:=tk } ρ:=Ext.grows g
  have above:∀ {x:Str} {c:Addr},env'.cells.lookup x=some c→s.heap.objs.size≤c:=fun {x c} hl=>by
   have:=hc.above x c (lookup_mem hl)
   rw[e2] at this;exact Nat.le_of_lt this
  have hown:∀ b,Own env' b→s.heap.objs.size≤b:=fun b hb=>by
   rcases hb with rfl | ⟨x,_,hl⟩
   ·rw[e2];exact Nat.le_refl _
   ·exact above hl
  have hN:∀ b,Own env' b→s.heap.get? b=none∧∃ o,h₁.get? b=some o:=fun b hb=>by
   refine⟨hnone (hown b hb),?_⟩
   rcases hb with rfl | ⟨x,_,hl⟩
   ·obtain⟨o,_,_,ho,_⟩:=hc.toInCall.ns;exact⟨o,ho⟩
   ·obtain⟨o,ho,_⟩:=hc.cell x b hl;exact⟨o,ho⟩
  have S₁:State (C.hide (Own env') ⟨env'::C.aux.frs,C.aux.hot⟩) env' f.scope (slotsOf f.scope) { s with heap:=h₁,toks:=tk } ρ ⟨vs.map some++List.replicate ((slotsOf f.scope).length-f.params.length) none,obs⟩:=by
   refine⟨hI.hide g hN,⟨?_,⟨_,hc.toInCall.ns⟩,fun b hb=>.inr hb,notIn (hown _ (.inl rfl)),notB (hown _ (.inl rfl)),fun x hx=>?_,fun x y c h1 h2 h3 h4=>cells_inj hc.apart (lookup_mem h3) (lookup_mem h4),fun x i v h1 h2 h3=>?_,⟨fun z hz=>?_,(hF.grows g).hx⟩⟩⟩
   ·have:=hg.pre.length_le
    simp[hlen];exact Nat.add_sub_of_le this
   ·have hm:(x,NameKind.cell)∈f.scope.names:=lookup_mem ((hk' x)▸hx)
    have hsome:(env'.cells.lookup x).isSome=true:=by rw[e5];exact cells_lookup (.inl hm)
    obtain⟨c,hcx⟩:=Option.isSome_iff_exists.mp hsome
    exact⟨c,_,hcx,hc.cell x c hcx,notIn (above hcx),notB (above hcx)⟩
   ·have hi:i<vs.length:=by
     refine Nat.lt_of_not_le fun hle=>?_
     rw[List.getElem?_append_right (by simpa using hle),List.getElem?_replicate] at h3
     split at h3 <;> cases h3
    rw[List.getElem?_append_left (by simpa using hi),List.getElem?_map] at h3
    have hvi:vs[i]?=some v:=by
     cases q:vs[i]? with
     | none=>rw[q] at h3;cases h3
     | some w=>rw[q] at h3;cases h3;rfl
    obtain⟨val,hval,hr⟩:=hv.get hvi
    have hxi:(ps.map (·.arg))[i]?=some x:=by
     have:=idxLast_get h2
     obtain⟨t,ht⟩:=hg.pre
     rw[← ht,List.getElem?_append_left (by rw[← hlen];exact hi)] at this
     rw[hpn];exact this
    have hmem:(x,val)∈(ps.map (·.arg)).zip vals:=lookup_mem (lookup_zip_some hpd hxi hval)
    have hnd:(((ps.map (·.arg)).zip vals).map (·.1)).Nodup:=by
     rw[List.map_fst_zip (by simp[hvl])];exact hpd
    refine⟨val,?_,hr.move (.hide g fun b hb=>(hN b hb).1) hr.lt⟩
    rcases hslot x (List.mem_of_getElem? (idxLast_get h2)) with q | q
    ·have k:env'.kindOf x=some .local:=(hk' x).trans (lookup_of_nodup hg.nodup q)
     exact .inl ⟨k,_,hc.toInCall.ns,bindL_get _ hnd hmem k⟩
    ·have k:env'.kindOf x=some .cell:=(hk' x).trans (lookup_of_nodup hg.nodup q)
     have hsome:(env'.cells.lookup x).isSome=true:=by rw[e5];exact cells_lookup (.inl q)
     obtain⟨c,hcx⟩:=Option.isSome_iff_exists.mp hsome
     exact .inr ⟨k,c,hcx,by have:=hc.cell x c hcx;rw[bindC_get _ hnd hmem k] at this;exact this⟩
   ·rcases List.mem_cons.mp hz with rfl | hz
    ·obtain⟨o,q1,q2⟩:=hfr
     exact⟨by rw[e1,hg.kind];decide,z.locals,o,e6,q1,q2,notIn (hown _ (.inl rfl)),notB (hown _ (.inl rfl))⟩
    ·exact (hF.grows g).fr z hz
  refine (hbody env' (fun b=>C.off b∨Own env' b) (envOk_call hg e1 e3 e4)) (A.deeper env') _ ρ _ _ _ _ (hA.deeper env') S₁ (wpM_mono hw1 (fun fl st₂ hq flow s₂ ρ₂ hfl S₂ e₂=>?_) fun _ _ h=>h) (fun c st' x s' ρ' hx r=>leave_call (C:=C) (x:=⟨env'::C.aux.frs,C.aux.hot⟩) rfl (hA.deeper env') g hkeep (fun b hb=>hnone (hown b hb)) r hx)
  have S₂':State (C.hide (Own env') ⟨env'::C.aux.frs,C.aux.hot⟩) env' f.scope (slotsOf f.scope) s₂ ρ₂ st₂:=S₂
  have keep:∀ b o',s.heap.get? b=some o'→b∉ρ→¬ Nil b→KeepO o' s₂.heap b:=fun b o' hb hn _=>e₂.keep b o' (g b o' hb) hn fun q=>by exact no_eq hb (hnone (hown b q))
  have hkeep2:Ext Nil s ρ s₂ ρ₂:=by
   refine⟨e₂.pre,fun b hb=>?_,keep,fun b o' hb=>e₂.alive b o' (g b o' hb),e₂.gens,e₂.drawn,e₂.os⟩
   rcases e₂.fresh b hb with q | q
   ·exact .inl q
   ·exact .inr (hex.was q)
  have hval:∃ val,flowVal flow=val∧VR C s₂.heap ρ₂ (flowV fl) val:=by
   cases fl with
   | next=>obtain rfl:=hfl;exact⟨_,rfl,rfl⟩
   | ret v=>obtain⟨val,rfl,hr⟩:=hfl;exact⟨_,rfl,VR.show (N:=Own env') (z:=⟨env'::C.aux.frs,C.aux.hot⟩) hr⟩
  obtain⟨val,hv1,hv2⟩:=hval
  show Q (flowVal flow) s₂
  rw[hv1]
  exact hq val s₂ ρ₂ hv2 S₂'.inv.show hkeep2
theorem exc_drop {C C₀:Cx}{S:Addr→Prop}{s s₂:Shared}{ρ ρ₂:List Addr}{o o' o'':List Ob}(hI:Inv C₀ s.heap ρ o)(I₂:Inv C s₂.heap ρ₂ o')(e₂:Ext S s ρ s₂ ρ₂)(hd:keepL o o'=some o''):Inv C s₂.heap ρ o''∧Ext S s ρ s₂ ρ∧True:=by
 obtain⟨t,rfl⟩:=e₂.pre
 exact⟨hI.keeps I₂ hd,⟨⟨[],by simp⟩,fun b hb=>.inl hb,e₂.keep,e₂.alive,e₂.gens,e₂.drawn,e₂.os⟩,trivial⟩
theorem call_gen {C:Cx}{Φ:Shared→List Addr→St→Prop}(hΦ:∀ s ρ st,Φ s ρ st→Inv C s.heap ρ st.obs)(hΦF:∀ s ρ st,Φ s ρ st→FrsOk C s.heap ρ)(hΦ2:∀ s ρ st s' ρ' obs',Φ s ρ st→Ext Nil s ρ s' ρ'→Inv C s'.heap ρ' obs'→Φ s' ρ' { st with obs:=obs' })
  {d:Nat} {f:FnD} {a:Addr} {mb:M Flow} (hlim:C.base.NoLimit) (hf:FnOk C f a) (hg:FnGood f)
  (hbody:∀ env g,EnvOk env f.scope→SndXs (C.at g ⟨env::C.aux.frs,C.aux.hot⟩) d env f.scope (slotsOf f.scope) f.body mb) {raw:Bool}
  (env:Env) (vs:List V) (vals:List Value) (s:Shared) (ρ:List Addr) (st:St) (hv:VRs C s.heap ρ vs vals) (A:Around) (Q:Value→Shared→Prop) (E:Value→Shared→Prop) (X:Str→St→Prop) (hA:AOk2 C.aux d A) (hS:Φ s ρ st)
  (hw:wpM (runFn raw f.params.length (slotsOf f.scope).length mb vs) st (fun v st'=>∀ val s' ρ',VR C s'.heap ρ' v val→Φ s' ρ' st'→Ext Nil s ρ s' ρ'→Q val s') X)
  (hX:∀ c obs' e N s' ρ',X c { st with obs:=obs' }→Inv (C.hide N) s'.heap ρ' obs'→Ext Nil s ρ s' ρ'→Fly C s.heap s'.heap N c e→E (.ref e) s'):codeAny (model C.prog C.w) A (.call (.ref a) ⟨vals,[]⟩) (Back Q E) s:=by
 have hI:=hΦ s ρ st hS
 obtain⟨hlen,hw1⟩:=wpM_runFn hw
 refine call_core hlim hf hg hbody hv hA hI (hΦF s ρ st hS) hlen (wpM_mono hw1 (fun fl st₂ hq val s₂ ρ₂ hv2 I₂ e₂=>?_) fun c st₂ ⟨o,q1,q2⟩ e N s₂ ρ₂ I₂ e₂ f=>let ⟨z1,z2,z3⟩:=exc_drop hI I₂ e₂ q1;hX c o e N s₂ ρ q2 z1 z2 f)
 obtain⟨v,o',hse,hq⟩:=hq
 cases raw with
 | true =>
  cases hse
  exact hq val s₂ ρ₂ hv2 (hΦ2 _ _ _ _ _ _ hS e₂ I₂) e₂
 | false =>
  obtain⟨hk,hr⟩:=settle_some hse
  obtain⟨t,rfl⟩:=e₂.pre
  have I₃:=hI.keeps I₂ hk
  have hx:Ext Nil s ρ s₂ ρ:=⟨⟨[],by simp⟩,fun b hb=>.inl hb,e₂.keep,e₂.alive,e₂.gens,e₂.drawn,e₂.os⟩
  rw[← hI.len] at hr
  exact hq val s₂ ρ (res_ok I₂ 4 _ _ _ hr hv2) (hΦ2 _ _ _ _ _ _ hS hx I₃) hx
theorem call_snd {C:Cx}{d:Nat}{f:FnD}{a:Addr}{mb:M Flow}{raw:Bool}(hlim:C.base.NoLimit)(hf:FnOk C f a)(hg:FnGood f)
  (hbody:∀ env g,EnvOk env f.scope→SndXs (C.at g ⟨env::C.aux.frs,C.aux.hot⟩) d env f.scope (slotsOf f.scope) f.body mb):FSnd C d a (runFn raw f.params.length (slotsOf f.scope).length mb):=by
 intro env sc ns vs vals s ρ st hv A Q E X hA hS hw hX
 exact call_gen (Φ:=fun s ρ st=>State C env sc ns s ρ st) (fun _ _ _ h=>h.inv) (fun _ _ _ h=>h.frm.frs) (fun s ρ st s' ρ' obs' h e I=>⟨I,h.frm.ext e⟩) hlim hf hg hbody env vs vals s ρ st hv A Q E X hA hS hw fun c obs' e N s' ρ' hx I e' f=>hX _ _ _ _ _ hx ⟨e,N,rfl,rfl,I,e',f⟩
end Mine
namespace Mine
set_option backward.match.sparseCases false
open PySem PyProof.Rows
theorem wpM_chkObs {c:List (Nat×Ob)}{st:St}{Q:Unit→St→Prop}{X:Str→St→Prop}(h:wpM (chkObs c) st Q X):chkOk c st.obs∧Q () st:=by
 unfold wpM chkObs at h
 by_cases hc:chkOk c st.obs
 ·simp only[if_pos hc] at h
  exact⟨hc,h⟩
 ·simp only[if_neg hc] at h
structure IterOk (C:Cx)(d:Nat)(target:Expr)(items:List V)(chk:List (Nat×Ob))(it:Value)(fp:List Addr)(P:Nat→Heap→Prop)(ρ₀:List Addr)(ks:List V)(kx:List Value):Prop where
 frame:∀ (i:Nat) (h h':Heap),P i h→(∀ b:Addr,b∈fp→∀ o,h.get? b=some o→h'.get? b=some o)→P i h'
 there:∀ (i:Nat) (h:Heap),P i h→∀ b:Addr,b∈fp→∃ o vs,h.get? b=some o∧o.data=.fields vs∧NoF o∧isVal o=false
 next:∀ (f:Addr→Prop) (i:Nat) (A:Around) (s:Shared) (ρ:List Addr) (obs:List Ob) (Q:Value→Shared→Prop) (R:Option Value→Shared→Prop) (E:Value→Shared→Prop) (v:V),AOk C.aux d A→Inv (C.at f) s.heap ρ obs→VRs (C.at f) s.heap ρ ks kx→(∃ t,ρ=ρ₀++t)→chkOk chk obs→P i s.heap→(∀ b:Addr,b∈fp→b∉ρ)→items[i]?=some v →
  (∀ val s₁,wpAny (model C.prog C.w) A (letOwnedTupleGo target it val) (fun _ s₂=>Q val s₂) E s₁→R (some val) s₁) →
  (∀ val h' tk,VR (C.at f) h' ρ v val→P (i+1) h'→(∀ b o,b∉fp→s.heap.get? b=some o→h'.get? b=some o)→Q val { s with heap:=h',toks:=tk }) →
  wpAny (model C.prog C.w) A (pyNext it) R E s
 done:∀ (f:Addr→Prop) (i:Nat) (A:Around) (s:Shared) (ρ:List Addr) (obs:List Ob) (Q:Option Value→Shared→Prop) (E:Value→Shared→Prop),HandOk A s.heap→AOk C.aux d A→Inv (C.at f) s.heap ρ obs→VRs (C.at f) s.heap ρ ks kx→(∃ t,ρ=ρ₀++t)→chkOk chk obs→P i s.heap→(∀ b:Addr,b∈fp→b∉ρ)→items[i]?=none →
  (∀ h' tk,(∀ b o,b∉fp→s.heap.get? b=some o→h'.get? b=some o)→Q none { s with heap:=h',toks:=tk })→wpAny (model C.prog C.w) A (pyNext it) Q E s
 self:∀ (i:Nat) (A:Around) (s:Shared) (Q:Value→Shared→Prop) (E:Value→Shared→Prop),P i s.heap→Q it s→wpAny (model C.prog C.w) A (pyIter it) Q E s
noncomputable def SrcSnd (C:Cx)(d:Nat)(env:Env)(sc:Scope)(ns:List Str)(target:Expr)(e:Expr)(m:M Src):Prop :=
 ∀ (A:Around) (s:Shared) (ρ:List Addr) (st:St) (Q:Value→Shared→Prop) (E:Value→Shared→Prop) (X:Str→St→Prop),AOk C.aux d A→State C env sc ns s ρ st →
  wpM m st (fun src st'=>∀ it s' ρ' fp P ks kx,IterOk C d target src.items src.chk it fp P ρ' ks kx→VRs C s'.heap ρ' ks kx→P 0 s'.heap→(∀ b:Addr,b∈fp→b∉ρ'∧s.heap.get? b=none∧C.base.get? b=none)→State C env sc ns s' ρ' st'→Ext Nil s ρ s' ρ'→Q it s') X →
  (∀ c st' x s' ρ',X c st'→Raised C env sc ns s ρ c st' x s' ρ'→E x s')→wpAny (model C.prog C.w) A (eval e env) (fun x s₁=>wpAny (model C.prog C.w) A (pyIter x) Q E s₁) E s
structure IterZ (C:Cx)(d:Nat)(g:Addr→Prop)(target:Expr)(items:List V)(chk:List (Nat×Ob))(it:Value)(fp:List Addr)(P:Nat→Heap→Prop)(ρ₀:List Addr)(ks:List V)(kx:List Value):Prop where
 frame:∀ (i:Nat) (h h':Heap),P i h→(∀ b:Addr,b∈fp→∀ o,h.get? b=some o→h'.get? b=some o)→P i h'
 there:∀ (i:Nat) (h:Heap),P i h→∀ b:Addr,b∈fp→∃ o,h.get? b=some o∧((∃ vs,o.data=.fields vs)∨∃ vs n,o.data=.seq vs n)∧NoF o∧(g b∨isVal o=false)
 next:∀ (i:Nat) (A:Around) (s:Shared) (ρ:List Addr) (obs:List Ob) (Q:Value→Shared→Prop) (R:Option Value→Shared→Prop) (E:Value→Shared→Prop) (v:V),AOk C.aux d A→Inv (C.at g) s.heap ρ obs→VRs (C.at g) s.heap ρ ks kx→(∃ t,ρ=ρ₀++t)→chkOk chk obs→P i s.heap→(∀ b:Addr,b∈fp→b∉ρ)→items[i]?=some v →
  (∀ val s₁,wpAny (model C.prog C.w) A (letOwnedTupleGo target it val) (fun _ s₂=>Q val s₂) E s₁→R (some val) s₁) →
  (∀ val h' tk,VR (C.at g) h' ρ v val→P (i+1) h'→(∀ b o,b∉fp→s.heap.get? b=some o→h'.get? b=some o)→Q val { s with heap:=h',toks:=tk }) →
  wpAny (model C.prog C.w) A (pyNext it) R E s
 done:∀ (i:Nat) (A:Around) (s:Shared) (ρ:List Addr) (obs:List Ob) (Q:Option Value→Shared→Prop) (E:Value→Shared→Prop),HandOk A s.heap→AOk C.aux d A→Inv (C.at g) s.heap ρ obs→VRs (C.at g) s.heap ρ ks kx→(∃ t,ρ=ρ₀++t)→chkOk chk obs→P i s.heap→(∀ b:Addr,b∈fp→b∉ρ)→items[i]?=none →
  (∀ h' tk,(∀ b o,b∉fp→s.heap.get? b=some o→h'.get? b=some o)→(∀ b,b∈fp→g b→∃ o,h'.get? b=some o)→Q none { s with heap:=h',toks:=tk })→wpAny (model C.prog C.w) A (pyNext it) Q E s
noncomputable def SrcZ (C:Cx)(d:Nat)(env:Env)(sc:Scope)(ns:List Str)(target:Expr)(e:Expr)(m:M Src):Prop :=
 ∀ (A:Around) (s:Shared) (ρ:List Addr) (st:St) (Q:Value→Shared→Prop) (E:Value→Shared→Prop) (X:Str→St→Prop),AOk C.aux d A→State C env sc ns s ρ st →
  wpM m st (fun src st'=>∀ it s' ρ' fp P ks kx g,IterZ C d g target src.items src.chk it fp P ρ' ks kx→(∀ b,C.off b→g b)→VRs (C.at g) s'.heap ρ' ks kx→P 0 s'.heap→(∀ b:Addr,b∈fp→b∉ρ'∧s.heap.get? b=none∧C.base.get? b=none)→State (C.at g) env sc ns s' ρ' st'→Ext Nil s ρ s' ρ'→Q it s') X →
  (∀ c st' x s' ρ',X c st'→Raised C env sc ns s ρ c st' x s' ρ'→E x s')→wpAny (model C.prog C.w) A (eval e env) (fun x s₁=>wpAny (model C.prog C.w) A (pyIter x) Q E s₁) E s
theorem IterOk.z {C:Cx}{d:Nat}{target:Expr}{items:List V}{chk:List (Nat×Ob)}{it:Value}{fp:List Addr}{P:Nat→Heap→Prop}{ρ₀:List Addr}{ks:List V}{kx:List Value}(h:IterOk C d target items chk it fp P ρ₀ ks kx)(hn:∀ b,b∈fp→¬ C.off b):IterZ C d C.off target items chk it fp P ρ₀ ks kx where
 frame:=h.frame
 there:=fun i hh hp b hb=>let ⟨o,vs,h1,h2,h3,h4⟩:=h.there i hh hp b hb;⟨o,h1,.inl ⟨vs,h2⟩,h3,.inr h4⟩
 next:=h.next C.off
 done:=fun i A s ρ obs Q E hh hA hI hK hp hc hP hf hi hQ=>h.done C.off i A s ρ obs Q E hh hA hI hK hp hc hP hf hi fun h' tk hk=>hQ h' tk hk fun b hb q=>absurd q (hn b hb)
theorem SrcSnd.z {C:Cx}{d:Nat}{env:Env}{sc:Scope}{ns:List Str}{target e:Expr}{m:M Src}(h:SrcSnd C d env sc ns target e m):SrcZ C d env sc ns target e m:=fun A s ρ st Q E X hA hS hw hX =>
 h A s ρ st Q E X hA hS (wpM_mono hw (fun src st' hq it s' ρ' fp P ks kx hI hK hP hfp S e=>hq it s' ρ' fp P ks kx C.off (hI.z fun b hb=>hS.inv.notOff (hfp b hb).2.1) (fun _ q=>q) hK hP hfp S e) fun _ _ q=>q) hX
section
variable {C:Cx}{d:Nat}{env:Env}{sc:Scope}{ns:List Str}
theorem Own.notData {h:Heap}{ρ:List Addr}{vars:List (Option V)}(F:Frm C h ρ env sc ns vars){b:Addr}{o:Obj}(hb:h.get? b=some o)(hd:(∃ vs,o.data=.fields vs)∨∃ vs n,o.data=.seq vs n):¬ Own env b:=by
 rcases hd with ⟨vs,hd⟩ | ⟨vs,n,hd⟩
 ·exact Own.notFields F hb hd
 ·intro ho
  rcases ho with rfl | ⟨x,hk,hc⟩
  ·obtain⟨m,o',es,ep,ho',hd',_⟩:=F.loc
   obtain rfl:=some_eq hb ho';rw[hd] at hd';cases hd'
  ·obtain⟨c,v₀,q1,⟨o',q2,q3⟩,_⟩:=F.cell x hk
   obtain rfl:=some_eq hc q1;obtain rfl:=some_eq hb q2;rw[hd] at q3;cases q3
theorem State.un {g:Addr→Prop}{s:Shared}{ρ:List Addr}{st:St}(hS:State (C.at g) env sc ns s ρ st)(hg:∀ b,C.off b→g b)(ho:∀ b,Own env b→C.off b):State C env sc ns s ρ st∧Mv ρ.length (C.at g) s.heap ρ C s.heap ρ:=by
 have mv:Mv ρ.length (C.at g) s.heap ρ C s.heap ρ:=⟨⟨C.off,C.aux,rfl⟩,fun _ _ _ q=>q,fun b o hb hf _=>⟨hb,hf.1,fun q=>hf.2 (hg b q)⟩⟩
 have I:=hS.inv
 have F:=hS.frm
 exact⟨⟨⟨I.base,I.len,I.nodup,I.sys,fun a ha=>⟨(I.new a ha).1,fun q=>(I.new a ha).2 (hg a q)⟩,fun a q=>I.hid a (hg a q),fun i o ho=>let ⟨a,h1,h2⟩:=I.ob i o ho;⟨a,h1,h2.move mv h2.lt rfl⟩⟩,
  F.len,F.loc,ho,F.locN,F.locB,F.cell,F.inj,fun x i v h1 h2 h3=>let ⟨val,hl,hv⟩:=F.vals x i v h1 h2 h3;⟨val,hl,hv.move mv hv.lt⟩,F.frs⟩,mv⟩
theorem State.off {s:Shared}{ρ:List Addr}{st:St}(hS:State C env sc ns s ρ st){F:Addr→Prop}{h':Heap}{tk:Nat}(hk:∀ b o,¬ F b→s.heap.get? b=some o→h'.get? b=some o)
  (hfp:∀ b:Addr,F b→b∉ρ∧C.base.get? b=none∧¬ Own env b∧Aside C s.heap b∧(C.off b→∃ o,h'.get? b=some o)∧∀ o,s.heap.get? b=some o→NoF o):State C env sc ns { s with heap:=h',toks:=tk } ρ st:=by
 have eV:ExtV C s.heap ρ h' ρ:=⟨⟨[],by simp⟩,fun b o hb hn hv=>⟨hk b o (fun q=>(hfp b q).2.2.2.1.no hb hn hv) hb,hn.1⟩⟩
 have loc:∀ b,Own env b→¬ F b:=fun b ho q=>(hfp b q).2.2.1 ho
 have cells:∀ (x:Str) (c:Addr) (v:Option Value),env.kindOf x=some .cell→env.cells.lookup x=some c→s.heap.IsCell c v→h'.IsCell c v:=fun x c v hkx hc ⟨oc,h1,h2⟩=>⟨oc,hk c oc (loc c (.inr ⟨x,hkx,hc⟩)) h1,h2⟩
 have nsK:∀ {m},s.heap.Ns env.locals m→h'.Ns env.locals m:=fun ⟨o,es,ep,h1,h2⟩=>⟨o,es,ep,hk _ o (loc _ (.inl rfl)) h1,h2⟩
 have same:∀ a:Addr,a∈ρ→h'.get? a=s.heap.get? a:=fun a ha=>by
  obtain⟨o,ho⟩:=hS.inv.mem ha
  rw[ho];exact hk a o (fun q=>(hfp a q).1 ha) ho
 refine⟨⟨fun b o hb=>hk b o (fun q=>by exact no_eq hb ((hfp b q).2.1)) (hS.inv.base b o hb),hS.inv.len,hS.inv.nodup,hS.inv.sys,hS.inv.new,fun a q=>?_,fun i o ho=>let ⟨a,h1,h2⟩:=hS.inv.ob i o ho;⟨a,h1,h2.ext eV (same a (List.mem_of_getElem? h1))⟩⟩,hS.frm.len,hS.frm.loc.imp fun m hm=>nsK hm,hS.frm.off,hS.frm.locN,hS.frm.locB,fun x hx=>?_,hS.frm.inj,fun x i v h1 h2 h3=>?_,hS.frm.frs.to rfl rfl (fun b o _ hb _ hf _=>⟨o,hk b o (fun q=>((hfp b q).2.2.2.2.2 o hb).no hf) hb,hf⟩) fun _ _ _ _ q _=>q⟩
 ·obtain⟨o,ho⟩:=hS.inv.hid a q
  by_cases hF:F a
  ·exact (hfp a hF).2.2.2.2.1 q
  ·exact⟨o,hk a o hF ho⟩
 ·obtain⟨c,v₀,q1,q2,q3⟩:=hS.frm.cell x hx
  exact⟨c,v₀,q1,cells x c v₀ hx q1 q2,q3⟩
 ·obtain⟨val,hl,hv⟩:=hS.frm.vals x i v h1 h2 h3
  refine⟨val,?_,hv.ext eV⟩
  rcases hl with ⟨k,m,hm,hx⟩ | ⟨k,c,q1,q2⟩
  ·exact .inl ⟨k,m,nsK hm,hx⟩
  ·exact .inr ⟨k,c,q1,cells x c _ k q1 q2⟩
theorem State.off1 {s:Shared}{ρ:List Addr}{st:St}(hS:State C env sc ns s ρ st){D:Addr}{h':Heap}{tk:Nat}(hk:∀ b o,¬ b=D→s.heap.get? b=some o→h'.get? b=some o)(h1:D∉ρ)(h2:C.base.get? D=none)(h3:¬ Own env D)(h4:C.off D)(h5:∃ o,h'.get? D=some o)(h6:∀ o,s.heap.get? D=some o→NoF o):State C env sc ns { s with heap:=h',toks:=tk } ρ st :=
 hS.off (F:=fun b=>b=D) hk fun b hb=>by subst hb;exact⟨h1,h2,h3,.inl h4,fun _=>h5,h6⟩
theorem State.fp {s:Shared}{ρ:List Addr}{st:St}(hS:State C env sc ns s ρ st){fp:List Addr}{h':Heap}{tk:Nat}(hk:∀ b o,b∉fp→s.heap.get? b=some o→h'.get? b=some o)
  (hfp:∀ b:Addr,b∈fp→(b∉ρ∧¬ C.off b)∧C.base.get? b=none∧∃ o vs,s.heap.get? b=some o∧o.data=.fields vs∧NoF o∧isVal o=false):State C env sc ns { s with heap:=h',toks:=tk } ρ st :=
 hS.off (F:=fun b=>b∈fp) hk fun b hb=>by
  obtain⟨h1,h2,o,vs,h3,h4,h6,h5⟩:=hfp b hb
  exact⟨h1.1,h2,Own.notFields hS.frm h3 h4,.inr fun o' ho'=>by obtain rfl:=some_eq h3 ho';exact h5,fun q=>absurd q h1.2,fun o' ho'=>by obtain rfl:=some_eq h3 ho';exact h6⟩
theorem Ext.over {S T:Addr→Prop}{s s' s'':Shared}{ρ ρ' ρ'':List Addr}(x:Ext S s ρ s' ρ')(y:Ext T s' ρ' s'' ρ'')(hT:∀ b,T b→s.heap.get? b=none):Ext S s ρ s'' ρ'' :=
 ⟨by obtain⟨t,rfl⟩:=x.pre;obtain⟨u,rfl⟩:=y.pre;exact⟨t++u,by rw[List.append_assoc]⟩,
  fun a ha=>by
   rcases y.fresh a ha with q | q
   ·exact x.fresh a q
   ·exact .inr (x.was q),
  fun b o hb hn hS=>(x.keep b o hb hn hS).trans fun o' ho'=>y.keep b o' ho' (x.apart hb hn) fun q=>(by exact no_eq hb (hT b q)),
  fun b o hb=>let ⟨o',h'⟩:=x.alive b o hb;y.alive b o' h',y.gens.trans x.gens,y.drawn.trans x.drawn,y.os.trans x.os⟩
theorem Ext.one {s:Shared}{ρ:List Addr}{a:Addr}{h':Heap}{tk:Nat}{o':Obj}(hs:∀ b o,b≠a→s.heap.get? b=some o→h'.get? b=some o)(ho:h'.get? a=some o'):Ext (fun b=>b=a) s ρ { s with heap:=h',toks:=tk } ρ :=
 ⟨⟨[],by simp⟩,fun _ h=>.inl h,fun b o hb _ hn=>.inl (hs b o hn hb),fun b o hb=>by
  by_cases q:b=a
  ·subst q;exact⟨o',ho⟩
  ·exact⟨o,hs b o q hb⟩,rfl,rfl,rfl⟩
theorem Ext.fp' {s:Shared}{ρ:List Addr}{fp:List Addr}{h':Heap}{tk:Nat}(hs:∀ b o,b∉fp→s.heap.get? b=some o→h'.get? b=some o)(ha:∀ b:Addr,b∈fp→∃ o',h'.get? b=some o'):Ext (fun b=>b∈fp) s ρ { s with heap:=h',toks:=tk } ρ :=
 ⟨⟨[],by simp⟩,fun _ h=>.inl h,fun b o hb _ hn=>.inl (hs b o hn hb),fun b o hb=>by
  by_cases q:b∈fp
  ·exact ha b q
  ·exact⟨o,hs b o q hb⟩,rfl,rfl,rfl⟩
theorem Frm.extS {S:Addr→Prop}{s s':Shared}{ρ ρ':List Addr}{vars:List (Option V)}(F:Frm C s.heap ρ env sc ns vars)(x:Ext S s ρ s' ρ')(hO:∀ b,S b→¬ Own env b)(hv:∀ b,S b→Aside C s.heap b)(hN:∀ b o,S b→s.heap.get? b=some o→NoF o):Frm C s'.heap ρ' env sc ns vars:=by
 obtain⟨m,o,es,ep,ho,hd,hk⟩:=F.loc
 obtain⟨o',ho',_,hd',_⟩:=(x.keep _ o ho F.locN fun q=>hO _ q (.inl rfl)).data
 have cells:∀ (y:Str) (c:Addr) (v:Option Value),env.kindOf y=some .cell→env.cells.lookup y=some c→s.heap.IsCell c v→c∉ρ→s'.heap.IsCell c v∧c∉ρ':=fun y c v hy hc' ⟨oc,hc,hcd⟩ hn =>
  let ⟨o₁,h1,_,h2,_⟩:=(x.keep c oc hc hn fun q=>hO _ q (.inr ⟨y,hy,hc'⟩)).data;⟨⟨o₁,h1,h2.trans hcd⟩,x.apart hc hn⟩
 refine⟨F.len,⟨m,o',es,ep,ho',hd'.trans hd,hk⟩,F.off,x.apart ho F.locN,F.locB,fun y hy=>?_,F.inj,fun y i v h1 h2 h3=>?_,F.frs.to rfl rfl (fun b o _ hb hn hf _=>hf.keep (x.keep b o hb hn fun q=>(hN b o q hb).no hf)) fun b o _ hb hn _=>x.apart hb hn⟩
 ·obtain⟨c,v₀,q1,q2,q3,q4⟩:=F.cell y hy
  exact⟨c,v₀,q1,(cells y c v₀ hy q1 q2 q3).1,(cells y c v₀ hy q1 q2 q3).2,q4⟩
 ·obtain⟨val,hl,hvv⟩:=F.vals y i v h1 h2 h3
  refine⟨val,?_,hvv.ext (x.extV hv)⟩
  rcases hl with ⟨k,m₁,⟨o₁,es₁,ep₁,ho₁,hd₁,hk₁⟩,hm⟩ | ⟨k,c,q1,q2⟩
  ·obtain rfl:=some_eq ho ho₁
   exact .inl ⟨k,m₁,⟨o',es₁,ep₁,ho',hd'.trans hd₁,hk₁⟩,hm⟩
  ·obtain⟨c',v₀,r1,_,r3,_⟩:=F.cell y k
   obtain rfl:=some_eq q1 r1
   exact .inr ⟨k,c,q1,(cells y c _ k q1 q2 r3).1⟩
theorem Ext.fp {S:Addr→Prop}{s₀ s:Shared}{ρ₀ ρ:List Addr}(x:Ext S s₀ ρ₀ s ρ){fp:List Addr}{h':Heap}{tk:Nat}(hk:∀ b o,b∉fp→s.heap.get? b=some o→h'.get? b=some o)(hfp:∀ b:Addr,b∈fp→s₀.heap.get? b=none) :
  Ext S s₀ ρ₀ { s with heap:=h',toks:=tk } ρ:=by
 have nf:∀ b o,s₀.heap.get? b=some o→b∉fp:=fun b o hb q=>by exact no_eq hb (hfp b q)
 refine⟨x.pre,x.fresh,fun b o hb hn hS=>?_,fun b o hb=>?_,x.gens,x.drawn,x.os⟩
 ·rcases x.keep b o hb hn hS with q | ⟨hc,sl,q⟩
  ·exact .inl (hk b o (nf b o hb) q)
  ·exact .inr ⟨hc,sl,hk b _ (nf b o hb) q⟩
 ·obtain⟨o',ho'⟩:=x.alive b o hb
  exact⟨o',hk b o' (nf b o hb) ho'⟩
theorem Ext.pre_trans {T:Addr→Prop}{s' s'':Shared}{ρ ρ' ρ'':List Addr}(h:∃ t,ρ'=ρ++t)(y:Ext T s' ρ' s'' ρ''):∃ t,ρ''=ρ++t:=by
 obtain⟨t,rfl⟩:=h
 obtain⟨u,rfl⟩:=y.pre
 exact⟨t++u,by rw[List.append_assoc]⟩
noncomputable def ForI (C:Cx)(env:Env)(sc:Scope)(ns:List Str)(items:List V)(fp:List Addr)(P:Nat→Heap→Prop)(s₀:Shared)(ρ₀ ρ₁:List Addr)(ks:List V)(kx:List Value)(W:List V→St→Prop)(n:Nat)(s:Shared):Prop :=
 ∃ i ρ st,n=items.length-i∧State C env sc ns s ρ st∧P i s.heap∧(∀ b:Addr,b∈fp→b∉ρ)∧Ext (Own env) s₀ ρ₀ s ρ∧(∃ t,ρ=ρ₁++t)∧VRs C s.heap ρ ks kx∧W (items.drop i) st
theorem drop_of_none {α:Type}{l:List α}{i:Nat}(h:l[i]?=none):l.drop i=[]:=List.drop_eq_nil_of_le (by simpa using h)
theorem drop_of_some {α:Type}{l:List α}{i:Nat}{v:α}(h:l[i]?=some v):l.drop i=v::l.drop (i+1):=by
 have hlt:i<l.length:=(List.getElem?_eq_some_iff.mp h).1
 rw[List.drop_eq_getElem_cons hlt]
 congr 1
 rw[List.getElem?_eq_getElem hlt] at h;exact Option.some.inj h
theorem IterZ.keep {C₀:Cx}{g:Addr→Prop}{target:Expr}{items:List V}{chk:List (Nat×Ob)}{it:Value}{fp:List Addr}{P:Nat→Heap→Prop}{ρ₀:List Addr}{ks:List V}{kx:List Value}(hI:IterZ C₀ d g target items chk it fp P ρ₀ ks kx){i:Nat}{s s':Shared}{ρ ρ':List Addr}{st:St}(hS:State C env sc ns s ρ st)(hP:P i s.heap)
  (hn:∀ b:Addr,b∈fp→b∉ρ) (e:Ext (Own env) s ρ s' ρ'):P i s'.heap∧∀ b:Addr,b∈fp→b∉ρ':=by
 refine⟨hI.frame i _ _ hP fun b hb o ho=>?_,fun b hb=>?_⟩
 ·obtain⟨o',h1,h2,h3,h4⟩:=hI.there i _ hP b hb
  obtain rfl:=some_eq ho h1
  exact (e.keep b o ho (hn b hb) (Own.notData hS.frm ho h2)).val h3.cls
 ·obtain⟨o',h1,_⟩:=hI.there i _ hP b hb
  exact e.apart h1 (hn b hb)
theorem snd_for (hE:EnvOk env sc){t it:Expr}{b:List Stmt}{pos:Pos}{tg:Tg}{src:M Src}{mb:M Flow}(ht:TgtR sc ns t tg)(hs:SrcZ C d env sc ns t it src)(hb:∀ g,SndXs (C.at g) d env sc ns b mb)(hset:∀ x,foldedSetIterable it env x=pure x) :
  SndX C d env sc ns (.For t it b [] pos) (forM tg src mb):=.of fun A s₀ ρ₀ st₀ Q E X hA hS₀ hw=>by
 refine wpAny_For (hs A s₀ ρ₀ st₀ _ E X hA hS₀ (wpM_mono (wpM_bind.mp hw.1) (fun sr st₁ hw₁ itv s₁ ρ₁ fp P ks kx g hI hg hK hP hfp S₁ e₁=>?_) fun _ _ h=>h) hw.2) hset
 have ho:=hS₀.frm.off
 refine codeAny_forLoop_any (ForI (C.at g) env sc ns sr.items fp P s₀ ρ₀ ρ₁ ks kx fun l st=>wpM (forItems tg mb sr.chk l) st (fun v st'=>∀ val s' ρ',FlR C s'.heap ρ' v val→State C env sc ns s' ρ' st'→Ext (Own env) s₀ ρ₀ s' ρ'→Q val s') fun _ _=>False) ?_ _
  ⟨0,ρ₁,st₁,rfl,S₁,hP,fun b hb'=>(hfp b hb').1,e₁.nil,⟨[],by simp⟩,hK,by simpa using wpM_noX hw₁⟩
 intro n s hJ
 refine shut fun PP kk=>?_
 obtain⟨i,ρ,st,hn,hS,hPi,hfpρ,e,hpre,hKi,hwi⟩:=hJ
 have fresh₀:∀ b:Addr,b∈fp→s₀.heap.get? b=none:=fun b hb'=>(hfp b hb').2.1
 have aside:∀ b:Addr,b∈fp→Aside (C.at g) s.heap b:=fun b hb'=>by
  obtain⟨o,h1,_,_,h4⟩:=hI.there i _ hPi b hb'
  exact h4.elim .inl fun q=>.inr fun o' ho'=>by obtain rfl:=some_eq h1 ho';exact q
 have step:∀ {h':Heap} {tk:Nat},(∀ b o,b∉fp→s.heap.get? b=some o→h'.get? b=some o)→(∀ b,b∈fp→g b→∃ o,h'.get? b=some o)→State (C.at g) env sc ns { s with heap:=h',toks:=tk } ρ st:=fun hk hal =>
  hS.off (F:=fun b=>b∈fp) hk fun b hb'=>by
   obtain⟨o,h1,h2,h3,_⟩:=hI.there i _ hPi b hb'
   exact⟨hfpρ b hb',(hfp b hb').2.2,Own.notData hS.frm h1 h2,aside b hb',hal b hb',fun o' ho'=>by obtain rfl:=some_eq h1 ho';exact h3⟩
 cases hit:sr.items[i]? with
 | none =>
  rw[drop_of_none hit] at hwi
  have hcq:=wpM_chkObs (wpM_bind.mp hwi)
  have hq:=hcq.2
  refine kk (hI.done i A s ρ st.obs _ _ (hA.hand hS.frm.frs) hA hS.inv hKi hpre hcq.1 hPi hfpρ hit fun h' tk hk hal=>wpAny_execs_nil ?_)
  exact hq _ _ _ rfl ((step hk hal).un hg ho).1 (e.fp hk fresh₀)
 | some v =>
  have hlt:i<sr.items.length:=(List.getElem?_eq_some_iff.mp hit).1
  rw[drop_of_some hit] at hwi
  have hcq:=wpM_chkObs (wpM_bind.mp hwi)
  have hq:=hcq.2
  refine kk (hI.next i A s ρ st.obs _ _ _ v hA hS.inv hKi hpre hcq.1 hPi hfpρ hit (fun val s₁ h=>h) fun val h' tk hv hP' hk=>?_)
  ·have S₂:=step (tk:=tk) hk fun b hb' _=>let ⟨o,h1,_⟩:=hI.there _ _ hP' b hb';⟨o,h1⟩
   have e₂:Ext (Own env) s₀ ρ₀ { s with heap:=h',toks:=tk } ρ:=e.fp hk fresh₀
   refine at_asg (C:=C.at g) (S:=Own env) hE (fun _ q=>q) ht hv (fun _ _ _ _ q=>q.own) A _ _ (fun _ _=>False) hA S₂ (wpM_mono (wpM_bind.mp hq) (fun _ st₃ h₃ _ s₃ ρ₃ _ S₃ e₃=>?_) fun _ _ h=>h) (fun _ _ _ _ _ h _=>h.elim)
   refine hb g A s₃ ρ₃ st₃ _ _ (fun _ _=>False) hA S₃ (wpM_mono (wpM_bind.mp h₃) (fun f st₄ h₄ fl s₄ ρ₄ hfl S₄ e₄=>?_) fun _ _ h=>h) (fun _ _ _ _ _ h _=>h.elim)
   cases f with
   | ret v =>
    obtain⟨val,rfl,hr⟩:=hfl
    have SM:=S₄.un hg ho
    exact h₄ _ _ _ ⟨val,rfl,VR.move SM.2 (VR.lt hr) hr⟩ SM.1 (e₂.trans (e₃.trans e₄))
   | next =>
    obtain rfl:=hfl
    have p12:=hI.keep S₂ hP' hfpρ (e₃.trans e₄)
    have eK:ExtV (C.at g) s.heap ρ h' ρ:=⟨⟨[],by simp⟩,fun b o hb' hn' hv'=>⟨hk b o (fun q=>(aside b q).no hb' hn' hv') hb',hn'.1⟩⟩
    have hK₄:=(hKi.ext eK).ext ((e₃.trans e₄).extV (C:=C.at g) (s:={ s with heap:=h',toks:=tk }) fun b q=>own_aside S₂.frm b q)
    exact⟨sr.items.length-(i+1),hn▸Nat.sub_lt_sub_left hlt (Nat.lt_succ_self i),i+1,ρ₄,st₄,rfl,S₄,p12.1,p12.2,e₂.trans (e₃.trans e₄),Ext.pre_trans hpre (e₃.trans e₄),hK₄,h₄⟩
end
end Mine
namespace Mine
open PySem PyProof.Rows
noncomputable def tupleOwners:List String:=["enumerate", "zip", "dict_itemiterator", "dict_reverseitemiterator", "odict_iterator", "itertools.zip_longest", "itertools.pairwise"]
theorem owned_skip {M:Model}{A:Around}{E:Value→Shared→Prop}{s:Shared}{target:Expr}{I:Addr}{val:Value}{Q:Unit→Shared→Prop}{o:Obj}{n:String}(ho:s.heap.get? I=some o)(hc:o.cls=.type n)(hn:tupleOwners.contains n=false)(hQ:Q () s) :
  wpAny M A (letOwnedTupleGo target (.ref I) val) Q E s:=by
 have key:wpAny M A (do
  let (.ref r,.ref a):=((Value.ref I),val) | return
  let o ← load r
  match o.cls,o.data with
  | .type n,.fields vs =>
   if ["enumerate", "zip", "dict_itemiterator", "dict_reverseitemiterator", "odict_iterator", "itertools.zip_longest", "itertools.pairwise"].contains n&&vs[0]?==some (rawInt a) then
    rule "for.unpacks-the-owned-tuple"
    updateField r 0 .none
  | _,_=>pure ()) Q E s:=by
  cases val <;> first | exact wpAny_pure hQ | skip
  refine wpAny_bind (wpAny_load ho ?_)
  rw[hc]
  cases o.data <;> first | exact wpAny_pure hQ | skip
  have hn':(["enumerate", "zip", "dict_itemiterator", "dict_reverseitemiterator", "odict_iterator", "itertools.zip_longest", "itertools.pairwise"]:List String).contains n=false:=hn
  dsimp only
  rw[hn',Bool.false_and]
  exact wpAny_pure hQ
 cases target <;> first | exact key | exact wpAny_pure hQ
theorem iterObj {o:Obj}{vs:Array Value}{n:String}(hd:o.data=.fields vs)(hc:o.cls=.type n)(h1:n ≠ "frame") (h2:valTypes.contains n=false):NoF o∧isVal o=false:=by
 refine⟨⟨n,hc,h1⟩,?_⟩
 unfold isVal
 rw[hc]
 exact h2
theorem strIter_ne (x:Str):strIterType x ≠ "frame" ∧ valTypes.contains (strIterType x)=false∧tupleOwners.contains (strIterType x)=false:=by
 unfold strIterType
 split <;> exact⟨by decide,by decide,by decide⟩
section
variable {C:Cx}{d:Nat}
theorem ExtV.one {h h':Heap}{ρ:List Addr}{I:Addr}{o:Obj}(hI:h.get? I=some o)(hv:isVal o=false)(hs:∀ b o,b≠I→h.get? b=some o→h'.get? b=some o):ExtV C h ρ h' ρ :=
 ⟨⟨[],by simp⟩,fun b o' hb hn hv'=>⟨hs b o' (fun q=>by subst q;obtain rfl:=some_eq hI hb;exact bool_no hv' hv) hb,hn.1⟩⟩
theorem Inv.list {h:Heap}{ρ:List Addr}{obs:List Ob}(I:Inv C h ρ obs){r:Nat}{xs:List V}{a:Addr}(ho:obs[r]?=some (.list xs))(ha:ρ[r]?=some a):∃ items n,h.get? a=some { cls:=.type "list", data:=.seq items n }∧VRs C h ρ xs items.toList:=by
 obtain⟨a',h1,h2⟩:=I.ob r _ ho
 obtain rfl:=some_eq ha h1
 exact h2
theorem toList_get {α:Type}{a:Array α}{i:Nat}:a.toList[i]?=a[i]?:=by simp
theorem VRs.getA {h:Heap}{ρ:List Addr}{vs:List V}{items:Array Value}{i:Nat}{v:V}(r:VRs C h ρ vs items.toList)(hv:vs[i]?=some v):∃ x,items[i]?=some x∧VR C h ρ v x:=by
 obtain⟨x,h1,h2⟩:=r.get hv
 exact⟨x,by rw[← toList_get];exact h1,h2⟩
theorem VRs.noneA {h:Heap}{ρ:List Addr}{vs:List V}{items:Array Value}{i:Nat}(r:VRs C h ρ vs items.toList)(hv:vs[i]?=none):items[i]?=none:=by
 have:=r.len
 rw[← toList_get]
 simp at hv ⊢
 simp at this
 exact this▸hv
theorem mem_one {a b:Addr}(h:a∈[b]):a=b:=List.mem_singleton.mp h
theorem li_obj {h:Heap}{I ax:Addr}{i:Nat}(hp:h.IsListIter I ax i):∃ o vs,h.get? I=some o∧o.data=.fields vs∧NoF o∧isVal o=false:=by
 obtain⟨o,ho,hc,hd⟩:=hp
 exact⟨o,_,ho,hd,iterObj hd hc (by decide) (by decide)⟩
theorem li_next {f:Addr→Prop}{target:Expr}{A:Around}{s:Shared}{ρ:List Addr}{I ax:Addr}{i:Nat}{xs:List V}{items:Array Value}{v:V}{Q:Value→Shared→Prop}{R:Option Value→Shared→Prop}{E:Value→Shared→Prop}
  (hl:s.heap.IsList ax items) (hvs:VRs (C.at f) s.heap ρ xs items.toList) (hp:s.heap.IsListIter I ax i) (hv:xs[i]?=some v)
  (hR:∀ val s₁,wpAny (model C.prog C.w) A (letOwnedTupleGo target (.ref I) val) (fun _ s₂=>Q val s₂) E s₁→R (some val) s₁)
  (hQ:∀ val h' tk,VR (C.at f) h' ρ v val→h'.IsListIter I ax (i+1)→(∀ b o,b∉[I]→s.heap.get? b=some o→h'.get? b=some o)→Q val { s with heap:=h',toks:=tk }):wpAny (model C.prog C.w) A (pyNext (.ref I)) R E s:=by
 obtain⟨x,hx,hxv⟩:=hvs.getA hv
 obtain⟨oI,vI,hoI,hdI,_,hvI⟩:=li_obj hp
 refine wpAny_pyNext_list_item hp hl hx fun h' hp' hs=>hR _ _ ?_
 obtain⟨o',ho',hc',hd'⟩:=id hp'
 exact owned_skip ho' hc' (by decide) (hQ x h' s.toks (hxv.ext (.one hoI hvI fun b o hb e=>(hs.2 b hb).trans e)) hp' fun b o hb e=>(hs.2 b (fun q=>hb (by simp[q]))).trans e)
theorem iter_list {target:Expr}{ρ₀:List Addr}{I ax:Addr}{r:Nat}{xs:List V}(hr:ρ₀[r]?=some ax):IterOk C d target xs [(r,.list xs)] (.ref I) [I] (fun i h=>h.IsListIter I ax i) ρ₀ [] [] where
 frame:=fun i h h' hp hk=>hp.at fun o e=>hk I (by simp) o e
 there:=fun i h hp b hb=>by cases mem_one hb;exact li_obj hp
 next:=fun f i A s ρ obs Q R E v hA hInv hK hpre hchk hp hn hv hR hQ=>by
  obtain⟨t,rfl⟩:=hpre
  have hax:(ρ₀++t)[r]?=some ax:=by rw[List.getElem?_append_left (List.getElem?_eq_some_iff.mp hr).1];exact hr
  obtain⟨items,n,hl,hvs⟩:=hInv.list (hchk (r,.list xs) (by simp)) hax
  exact li_next ⟨_,hl,rfl,n,rfl⟩ hvs hp hv hR hQ
 done:=fun f i A s ρ obs Q E hH hA hInv hK hpre hchk hp hn hv hQ=>by
  obtain⟨t,rfl⟩:=hpre
  have hax:(ρ₀++t)[r]?=some ax:=by rw[List.getElem?_append_left (List.getElem?_eq_some_iff.mp hr).1];exact hr
  obtain⟨items,n,hl,hvs⟩:=hInv.list (hchk (r,.list xs) (by simp)) hax
  exact list_end hH hp ⟨_,hl,rfl,n,rfl⟩ (hvs.noneA hv) fun h' hx=>hQ h' s.toks fun b o hb e=>hx b o (fun q=>hb (by simp[q])) e
 self:=fun i A s Q E hp hQ=>wpAny_pyIter_listiter hp hQ
theorem vr_flist {h:Heap}{ρ:List Addr}{xs:List V}{ax:Addr}(r:VR C h ρ (.flist xs) (.ref ax)):∃ items,h.IsList ax items∧VRs C h ρ xs items.toList:=by
 obtain⟨a,items,n,q,hl,_,hv⟩:=r
 cases q
 exact⟨items,⟨_,hl,rfl,n,rfl⟩,hv⟩
theorem vrs_head {h:Heap}{ρ:List Addr}{v:V}{vs:List V}{x:Value}{xs:List Value}(r:VRs C h ρ (v::vs) (x::xs)):VR C h ρ v x∧VRs C h ρ vs xs:=by
 obtain⟨_,_,q,h1,h2⟩:=r
 cases q
 exact⟨h1,h2⟩
theorem iter_flist {target:Expr}{ρ₀:List Addr}{I ax:Addr}{xs:List V}:IterOk C d target xs [] (.ref I) [I] (fun i h=>h.IsListIter I ax i) ρ₀ [.flist xs] [.ref ax] where
 frame:=fun i h h' hp hk=>hp.at fun o e=>hk I (by simp) o e
 there:=fun i h hp b hb=>by cases mem_one hb;exact li_obj hp
 next:=fun f i A s ρ obs Q R E v hA hInv hK hpre hchk hp hn hv hR hQ=>by
  obtain⟨items,hl,hvs⟩:=vr_flist (vrs_head hK).1
  exact li_next hl hvs hp hv hR hQ
 done:=fun f i A s ρ obs Q E hH hA hInv hK hpre hchk hp hn hv hQ=>by
  obtain⟨items,hl,hvs⟩:=vr_flist (vrs_head hK).1
  exact list_end hH hp hl (hvs.noneA hv) fun h' hx=>hQ h' s.toks fun b o hb e=>hx b o (fun q=>hb (by simp[q])) e
 self:=fun i A s Q E hp hQ=>wpAny_pyIter_listiter hp hQ
theorem rangeL_get {lo hi:Int}{i:Nat}{v:V}(h:((rangeL lo hi).map V.int)[i]?=some v):v=.int (lo+i)∧(i:Int)<hi-lo:=by
 unfold rangeL at h
 rw[List.getElem?_map,List.getElem?_map] at h
 cases q:(List.range (hi-lo).toNat)[i]? with
 | none=>rw[q] at h;cases h
 | some k =>
  rw[q] at h
  obtain⟨h1,h2⟩:=List.getElem?_eq_some_iff.mp q
  simp at h1 h2
  subst h2
  simp at h
  exact⟨h.symm,by exact h1⟩
theorem rangeL_none {lo hi:Int}{i:Nat}(h:((rangeL lo hi).map V.int)[i]?=none):hi-lo≤i:=by
 unfold rangeL at h
 simp at h
 exact h
theorem iter_range (hh:C.aux.hot=none){target:Expr}{ρ₀:List Addr}{I:Addr}{lo hi:Int}:IterOk C d target ((rangeL lo hi).map .int) [] (.ref I) [I] (fun i h=>∃ left,left=max (hi-lo) 0-i∧IsRangeIter h I (lo+i) left 1) ρ₀ [] [] where
 frame:=fun i h h' hp hk=>let ⟨l,h1,h2⟩:=hp;⟨l,h1,hk I (by simp) _ h2⟩
 there:=fun i h hp b hb=>by
  cases mem_one hb
  obtain⟨l,h1,h2⟩:=hp
  exact⟨_,_,h2,rfl,iterObj (n := "range_iterator") rfl rfl (by decide) (by decide)⟩
 next:=fun f i A s ρ obs Q R E v hA hInv hK hpre hchk hp hn hv hR hQ=>by
  obtain⟨rfl,hlt⟩:=rangeL_get hv
  obtain⟨l,h1,h2⟩:=hp
  refine wpAny_pyNext_range_item h2 (h1▸Int.sub_pos_of_lt (Int.lt_of_lt_of_le hlt (Int.le_max_left _ _))) fun h' hp' hs=>hR _ _ ?_
  refine owned_skip hp' rfl (by decide) (hQ _ h' (s.toks+1) (by exact⟨_,rfl⟩) ⟨l-1,by rw[h1];exact Int.sub_sub ..,?_⟩ fun b o hb e=>(hs.2 b (fun q=>hb (by simp[q]))).trans e)
  have:lo+((i+1:Nat):Int)=lo+i+1:=by exact (Int.add_assoc lo i 1).symm
  rw[this];exact hp'
 done:=fun f i A s ρ obs Q E hH hA hInv hK hpre hchk hp hn hv hQ=>by
  have:=rangeL_none hv
  obtain⟨l,h1,h2⟩:=hp
  exact wpAny_pyNext_range_end (hA.handled hh) h2 (h1▸Int.sub_nonpos_of_le (Int.max_le.mpr ⟨this,Int.natCast_nonneg i⟩)) fun h' hx=>hQ h' s.toks fun b o hb e=>hx b o (fun q=>hb (by simp[q])) e
 self:=fun i A s Q E hp hQ=>let ⟨l,h1,h2⟩:=hp;wpAny_pyIter_rangeiter h2 hQ
theorem chars_get {s:List Nat}{i:Nat}{v:V}(h:(charsOf s)[i]?=some v):∃ c,s[i]?=some c∧v=.str [c]:=by
 unfold charsOf at h
 rw[List.getElem?_map] at h
 cases q:s[i]? with
 | none=>rw[q] at h;cases h
 | some c=>rw[q] at h;cases h;exact⟨c,rfl,rfl⟩
theorem chars_none {s:List Nat}{i:Nat}(h:(charsOf s)[i]?=none):s[i]?=none:=by
 unfold charsOf at h
 simpa using h
theorem iter_str (hh:C.aux.hot=none){target:Expr}{ρ₀:List Addr}{I:Addr}{x:List Nat}{t:Tok}:IterOk C d target (charsOf x) [] (.ref I) [I] (fun i h=>h.IsStrIter I (strIterType ⟨x.toArray⟩) ⟨x.toArray⟩ t i) ρ₀ [] [] where
 frame:=fun i h h' hp hk=>let ⟨o,h1,h2⟩:=hp;⟨o,hk I (by simp) _ h1,h2⟩
 there:=fun i h hp b hb=>by
  cases mem_one hb
  obtain⟨o,ho,hc,hd⟩:=hp
  exact⟨o,_,ho,hd,iterObj hd hc (strIter_ne _).1 (strIter_ne _).2.1⟩
 next:=fun f i A s ρ obs Q R E v hA hInv hK hpre hchk hp hn hv hR hQ=>by
  obtain⟨c,hc,rfl⟩:=chars_get hv
  have hc':(⟨x.toArray⟩:Str).cps[i]?=some c:=by simpa using hc
  have fin:∀ h',h'.IsStrIter I (strIterType ⟨x.toArray⟩) ⟨x.toArray⟩ t (i+1)→Heap.SameBut I s.heap h'→R (some (.str ⟨#[c]⟩ s.toks)) { s with heap:=h',toks:=s.toks+1 }:=fun h' hp' hs=>hR _ _ (by
   obtain⟨o',ho',hc',hd'⟩:=id hp'
   refine owned_skip ho' hc' (strIter_ne _).2.2 (hQ _ h' (s.toks+1) (by exact⟨_,rfl⟩) hp' fun b o hb e=>(hs.2 b (fun q=>hb (by simp[q]))).trans e))
  unfold strIterType at hp fin
  split at hp
  ·rename_i ha;rw[if_pos ha] at fin;exact wpAny_pyNext_ascii_item hp hc' fin
  ·rename_i ha;rw[if_neg ha] at fin;exact wpAny_pyNext_wide_item hp hc' fin
 done:=fun f i A s ρ obs Q E hH hA hInv hK hpre hchk hp hn hv hQ=>by
  have hc':(⟨x.toArray⟩:Str).cps[i]?=none:=by simpa using chars_none hv
  unfold strIterType at hp
  split at hp
  ·exact wpAny_pyNext_ascii_end (hA.handled hh) hp hc' fun h' hx=>hQ h' s.toks fun b o hb e=>hx b o (fun q=>hb (by simp[q])) e
  ·exact wpAny_pyNext_wide_end (hA.handled hh) hp hc' fun h' hx=>hQ h' s.toks fun b o hb e=>hx b o (fun q=>hb (by simp[q])) e
 self:=fun i A s Q E hp hQ=>by
  unfold strIterType at hp
  split at hp
  ·exact wpAny_pyIter_striter_ascii hp hQ
  ·exact wpAny_pyIter_striter_wide hp hQ
theorem Inv.notSys {h:Heap}{ρ:List Addr}{obs:List Ob}(I:Inv C h ρ obs){a:Addr}(ha:C.base.get? a=none):(a==sysModules)=false:=by
 cases q:a==sysModules with
 | false=>rfl
 | true =>
  obtain⟨o,ho⟩:=I.sys
  rw[eq_of_beq q,ho] at ha;cases ha
end
end Mine
namespace Mine
set_option backward.match.sparseCases false
open PySem PyProof.Rows
theorem compLoop_any {prog:Program}{w:World}{A:Around}{R:Result→Shared→Prop}{s:Shared}{elt target iter:Expr}{ifs:List Expr}{scope:Scope}{pos:Pos}{it acc:Value}{env:Env}(I:Nat→Shared→Prop)
  (turn:∀ n s,I n s→wpAny (model prog w) A (pyNext it) (fun r s₁=>match r with
   | none=>R (.ok .next) s₁
   | some v=>wpAny (model prog w) A (letOwnedTupleGo target it v) (fun _ s₁'=>wpAny (model prog w) A (assign target env v) (fun _ s₂ =>
     wpAny (model prog w) A (forIn ifs true fun c r=>if r=true then do let ok ← isTrue c env (eval c env);pure (ForInStep.yield ok) else pure (ForInStep.yield r)) (fun ok s₃ =>
      if ok=true then wpAny (model prog w) A (eval elt env) (fun x s₄ =>
       wpAny (model prog w) A (call (.builtin "list.append") [acc,x]) (fun _ s₅=>∃ m,m<n∧I m s₅) (notedBy (model prog w) A env fun e s'=>R (.error e) s') s₄) (notedBy (model prog w) A env fun e s'=>R (.error e) s') s₃
      else ∃ m,m<n∧I m s₃) (notedBy (model prog w) A env fun e s'=>R (.error e) s') s₂) (notedBy (model prog w) A env fun e s'=>R (.error e) s') s₁') (notedBy (model prog w) A env fun e s'=>R (.error e) s') s₁) (notedBy (model prog w) A env fun e s'=>R (.error e) s') s)
  (n:Nat) (h:I n s) :
  codeAny (model prog w) A (.compLoop (.ListComp elt [⟨target,iter,ifs,0⟩] scope pos) 0 it acc env) R s:=by
 refine codeAny_loop rfl I (fun n s hI=>?_) n h
 show wpAny _ A ((compTurn (.ListComp elt [⟨target,iter,ifs,0⟩] scope pos) 0 it acc env).onRaise (fun x=>do noteFrame x env;theTreesLotGoes x)) _ _ s
 refine wpAny_noted ?_
 rw[compTurn_list]
 refine wpAny_bind (wpAny_standAt (wpAny_bind (wpAny_mono (turn n s hI) (fun r s₁ h₁=>?_) fun _ _ h'=>h')))
 cases r with
 | none=>exact wpAny_pure h₁
 | some v =>
  refine wpAny_bind (wpAny_mono h₁ (fun _ s₁' h₁'=>?_) fun _ _ h'=>h')
  refine wpAny_bind (wpAny_mono h₁' (fun _ s₂ h₂=>wpAny_bind (wpAny_mono h₂ (fun ok s₃ h₃=>?_) fun _ _ h'=>h')) fun _ _ h'=>h')
  cases ok with
  | false=>exact wpAny_pure ⟨rfl,h₃⟩
  | true =>
   exact wpAny_bind (wpAny_bind (wpAny_mono h₃ (fun x s₄ h₄=>wpAny_bind (wpAny_mono h₄ (fun _ s₅ h₅=>wpAny_pure (wpAny_pure ⟨rfl,h₅⟩)) fun _ _ h'=>h')) fun _ _ h'=>h'))
theorem snd_tests {C:Cx}{d:Nat}{env:Env}{sc:Scope}{ns:List Str}:∀ {ifs:List Expr} {ms:List (M Bool)},ifs.length≤1→All2 (SndB C d env sc ns) ifs ms →
  Snd C d env sc ns Bl Nil (forIn ifs true fun c r=>if r=true then do let ok ← isTrue c env (eval c env);pure (ForInStep.yield ok) else pure (ForInStep.yield r)) (andM ms)
 | [],[],_,_=>.of fun A s ρ st Q E X hA hS hw=>wpAny_pure (hw.1 _ _ _ rfl hS (.refl ..))
 | [e],[m],_,h=>.of fun A s ρ st Q E X hA hS hw=>wpAny_tests_one (h.1.then hA hS hw fun b b' s₁ ρ₁ st₁ r₁ S₁ e₁ hw₁=>by
   obtain rfl:=r₁
   cases b
   ·exact hw₁.1 _ _ _ rfl S₁ (.refl ..)
   ·exact hw₁.1 _ _ _ rfl S₁ (.refl ..))
 | _::_::_,_,h,_=>by simp at h
 | [],_::_,_,h=>h.elim
 | [_],[],_,h=>h.elim
 | [_],_::_::_,_,h=>h.2.elim
noncomputable def freeCells (env:Env):List (Str×NameKind)→List (Str×Addr)→List (Str×Addr)
 | [],acc=>acc
 | (n,k)::r,acc=>freeCells env r (if k==.free then (n,(env.cells.lookup n).getD 0)::acc else acc)
theorem closure_go {env:Env}(f:Str×NameKind→List (Str×Addr)→Sem (ForInStep (List (Str×Addr))))
  (hf:∀ n k acc,f (n,k) acc=if k==.free then (do let c ← cellOf env n;pure (.yield ((n,c)::acc))) else pure (.yield acc)) :
  ∀ (l:List (Str×NameKind)) (acc:List (Str×Addr)),(∀ p∈l,p.2=.free→(env.cells.lookup p.1).isSome=true)→forIn l acc f=(pure (freeCells env l acc):Sem _)
 | [],acc,_=>rfl
 | (n,k)::r,acc,h=>by
  rw[List.forIn_cons,hf]
  have ih:=closure_go f hf r
  by_cases hk:(k==NameKind.free)=true
  ·rw[if_pos hk]
   obtain⟨c,hc⟩:=Option.isSome_iff_exists.mp (h (n,k) (.head _) (eq_of_beq hk))
   have hc':cellOf env n=pure c:=by unfold cellOf;rw[hc]
   rw[hc']
   show forIn r ((n,c)::acc) f=_
   rw[ih _ fun p hp=>h p (.tail _ hp)]
   have e:freeCells env ((n,k)::r) acc=freeCells env r ((n,c)::acc):=by
    show freeCells env r (if (k==NameKind.free)=true then (n,(env.cells.lookup n).getD 0)::acc else acc)=_
    rw[if_pos hk,show env.cells.lookup n=some c from hc];rfl
   rw[e]
  ·rw[if_neg hk]
   show forIn r acc f=_
   rw[ih _ fun p hp=>h p (.tail _ hp)]
   have e:freeCells env ((n,k)::r) acc=freeCells env r acc:=by
    show freeCells env r (if (k==NameKind.free)=true then (n,(env.cells.lookup n).getD 0)::acc else acc)=_
    rw[if_neg hk]
   rw[e]
theorem closure_eq {env:Env}{scope:Scope}(h:∀ p∈scope.names,p.2=.free→(env.cells.lookup p.1).isSome=true):closureFor scope env=pure (freeCells env scope.names []):=by
 unfold closureFor
 dsimp only
 rw[closure_go (env:=env) _ (fun n k acc=>?_) scope.names [] h]
 ·rfl
 ·cases hk:k==NameKind.free <;> simp
theorem freeCells_lookup {env:Env}{x:Str}:∀ {l:List (Str×NameKind)} {acc:List (Str×Addr)},(l.map (·.1)).Nodup→(∀ p∈l,p.2=.free→(env.cells.lookup p.1).isSome=true) →
  ((x,NameKind.free)∈l→(freeCells env l acc).lookup x=env.cells.lookup x)∧(x∉l.map (·.1)→(freeCells env l acc).lookup x=acc.lookup x)
 | [],acc,_,_=>⟨fun h=>(nomatch h),fun _=>rfl⟩
 | (n,k)::r,acc,hn,h=>by
  have hn':=List.nodup_cons.mp hn
  have ih:=@freeCells_lookup env x r (if k==.free then (n,(env.cells.lookup n).getD 0)::acc else acc) hn'.2 (fun p hp=>h p (.tail _ hp))
  refine⟨fun hm=>?_,fun hx=>?_⟩
  ·show (freeCells env r (if k==.free then (n,(env.cells.lookup n).getD 0)::acc else acc)).lookup x=_
   cases hm with
   | head =>
    rw[ih.2 hn'.1]
    obtain⟨c,hc⟩:=Option.isSome_iff_exists.mp (h (x,NameKind.free) (.head _) rfl)
    have hc':env.cells.lookup x=some c:=hc
    rw[if_pos (by rfl),List.lookup_cons,hc'];simp
   | tail _ hm=>exact ih.1 hm
  ·show (freeCells env r (if k==.free then (n,(env.cells.lookup n).getD 0)::acc else acc)).lookup x=_
   have hx1:x≠n:=fun q=>hx (by rw[q];exact .head _)
   rw[ih.2 fun q=>hx (.tail _ q)]
   by_cases hk:(k==NameKind.free)=true
   ·rw[if_pos hk,List.lookup_cons]
    have:(x==n)=false:=by simpa using hx1
    rw[this]
   ·rw[if_neg hk]
structure CompGood (sc:Scope)(ns:List Str)(cs:Scope)(xs:List Str):Prop where
 kind:cs.kind=.function
 nodup:(cs.names.map (·.1)).Nodup
 cellx:∀ p∈cs.names,p.2=.cell→p.1∈xs
 dbg:∀ p∈cs.names,(p.1==("__debug__" : Str))=false
 loc:∀ p∈cs.names,p.2=.local→p.1∈xs∨p.1∉ns
 free:∀ p∈cs.names,p.2=.free→sc.names.lookup p.1=some .cell∨sc.names.lookup p.1=some .free
 own:∀ x∈xs,cs.names.lookup x=some .local∨cs.names.lookup x=some .cell
theorem comp_good {sc:Scope}{ns:List Str}{cs:Scope}{xs:List Str}(h:compOk sc ns cs xs=true):CompGood sc ns cs xs:=by
 simp only[compOk,Bool.and_eq_true,beq_iff_eq,decide_eq_true_eq,List.all_eq_true,bne_iff_ne,ne_eq,Bool.not_eq_true',Bool.or_eq_true,List.contains_iff_mem] at h
 obtain⟨⟨⟨h1,h2⟩,h3⟩,h4⟩:=h
 refine⟨h1,h2,fun p hp hc=>(h3 p hp).1.1.1.resolve_left fun q=>q hc,fun p hp=>(h3 p hp).1.1.2,fun p hp hl=>?_,fun p hp hf=>?_,h4⟩
 ·rcases (h3 p hp).1.2 with (q | q) | q
  ·exact absurd hl q
  ·exact .inl q
  ·exact .inr (by simpa using q)
 ·rcases (h3 p hp).2 with q | q
  ·exact absurd hf q
  ·exact q
theorem lookup_map_snd {α β γ:Type}[BEq α][LawfulBEq α]{g:α→β→γ}{x:α}:∀ {l:List (α×β)},(l.map fun p=>(p.1,g p.1 p.2)).lookup x=(l.lookup x).map (g x)
 | []=>rfl
 | (y,b)::r=>by
  rw[List.map_cons,List.lookup_cons,List.lookup_cons]
  cases q:x==y with
  | true=>have:=eq_of_beq q;subst this;rfl
  | false=>exact lookup_map_snd
theorem relabel_lookup {scope:Scope}{env:Env}(x:Str):(relabel scope env).names.lookup x=(scope.names.lookup x).map fun k=>if (k==.free&&env.scope.kind==.function&&env.kindOf x==some .cell)=true then .cell else k:=by
 have e:(relabel scope env).names=scope.names.map fun p=>(p.1,if (p.2==.free&&env.scope.kind==.function&&env.kindOf p.1==some .cell)=true then NameKind.cell else p.2):=by
  unfold relabel
  dsimp only
  refine List.map_congr_left fun p _=>?_
  obtain⟨n,k⟩:=p
  dsimp only
  split <;> rfl
 rw[e,lookup_map_snd (g:=fun n k=>if (k==.free&&env.scope.kind==.function&&env.kindOf n==some .cell)=true then NameKind.cell else k)]
section
variable {env:Env}{sc cs:Scope}{ns xs:List Str}
theorem compEnv_ok (hE:EnvOk env sc)(hg:CompGood sc ns cs xs){cl:List (Str×Addr)}{L:Addr}:EnvOk (compEnvC cs cl L env) cs where
 kind:=hg.kind
 glob:=hE.glob
 blt:=hE.blt
 gl:=fun x hx=>by
  show (relabel cs env).names.lookup x=_
  rw[relabel_lookup,eq_of_beq hx];rfl
 lo:=fun x hx=>by
  show (relabel cs env).names.lookup x=_
  rw[relabel_lookup,hx];rfl
 ce:=fun x hx=>by
  show (relabel cs env).names.lookup x=_
  rw[relabel_lookup]
  rcases hx with hx | hx
  ·rw[hx];rfl
  ·rw[hx]
   have:=hE.ce x (hg.free _ (lookup_mem hx) rfl)
   simp[hE.kind,this]
 dbg:=fun x hx=>by
  have:∃ k,cs.names.lookup x=some k:=by
   rcases hx with hx | hx
   ·exact⟨_,eq_of_beq hx⟩
   ·unfold isVar at hx
    split at hx <;> first | exact⟨_,by assumption⟩ | cases hx
  obtain⟨k,hk⟩:=this
  exact hg.dbg _ (lookup_mem hk)
theorem compEnv_cell (hE:EnvOk env sc)(hg:CompGood sc ns cs xs){cl:List (Str×Addr)}{L:Addr}{x:Str}(h:(compEnvC cs cl L env).kindOf x=some .cell):((x,NameKind.free)∈cs.names∧env.kindOf x=some .cell)∨(x,NameKind.cell)∈cs.names:=by
 have h':(relabel cs env).names.lookup x=some .cell:=h
 rw[relabel_lookup] at h'
 cases q:cs.names.lookup x with
 | none=>rw[q] at h';cases h'
 | some k =>
  rw[q] at h'
  have hm:=lookup_mem q
  cases k with
  | free=>exact .inl ⟨hm,hE.ce x (hg.free _ hm rfl)⟩
  | cell=>exact .inr hm
  | «local»=>simp at h'
  | globalExplicit=>simp at h'
  | globalImplicit=>simp at h'
end
theorem idxLast_append_not:∀ {ns xs:List Str} {x:Str},x∉xs→idxLast (ns++xs) x=idxLast ns x
 | [],xs,x,h=>by
  show idxLast xs x=none
  induction xs with
  | nil=>rfl
  | cons y r ih =>
   unfold idxLast
   rw[ih fun q=>h (.tail _ q)]
   dsimp only
   rw[if_neg (by intro q;exact h (by rw[eq_of_beq q];exact .head _))]
 | y::r,xs,x,h=>by
  rw[List.cons_append]
  unfold idxLast
  rw[idxLast_append_not h]
theorem idxLast_append_mem:∀ {ns xs:List Str} {x:Str} {i:Nat},x∈xs→idxLast (ns++xs) x=some i→ns.length≤i
 | [],_,_,_,_,_=>Nat.zero_le _
 | y::r,xs,x,i,h,hi=>by
  rw[List.cons_append] at hi
  unfold idxLast at hi
  cases q:idxLast (r++xs) x with
  | some k=>rw[q] at hi;cases hi;have:=idxLast_append_mem h q;simp;exact this
  | none =>
   exfalso
   have:∀ {l:List Str},x∈l→idxLast l x≠none:=by
    intro l hl
    induction l with
    | nil=>cases hl
    | cons z l ih =>
     unfold idxLast
     cases q:idxLast l x with
     | some k=>simp
     | none =>
      cases hl with
      | head=>simp
      | tail _ hl=>exact absurd q (ih hl)
   exact this (List.mem_append_right r h) q
end Mine
namespace Mine
set_option backward.match.sparseCases false
open PySem PyProof.Rows
structure CK (C:Cx)(ks:List V)(kx:List Value)(fp:List Addr)(P:Nat→Heap→Prop)(s₁:Shared)(ρ₁:List Addr)(D:Addr)(j:Nat)(done:List V)(s:Shared)(ρ:List Addr):Prop where
 p:P j s.heap
 fpn:∀ b:Addr,b∈fp→b∉ρ
 ext:Ext (fun b=>b∈fp) s₁ ρ₁ s ρ
 dobj:∃ ys n,s.heap.get? D=some { cls:=.type "list", data:=.seq ys n }∧VRs C s.heap ρ done ys.toList
 dn:D∉ρ
 k:VRs C s.heap ρ ks kx
section
variable {C:Cx}{d:Nat}{env cenv:Env}{sc cs:Scope}{ns xs ns':List Str}
theorem CK.step {C₀:Cx}{g:Addr→Prop}{target:Expr}{items:List V}{chk:List (Nat×Ob)}{itv:Value}{ks:List V}{kx:List Value}{fp:List Addr}{P:Nat→Heap→Prop}{s₁:Shared}{ρ₁:List Addr}{D:Addr}{j:Nat}{done:List V}{s s':Shared}{ρ ρ':List Addr}{st:St}{T:Addr→Prop}
  (hI:IterOk C₀ d target items chk itv fp P ρ₁ ks kx) (K:CK C ks kx fp P s₁ ρ₁ D j done s ρ) (hS:State C cenv cs ns' s ρ st) (y:Ext T s ρ s' ρ') (hT:∀ b,T b→Own cenv b∧s₁.heap.get? b=none∧b≠D) :
  CK C ks kx fp P s₁ ρ₁ D j done s' ρ':=by
 have eV:ExtV C s.heap ρ s'.heap ρ':=y.extV fun b q=>own_aside hS.frm b (hT b q).1
 refine⟨hI.frame j _ _ K.p fun b hb o ho=>?_,fun b hb=>?_,K.ext.over y fun b q=>(hT b q).2.1,?_,?_,K.k.ext eV⟩
 ·obtain⟨o',vs,h1,h2,h3,_⟩:=hI.there j _ K.p b hb
  obtain rfl:=some_eq ho h1
  exact (y.keep b o ho (K.fpn b hb) fun q=>Own.notFields hS.frm ho h2 (hT b q).1).val h3.cls
 ·obtain⟨o',vs,h1,_⟩:=hI.there j _ K.p b hb
  exact y.apart h1 (K.fpn b hb)
 ·obtain⟨ys,n,h1,h2⟩:=K.dobj
  exact⟨ys,n,(y.keep D _ h1 K.dn fun q=>(hT D q).2.2 rfl).val (show Value.type "list" ≠ Value.type "frame" by decide),h2.ext eV⟩
 ·obtain⟨ys,n,h1,_⟩:=K.dobj
  exact y.apart h1 K.dn
theorem VRs.append {h:Heap}{ρ:List Addr}:∀ {vs ws:List V} {xs ys:List Value},VRs C h ρ vs xs→VRs C h ρ ws ys→VRs C h ρ (vs++ws) (xs++ys)
 | [],_,_,_,h1,h2=>by subst h1;exact h2
 | v::vs,ws,_,ys,h1,h2=>by
  obtain⟨x,xs,rfl,q1,q2⟩:=h1
  show VRs C h ρ (v::(vs++ws)) (x::(xs++ys))
  exact⟨x,xs++ys,rfl,q1,VRs.append q2 h2⟩
theorem VRs.one {h:Heap}{ρ:List Addr}{v:V}{x:Value}(r:VR C h ρ v x):VRs C h ρ [v] [x]:=by
 exact⟨x,[],rfl,r,rfl⟩
structure Fresh (C:Cx)(env:Env)(sc:Scope)(ns:List Str)(s₀:Shared)(ρ₀:List Addr)(xs:List V)(D:Addr)(s:Shared)(ρ:List Addr)(st:St):Prop where
 obj:∃ items n,s.heap.get? D=some { cls:=.type "list", data:=.seq items n }∧VRs (C.hide (·=D)) s.heap ρ xs items.toList
 st:State (C.hide (·=D)) env sc ns s ρ st
 nin:D∉ρ
 nb:C.base.get? D=none
 noff:¬ C.off D
 ext:Ext Nil s₀ ρ₀ s ρ
 new:s₀.heap.get? D=none
theorem State.leave {N:Addr→Prop}{s:Shared}{ρ:List Addr}{st:St}{h':Heap}(hS:State (C.hide N) env sc ns s ρ st)(hk:∀ b o,¬ N b→s.heap.get? b=some o→h'.get? b=some o)(hN:∀ b,N b→b∉ρ∧C.base.get? b=none∧¬ C.off b)
  (ho:∀ b,Own env b→C.off b) (hF:∀ b,isFA C b→¬ N b):State C env sc ns { s with heap:=h' } ρ st∧Mv ρ.length (C.hide N) s.heap ρ C h' ρ:=by
 have mv:Mv ρ.length (C.hide N) s.heap ρ C h' ρ:=⟨⟨C.off,C.aux,rfl⟩,fun _ _ _ q=>q,fun b o hb hf _=>⟨hk b o (fun q=>hf.2 (.inr q)) hb,hf.1,fun q=>hf.2 (.inl q)⟩⟩
 have loc:∀ b,Own env b→¬ N b:=fun b q q'=>(hN b q').2.2 (ho b q)
 have cells:∀ (x:Str) (c:Addr) (v:Option Value),env.kindOf x=some .cell→env.cells.lookup x=some c→s.heap.IsCell c v→h'.IsCell c v:=fun x c v hkx hc ⟨oc,h1,h2⟩=>⟨oc,hk c oc (loc c (.inr ⟨x,hkx,hc⟩)) h1,h2⟩
 have nsK:∀ {m},s.heap.Ns env.locals m→h'.Ns env.locals m:=fun ⟨o,es,ep,h1,h2⟩=>⟨o,es,ep,hk _ o (loc _ (.inl rfl)) h1,h2⟩
 have same:∀ a:Addr,a∈ρ→h'.get? a=s.heap.get? a:=fun a ha=>by
  obtain⟨o,ho⟩:=hS.inv.mem ha
  rw[ho];exact hk a o (fun q=>(hN a q).1 ha) ho
 refine⟨⟨⟨fun b o hb=>hk b o (fun q=>by exact no_eq hb ((hN b q).2.1)) (hS.inv.base b o hb),hS.inv.len,hS.inv.nodup,hS.inv.sys,fun a ha=>⟨(hS.inv.new a ha).1,fun q=>(hS.inv.new a ha).2 (.inl q)⟩,fun a q=>?_,fun i o ho=>let ⟨a,h1,h2⟩:=hS.inv.ob i o ho;⟨a,h1,h2.move mv h2.lt (same a (List.mem_of_getElem? h1))⟩⟩,hS.frm.len,hS.frm.loc.imp fun m hm=>nsK hm,ho,hS.frm.locN,hS.frm.locB,fun x hx=>?_,hS.frm.inj,fun x i v h1 h2 h3=>?_,hS.frm.frs.to rfl rfl (fun b o hb' hb _ hf _=>⟨o,hk b o (hF b hb') hb,hf⟩) fun _ _ _ _ q _=>q⟩,mv⟩
 ·obtain⟨o,h1⟩:=hS.inv.hid a (.inl q)
  exact⟨o,hk a o (fun q'=>(hN a q').2.2 q) h1⟩
 ·obtain⟨c,v₀,q1,q2,q3⟩:=hS.frm.cell x hx
  exact⟨c,v₀,q1,cells x c v₀ hx q1 q2,q3⟩
 ·obtain⟨val,hl,hv⟩:=hS.frm.vals x i v h1 h2 h3
  refine⟨val,?_,hv.move mv hv.lt⟩
  rcases hl with ⟨k,m,hm,hx⟩ | ⟨k,c,q1,q2⟩
  ·exact .inl ⟨k,m,nsK hm,hx⟩
  ·exact .inr ⟨k,c,q1,cells x c _ k q1 q2⟩
theorem Fresh.val {s₀ s:Shared}{ρ₀ ρ:List Addr}{xs:List V}{D:Addr}{st:St}(F:Fresh C env sc ns s₀ ρ₀ xs D s ρ st)(ho:∀ b,Own env b→C.off b):State C env sc ns s ρ st∧VR C s.heap ρ (.flist xs) (.ref D):=by
 obtain⟨items,n,h1,h2⟩:=F.obj
 refine⟨(F.st.leave (h':=s.heap) (fun b o _ q=>q) (fun b q=>by subst q;exact⟨F.nin,F.nb,F.noff⟩) ho fun b hb q=>by
  subst q
  obtain⟨o,q1,q2,_⟩:=F.st.frm.frs.fa hb
  obtain rfl:=some_eq h1 q1
  exact q2.elim fun _=>noFrm rfl (by decide)).1,?_⟩
 exact⟨D,items,n,rfl,h1,⟨F.nin,F.noff⟩,h2.move .show h2.lt⟩
theorem State.adopt {s:Shared}{ρ:List Addr}{D:Addr}{st:St}{h':Heap}{tk:Nat}{o:Ob}(hS:State (C.hide (·=D)) env sc ns s ρ st)(hn:D∉ρ)(hb:C.base.get? D=none)(hno:¬ C.off D)(hs:∀ b,b≠D→h'.get? b=s.heap.get? b)
  (hO:∀ mv:Mv ρ.length (C.hide (·=D)) s.heap ρ C h' (ρ++[D]),OR C h' (ρ++[D]) o D) (ho:∀ b,Own env b→C.off b) (hF:∀ b,isFA C b→b≠D):State C env sc ns { s with heap:=h',toks:=tk } (ρ++[D]) { st with obs:=st.obs++[o] }∧VR C h' (ρ++[D]) (.ref st.obs.length) (.ref D):=by
 have nin:∀ {b:Addr},b∉ρ→b≠D→b∉ρ++[D]:=fun h1 h2 q=>by
  rcases List.mem_append.mp q with q | q
  ·exact h1 q
  ·exact h2 (List.mem_singleton.mp q)
 have mv:Mv ρ.length (C.hide (·=D)) s.heap ρ C h' (ρ++[D]):=⟨⟨C.off,C.aux,rfl⟩,fun i a hi q=>by rw[List.getElem?_append_left hi];exact q,fun b o hb hf _=>⟨(hs b fun q=>hf.2 (.inr q)).trans hb,nin hf.1 fun q=>hf.2 (.inr q),fun q=>hf.2 (.inl q)⟩⟩
 have I:=hS.inv
 have Fr:=hS.frm
 have nD:∀ b,Own env b→b≠D:=fun b q q'=>hno (q'▸ho b q)
 have cells:∀ (x:Str) (c:Addr) (v:Option Value),env.kindOf x=some .cell→env.cells.lookup x=some c→s.heap.IsCell c v→h'.IsCell c v:=fun x c v hkx hc ⟨oc,h1,h2⟩=>⟨oc,(hs c (nD c (.inr ⟨x,hkx,hc⟩))).trans h1,h2⟩
 have nsK:∀ {m},s.heap.Ns env.locals m→h'.Ns env.locals m:=fun ⟨o,es,ep,h1,h2⟩=>⟨o,es,ep,(hs _ (nD _ (.inl rfl))).trans h1,h2⟩
 refine⟨⟨I.adopt mv rfl (fun b o q=>(hs b fun z=>by
  have q':C.base.get? b=some o:=q
  rw[z,hb] at q';cases q').trans (I.base b o q)) (fun a ha=>⟨hs a fun z=>hn (z▸ha),fun q=>(I.new a ha).2 (.inl q)⟩) hn hb hno (fun a q=>let ⟨o,h1⟩:=I.hid a (.inl q);⟨o,(hs a fun z=>hno (z▸q)).trans h1⟩) (hO mv),Fr.len,Fr.loc.imp fun m hm=>nsK hm,ho,nin Fr.locN (nD _ (.inl rfl)),Fr.locB,fun x hx=>?_,Fr.inj,fun x i v q1 q2 q3=>?_,Fr.frs.to rfl rfl (fun b o fa hb _ hf _=>⟨o,(hs b (hF b fa)).trans hb,hf⟩) fun b o fa hb q hf=>nin q (hF b fa)⟩,?_⟩
 ·obtain⟨c,v₀,q1,q2,q3,q4⟩:=Fr.cell x hx
  exact⟨c,v₀,q1,cells x c v₀ hx q1 q2,nin q3 (nD c (.inr ⟨x,hx,q1⟩)),q4⟩
 ·obtain⟨val,hl,hv⟩:=Fr.vals x i v q1 q2 q3
  refine⟨val,?_,hv.move mv hv.lt⟩
  rcases hl with ⟨k,m,hm,hx⟩ | ⟨k,c,p1,p2⟩
  ·exact .inl ⟨k,m,nsK hm,hx⟩
  ·exact .inr ⟨k,c,p1,cells x c _ k p1 p2⟩
 ·exact⟨D,rfl,by rw[← I.len];simp⟩
theorem Fresh.own {s₀ s:Shared}{ρ₀ ρ:List Addr}{xs:List V}{D:Addr}{st:St}(F:Fresh C env sc ns s₀ ρ₀ xs D s ρ st)(ho:∀ b,Own env b→C.off b):State C env sc ns s (ρ++[D]) { st with obs:=st.obs++[.list xs] }∧VR C s.heap (ρ++[D]) (.ref st.obs.length) (.ref D):=by
 obtain⟨items,n,h1,h2⟩:=F.obj
 exact F.st.adopt (tk:=s.toks) F.nin F.nb F.noff (fun _ _=>rfl) (fun mv=>⟨items,n,h1,h2.move mv h2.lt⟩) ho fun b hb q=>by
  subst q
  obtain⟨o,q1,q2,_⟩:=F.st.frm.frs.fa hb
  obtain rfl:=some_eq h1 q1
  exact q2.elim fun _=>noFrm rfl (by decide)
theorem Ext.taken {S:Addr→Prop}{s₀ s:Shared}{ρ₀ ρ:List Addr}{D:Addr}(x:Ext S s₀ ρ₀ s ρ)(h:s₀.heap.get? D=none):Ext S s₀ ρ₀ s (ρ++[D]) :=
 ⟨by obtain⟨t,rfl⟩:=x.pre;exact⟨t++[D],by rw[List.append_assoc]⟩,fun a ha=>by
  rcases List.mem_append.mp ha with q | q
  ·exact x.fresh a q
  ·cases List.mem_singleton.mp q;exact .inr h,x.keep,x.alive,x.gens,x.drawn,x.os⟩
theorem cellsFrom_app:∀ (names:List (Str×NameKind)) (n:Nat) (acc:List (Str×Addr)),cellsFrom n names acc=cellsFrom n names []++acc
 | [],_,_=>rfl
 | (x,k)::r,n,acc=>by
  unfold cellsFrom
  split
  ·rw[cellsFrom_app r (n+1) ((x,n)::acc),cellsFrom_app r (n+1) [(x,n)],List.append_assoc];rfl
  ·exact cellsFrom_app r n acc
theorem cellsFrom_mem:∀ {names:List (Str×NameKind)} {n:Nat} {acc:List (Str×Addr)} {x:Str} {c:Addr},(x,c)∈cellsFrom n names acc→(x,NameKind.cell)∈names∨(x,c)∈acc
 | [],_,_,_,_,h=>.inr h
 | (y,k)::r,n,acc,x,c,h=>by
  unfold cellsFrom at h
  split at h
  ·rename_i hk
   rcases cellsFrom_mem h with q | q
   ·exact .inl (.tail _ q)
   ·cases q with
    | head=>rw[eq_of_beq hk];exact .inl (.head _)
    | tail _ q=>exact .inr q
  ·rcases cellsFrom_mem h with q | q
   ·exact .inl (.tail _ q)
   ·exact .inr q
theorem lookup_app {x:Str}:∀ {l r:List (Str×Addr)},(l++r).lookup x=(l.lookup x).or (r.lookup x)
 | [],r=>by simp
 | (y,c)::l,r=>by
  rw[List.cons_append,List.lookup_cons,List.lookup_cons]
  cases x==y with
  | true=>rfl
  | false=>exact lookup_app
theorem newEnv_own {M:Model}{A:Around}{E:Value→Shared→Prop}{s:Shared}{scope:Scope}{g:Addr}{cl cells:List (Str×Addr)}{q:Str}{env:Env}{Q:Env→Shared→Prop}{L:Addr}{h':Heap}(hL:s.heap.objs.size=L)(hc:cellsFrom (L+1) scope.names cl=cells)(hh:pushCells (s.heap.push { cls:=.type "dict", data:=.dict #[] }) scope.names=h')
  (h:Q { scope:=scope,locals:=L,globals:=g,cells:=cells,qual:=q,func:=none,code:=env.code,frame:=env.frame,builtins:=env.builtins } { s with heap:=h' }) :
  wpAny M A (newFunctionEnv scope g cl [] q none .none (some env)) Q E s:=by
 subst hL hc hh
 simp only[newFunctionEnv,Option.isSome_some,if_true]
 refine wpAny_bind (wpAny_alloc ?_)
 refine wpAny_bind (wpAny_layCells _ (fun name kind cells=>by cases hkc:kind==NameKind.cell <;> simp[hkc]) _ _ _ _ ?_)
 rw[show ({ s with heap:=s.heap.push { cls:=.type "dict", data:=.dict #[] } }:Shared).heap.objs.size=s.heap.objs.size+1 from Heap.size_push ..]
 rw[List.forIn_nil]
 exact wpAny_bind (wpAny_pure (wpAny_pure h))
structure Laid (h₁:Heap)(cs:Scope)(env:Env)(cl:List (Str×Addr))(D:Addr)(h':Heap)(O:List (Str×Addr)):Prop where
 size:h₁.objs.size≤D
 ns:h'.Ns (D+1) (fun _=>none)
 g:Grows h₁ h'
 obj:h'.get? D=some { cls:=.type "list", data:=.seq ([]:List Value).toArray 0 }
 cells:CellsOk h' (D+1+1) O
 look:∀ {x:Str},(x,NameKind.cell)∈cs.names→∃ c,(O++cl).lookup x=some c∧(x,c)∈O
 free:∀ {x:Str},(x,NameKind.free)∈cs.names→(O++cl).lookup x=env.cells.lookup x
theorem comp_lay {h₁:Heap}(hn:(cs.names.map (·.1)).Nodup)(hfree:∀ p∈cs.names,p.2=.free→(env.cells.lookup p.1).isSome=true) :
  Laid h₁ cs env (freeCells env cs.names []) h₁.objs.size (pushCells ((h₁.push { cls:=.type "list", data:=.seq ([]:List Value).toArray }).push { cls:=.type "dict", data:=.dict #[] }) cs.names) (cellsFrom (h₁.objs.size+1+1) cs.names []):=by
 generalize hH:h₁.push { cls:=.type "list", data:=.seq ([]:List Value).toArray }=H
 have hL:H.objs.size=h₁.objs.size+1:=by rw[← hH,Heap.size_push]
 have kH:∀ b o,H.get? b=some o→(pushCells (H.push { cls:=.type "dict", data:=.dict #[] }) cs.names).get? b=some o:=fun b o e=>pushCells_keeps _ _ b o (Heap.get?_push_of_some _ e)
 refine⟨Nat.le_refl _,by rw[← hL];exact (Heap.Ns.new H (.type "dict")).keeps (pushCells_keeps cs.names _),fun b o hb=>kH b o (by rw[← hH];exact Heap.get?_push_of_some _ hb),kH _ _ (by rw[← hH];exact Heap.get?_push_size _ rfl),?_,fun {x} hx=>?_,fun {x} hx=>?_⟩
 ·have ok:=cellsFrom_ok cs.names (H.push { cls:=.type "dict", data:=.dict #[] }) (h₁.objs.size+1+1) [] ⟨fun _ _ hm=>(nomatch hm),List.Pairwise.nil⟩ (by rw[Heap.size_push,hL];exact Nat.le_refl _)
  rw[Heap.size_push,hL] at ok
  exact ok
 ·obtain⟨c,hc⟩:=Option.isSome_iff_exists.mp (cells_lookup (n:=h₁.objs.size+1+1) (acc:=[]) (.inl hx))
  exact⟨c,by rw[lookup_app,hc];rfl,lookup_mem hc⟩
 ·rw[← (freeCells_lookup (acc:=[]) hn hfree).1 hx,lookup_app]
  cases q:(cellsFrom (h₁.objs.size+1+1) cs.names []).lookup x with
  | none=>rfl
  | some c =>
   rcases cellsFrom_mem (lookup_mem q) with hc | hc
   ·have h1:=lookup_of_nodup hn hx
    rw[lookup_of_nodup hn hc] at h1
    cases h1
   ·cases hc
noncomputable def CompI (C:Cx)(ks:List V)(kx:List Value)(cenv:Env)(cs:Scope)(ns':List Str)(items:List V)(fp:List Addr)(P:Nat→Heap→Prop)(s₁:Shared)(ρ₁:List Addr)(D:Addr)(W:List V→List V→St→Prop)(n:Nat)(s:Shared):Prop :=
 ∃ i ρ st done,n=items.length-i∧done.length≤i∧State C cenv cs ns' s ρ st∧CK C ks kx fp P s₁ ρ₁ D i done s ρ∧W done (items.drop i) st
theorem comp_in (hE:EnvOk env sc)(hg:CompGood sc ns cs xs){t it elt:Expr}{ifs:List Expr}{pos:Pos}{tg:Tg}{mc:List (M Bool)}{me:M V}
  (ht:TgtR cs (ns++xs) t tg) (htn:∀ x∈tname t,x∈xs) (hifs:ifs.length≤1)
  (hc:∀ g cenv,EnvOk cenv cs→All2 (SndB (C.at g) d cenv cs (ns++xs)) ifs mc) (he:∀ g cenv,EnvOk cenv cs→SndE (C.at g) d cenv cs (ns++xs) elt me)
  {A:Around} {s₀ s₁:Shared} {ρ₀ ρ₁:List Addr} {st₁:St} {R:Result→Shared→Prop} {F:List V→St→Prop} {items:List V} {chk:List (Nat×Ob)} {itv:Value} {fp:List Addr} {P:Nat→Heap→Prop} {ks:List V} {kx:List Value}
  (hA:AOk C.aux d A) (hid:∀ b,C.off b→∃ o,s₀.heap.get? b=some o) (hI:IterOk C d t items chk itv fp P ρ₁ ks kx) (hK:VRs C s₁.heap ρ₁ ks kx) (hP:P 0 s₁.heap) (hfp:∀ b:Addr,b∈fp→b∉ρ₁∧s₀.heap.get? b=none∧C.base.get? b=none)
  (S₁:State C env sc ns s₁ ρ₁ st₁) (e₁:Ext Nil s₀ ρ₀ s₁ ρ₁) (hlen:items.length≤lim)
  (hw₂:wpM (compItems tg (andM mc) me chk items) { st₁ with vars:=st₁.vars.take ns.length++List.replicate xs.length none } (fun vs st'=>F vs { st₁ with obs:=st'.obs }) fun _ _=>False)
  {D:Addr} {h':Heap} {O cl:List (Str×Addr)} {cenv:Env} (Ly:Laid s₁.heap cs env cl D h' O) (hcv:compEnvC cs (O++cl) (D+1) env=cenv)
  (hfin:∀ vs st' s' ρ' N,F vs st'→Fresh (C.hide N) env sc ns s₀ ρ₀ vs D s' ρ' st'→N (D+1)→(∃ m,s'.heap.Ns (D+1) m)→(∀ b,N b→b∉ρ'∧C.base.get? b=none∧¬ C.off b∧s₀.heap.get? b=none)→R (.ok .next) s') :
  codeAny (model C.prog C.w) A (.compStart (.ListComp elt [⟨t,it,ifs,0⟩] cs pos) 0 itv (.ref D) cenv) R { s₁ with heap:=h' }:=by
 have sD:=Ly.size
 have sL:s₁.heap.objs.size≤D+1:=Nat.le_succ_of_le sD
 have g:=Ly.g
 have hDobj:=Ly.obj
 have hO:=Ly.cells
 have hns':=Ly.ns
 have n₁:∀ {b:Addr},s₁.heap.objs.size≤b→s₁.heap.get? b=none:=fun hb=>Heap.get?_none_of_le hb
 have notIn:∀ {b:Addr},s₁.heap.objs.size≤b→b∉ρ₁:=fun hb hm=>by
  obtain⟨o',ho'⟩:=S₁.inv.mem hm
  exact no_eq ho' (n₁ hb)
 have notB:∀ {b:Addr},s₁.heap.objs.size≤b→C.base.get? b=none:=fun {b} hb=>by
  cases q:C.base.get? b with
  | none=>rfl
  | some o'=>have:=S₁.inv.base b o' q;exact no_eq this (n₁ hb)
 have fpNot:∀ {b:Addr},b∈fp→b<s₁.heap.objs.size:=fun {b} hb=>by
  obtain⟨o,vs,h1,_⟩:=hI.there 0 _ hP b hb
  exact Heap.lt_size h1
 have hcE:EnvOk cenv cs:=hcv▸compEnv_ok hE hg
 have cvl:cenv.locals=D+1:=by rw[← hcv];rfl
 have cvc:cenv.cells=O++cl:=by rw[← hcv];rfl
 obtain⟨N,hNd⟩:∃ N:Addr→Prop,N=fun b=>D+1≤b∧Own cenv b:=⟨_,rfl⟩
 have hNi:∀ b,N b↔(D+1≤b∧Own cenv b):=fun b=>by rw[hNd]
 have hN1:∀ b,N b→s₁.heap.get? b=none:=fun b q=>n₁ (Nat.le_trans sL ((hNi b).mp q).1)
 have hCC:(C.hide fun b=>N b∨b=D)=(C.hide N).hide (·=D):=congrArg (fun f=>C.at f) (funext fun b=>propext or_assoc.symm)
 have hN2:∀ b,(N b∨b=D)→s₁.heap.get? b=none:=fun b q=>q.elim (hN1 b) fun q=>q▸n₁ sD
 obtain⟨C₂,hC₂⟩:∃ C₂:Cx,C₂=(C.hide N).hide (·=D):=⟨_,rfl⟩
 have mv₁:∀ {h'':Heap},Grows s₁.heap h''→Mv ρ₁.length C s₁.heap ρ₁ C₂ h'' ρ₁:=fun g=>by rw[hC₂,← hCC];exact .hide g hN2
 have off₂:∀ b,C.off b→C₂.off b:=fun b q=>by rw[hC₂];exact .inl (.inl q)
 have offN:∀ b,N b→C₂.off b:=fun b q=>by rw[hC₂];exact .inl (.inr q)
 have offD:C₂.off D:=by rw[hC₂];exact .inr rfl
 have hat:∃ f,C₂=C.at f:=⟨_,hC₂⟩
 obtain⟨f₂,hf₂⟩:=hat
 have base₂:C₂.base=C.base:=by rw[hf₂];rfl
 have aux₂:C₂.aux=C.aux:=by rw[hf₂];rfl
 have hA₂:AOk C₂.aux d A:=by rw[aux₂];exact hA
 have own:∀ {x:Str} {b:Addr},(compEnvC cs (O++cl) (D+1) env).kindOf x=some .cell→(O++cl).lookup x=some b→(env.kindOf x=some .cell∧env.cells.lookup x=some b)∨(x,b)∈O:=fun {x b} h1 h2=>by
  rcases compEnv_cell hE hg h1 with a1 | a1
  ·exact .inl ⟨a1.2,(Ly.free a1.1).symm.trans h2⟩
  ·obtain⟨c,p1,p2⟩:=Ly.look a1
   exact .inr (Option.some.inj (p1.symm.trans h2)▸p2)
 have ownC:∀ {b:Addr},Own cenv b→b=D+1∨∃ x,(env.kindOf x=some .cell∧env.cells.lookup x=some b)∨(x,b)∈O:=fun {b} q=>by
  rcases q with q | ⟨x,hx,hl⟩
  ·exact .inl (q.trans cvl)
  ·rw[← hcv] at hx
   rw[cvc] at hl
   exact .inr ⟨x,own hx hl⟩
 have ownOff:∀ b,Own cenv b→C₂.off b:=fun b q=>by
  rcases ownC q with q' | ⟨x,h1 | h1⟩
  ·exact offN b ((hNi b).mpr ⟨Nat.le_of_eq q'.symm,q⟩)
  ·exact off₂ b (S₁.frm.off b (.inr ⟨x,h1⟩))
  ·exact offN b ((hNi b).mpr ⟨Nat.le_trans (Nat.le_succ _) (hO.empty x b h1).2,q⟩)
 have hNal:∀ b,N b→∃ o,h'.get? b=some o:=fun b q=>by
  rcases ownC ((hNi b).mp q).2 with q' | ⟨x,h1 | h1⟩
  ·rw[q'];obtain⟨o,_,_,ho,_⟩:=hns';exact⟨o,ho⟩
  ·obtain⟨c,v₀,p1,⟨o,p2,_⟩,_⟩:=S₁.frm.cell x h1.1
   exact⟨o,g _ _ (Option.some.inj (p1.symm.trans h1.2)▸p2)⟩
  ·obtain⟨o,ho,_⟩:=(hO.empty x b h1).1
   exact⟨o,ho⟩
 have I₂:Inv C₂ h' ρ₁ st₁.obs:=by
  rw[hC₂,← hCC]
  exact S₁.inv.hide g fun b q=>⟨hN2 b q,q.elim (hNal b) fun q=>q▸⟨_,hDobj⟩⟩
 have S₃:State C₂ cenv cs (ns++xs) { s₁ with heap:=h' } ρ₁ { st₁ with vars:=st₁.vars.take ns.length++List.replicate xs.length none }:=by
  have hx:Ext Nil s₁ ρ₁ { s₁ with heap:=h' } ρ₁:=Ext.grows (t:=s₁.toks) g
  have F:=S₁.frm.ext hx
  have hv:st₁.vars.take ns.length=st₁.vars:=List.take_of_length_le (by rw[S₁.frm.len];exact Nat.le_refl _)
  subst hcv
  refine⟨I₂,?_,⟨_,hns'⟩,ownOff,notIn sL,by rw[base₂];exact notB sL,fun x hx=>?_,fun x y c h1 h2 h3 h4=>?_,fun x i v h1 h2 h3=>?_,F.frs.to (by rw[aux₂]) base₂ (fun b o _ hb _ hf _=>⟨o,hb,hf⟩) fun _ _ _ _ q _=>q⟩
  ·simp[hv,S₁.frm.len]
  ·rcases compEnv_cell hE hg hx with ⟨h1,h2⟩ | h1
   ·obtain⟨c,v₀,q1,q2,q3,q4⟩:=F.cell x h2
    exact⟨c,v₀,(Ly.free h1).trans q1,q2,q3,by rw[base₂];exact q4⟩
   ·obtain⟨c,q1,q2⟩:=Ly.look h1
    obtain⟨q3,q4⟩:=hO.empty x c q2
    have hc':s₁.heap.objs.size≤c:=Nat.le_trans sL (Nat.le_trans (Nat.le_succ _) q4)
    exact⟨c,none,q1,q3,notIn hc',by rw[base₂];exact notB hc'⟩
  ·have old:∀ {z:Str},env.kindOf z=some .cell→env.cells.lookup z=some c→c<s₁.heap.objs.size:=fun {z} z1 z2=>by
    obtain⟨c',v₀,p1,⟨o,p2,_⟩,_⟩:=S₁.frm.cell z z1
    exact Option.some.inj (p1.symm.trans z2)▸Heap.lt_size p2
   have new:∀ {z:Str},(z,c)∈O→¬ c<s₁.heap.objs.size:=fun {z} z1=>Nat.not_lt.mpr (Nat.le_trans sL (Nat.le_trans (Nat.le_succ _) (hO.empty z c z1).2))
   rcases own h1 h3 with a | a
   ·rcases own h2 h4 with b | b
    ·exact F.inj x y c a.1 b.1 a.2 b.2
    ·exact absurd (old a.1 a.2) (new b)
   ·rcases own h2 h4 with b | b
    ·exact absurd (old b.1 b.2) (new a)
    ·exact cells_inj hO.apart a b
  ·dsimp only at h3
   rw[hv] at h3
   have hi:i<st₁.vars.length:=by
    refine Nat.lt_of_not_le fun hle=>?_
    rw[List.getElem?_append_right hle,List.getElem?_replicate] at h3
    split at h3 <;> cases h3
   rw[List.getElem?_append_left hi] at h3
   have hxx:x∉xs:=fun q=>by have:=idxLast_append_mem q h2;have:=S₁.frm.len;exact Nat.not_lt_of_le (this▸‹ns.length≤i›) hi
   rw[idxLast_append_not hxx] at h2
   have hmem:x∈ns:=List.mem_of_getElem? (idxLast_get h2)
   have hfr:(x,NameKind.free)∈cs.names:=by
    unfold isVar at h1
    split at h1
    ·rename_i e;rcases hg.loc _ (lookup_mem e) rfl with q | q
     ·exact absurd q hxx
     ·exact absurd hmem q
    ·rename_i e;exact absurd (hg.cellx _ (lookup_mem e) rfl) hxx
    ·rename_i e;exact lookup_mem e
    ·cases h1
   have hsc:=hg.free _ hfr rfl
   have hk:=hE.ce x hsc
   have hvar:isVar sc x=true:=by unfold isVar;rcases hsc with q | q <;> (dsimp only at q;rw[q])
   obtain⟨val,hl,hr⟩:=S₁.frm.vals x i v hvar h2 h3
   refine⟨val,?_,hr.move (mv₁ g) hr.lt⟩
   rcases hl with ⟨k,_⟩ | ⟨k,c,q1,oc,q2,q3⟩
   ·rw[hk] at k;cases k
   ·exact .inr ⟨hcE.ce x (.inr (lookup_of_nodup hg.nodup hfr)),c,(Ly.free hfr).trans q1,oc,g _ _ q2,q3⟩
 have K₃:CK C₂ ks kx fp P s₁ ρ₁ D 0 [] { s₁ with heap:=h' } ρ₁:=by
  refine⟨hI.frame 0 _ _ hP fun b hb o ho=>g b o ho,fun b hb=>(hfp b hb).1,Ext.grows g,⟨_,0,hDobj,?_⟩,notIn sD,hK.move (mv₁ g) hK.lt⟩
  simp[vS0,vS1]
 have loop:codeAny (model C.prog C.w) A (.compLoop (.ListComp elt [⟨t,it,ifs,0⟩] cs pos) 0 itv (.ref D) (cenv)) R { s₁ with heap:=h' }:=by
  obtain⟨J,hJ⟩:∃ J:Nat→Shared→Prop,J=CompI C₂ ks kx cenv cs (ns++xs) items fp P s₁ ρ₁ D fun done rest st=>wpM (compItems tg (andM mc) me chk rest) st (fun vs st'=>F (done++vs) { st₁ with obs:=st'.obs }) fun _ _=>False:=⟨_,rfl⟩
  have toJ:∀ {i ρ st done s},done.length≤i→State C₂ cenv cs (ns++xs) s ρ st→CK C₂ ks kx fp P s₁ ρ₁ D i done s ρ→wpM (compItems tg (andM mc) me chk (items.drop i)) st (fun vs st'=>F (done++vs) { st₁ with obs:=st'.obs }) (fun _ _=>False)→J (items.length-i) s:=fun {i ρ st done s} h1 h2 h3 h4=>by rw[hJ];exact⟨i,ρ,st,done,rfl,h1,h2,h3,h4⟩
  refine compLoop_any J ?_ _ (toJ (i:=0) (done:=[]) (Nat.le_refl _) S₃ K₃ hw₂)
  intro n s hq
  refine shut fun PP kk=>?_
  rw[hJ] at hq
  obtain⟨i,ρ,st,done,hn,hdl,hS,K,hwi⟩:=hq
  have fpOff:∀ b:Addr,b∈fp→¬ C₂.off b:=fun b hb q=>by
   rw[hC₂] at q
   rcases q with (q | q) | q
   ·obtain⟨o,ho⟩:=hid b q
    exact no_eq ho ((hfp b hb).2.1)
   ·exact absurd (fpNot hb) (Nat.not_lt.mpr (Nat.le_trans sL ((hNi b).mp q).1))
   ·exact absurd (fpNot hb) (Nat.not_lt.mpr (by rw[q];exact sD))
  have fpOk:∀ b:Addr,b∈fp→(b∉ρ∧¬ C₂.off b)∧C₂.base.get? b=none∧∃ o vs,s.heap.get? b=some o∧o.data=.fields vs∧NoF o∧isVal o=false :=
   fun b hb=>⟨⟨K.fpn b hb,fpOff b hb⟩,by rw[base₂];exact (hfp b hb).2.2,hI.there i _ K.p b hb⟩
  have ownT:∀ b,N b→Own cenv b∧s₁.heap.get? b=none∧b≠D:=fun b hb=>⟨((hNi b).mp hb).2,hN1 b hb,fun q=>Nat.not_succ_le_self D (q▸((hNi b).mp hb).1)⟩
  have eFp:∀ {h₂:Heap},(∀ b o,b∉fp→s.heap.get? b=some o→h₂.get? b=some o)→ExtV C₂ s.heap ρ h₂ ρ:=fun {h₂} hk=>⟨⟨[],by simp⟩,fun b o hb hn' hv=>⟨hk b o (fun q=>by
    obtain⟨_,_,o',vs,h1,_,_,h4⟩:=fpOk b q
    obtain rfl:=some_eq hb h1;exact bool_no hv h4) hb,hn'.1⟩⟩
  /- only the iterator moves -/
  have iter:∀ {h₂:Heap} {tk₂:Nat} {j:Nat},(∀ b o,b∉fp→s.heap.get? b=some o→h₂.get? b=some o)→(∀ b:Addr,b∈fp→∃ o',h₂.get? b=some o')→P j h₂→CK C₂ ks kx fp P s₁ ρ₁ D j done { s with heap:=h₂,toks:=tk₂ } ρ:=fun {h₂ tk₂ j} hk hal hp=>by
   refine⟨hp,K.fpn,K.ext.trans (Ext.fp' hk hal),?_,K.dn,K.k.ext (eFp hk)⟩
   obtain⟨ys,n',h1,h2⟩:=K.dobj
   exact⟨ys,n',hk D _ (fun q=>absurd (fpNot q) (Nat.not_lt.mpr sD)) h1,h2.ext (eFp hk)⟩
  have Kk:VRs (C.at f₂) s.heap ρ ks kx:=by rw[← hf₂];exact K.k
  have Ii:Inv (C.at f₂) s.heap ρ st.obs:=by rw[← hf₂];exact hS.inv
  have pm:model C.prog C.w=model C₂.prog C₂.w:=by rw[hf₂];rfl
  cases hit:items[i]? with
  | none =>
   rw[drop_of_none hit] at hwi
   have hcq:=wpM_chkObs (wpM_bind.mp hwi)
   have hq:=hcq.2
   refine kk (hI.done f₂ i A s ρ st.obs _ _ (hA₂.hand hS.frm.frs) hA Ii Kk K.ext.pre hcq.1 K.p K.fpn hit fun h₂ tk₂ hk=>shut fun PP kk=>?_)
   have E₀:Ext Nil s₀ ρ₀ { s with heap:=h₂,toks:=tk₂ } ρ:=(e₁.over K.ext fun b hb=>(hfp b hb).2.1).fp hk fun b hb=>(hfp b hb).2.1
   have F₀:Frm C₂ s₁.heap ρ₁ env sc ns st₁.vars:=by rw[hC₂,← hCC];exact S₁.frm.hide (.refl _) hN2
   have F₁:Frm C₂ s.heap ρ env sc ns st₁.vars:=F₀.extS K.ext (fun b hb=>by obtain⟨o,vs,h1,h2,_⟩:=hI.there 0 _ hP b hb;exact Own.notFields S₁.frm h1 h2)
    (fun b hb=>.inr fun o ho=>by obtain⟨o',vs,h1,_,_,h4⟩:=hI.there 0 _ hP b hb;obtain rfl:=some_eq ho h1;exact h4)
    (fun b o hb ho=>by obtain⟨o',vs,h1,_,h3,_⟩:=hI.there 0 _ hP b hb;obtain rfl:=some_eq ho h1;exact h3)
   have SA:State C₂ env sc ns s ρ { st₁ with obs:=st.obs }:=⟨hS.inv,F₁⟩
   have SB:=SA.fp (tk:=tk₂) hk fpOk
   obtain⟨ys,n',hDo,hvs⟩:=K.dobj
   have hDo₂:h₂.get? D=some { cls:=.type "list", data:=.seq ys n' }:=hk D _ (fun q=>absurd (fpNot q) (Nat.not_lt.mpr sD)) hDo
   have hq':F done { st₁ with obs:=st.obs }:=by have z:=wpM_pure.mp hq;rw[List.append_nil] at z;exact z
   rw[hC₂] at SB
   refine kk (hfin done _ _ ρ N hq' ⟨⟨ys,n',hDo₂,by rw[← hC₂];exact hvs.ext (eFp hk)⟩,SB,K.dn,notB sD,fun q=>?_,E₀,e₁.was (n₁ sD)⟩ ((hNi _).mpr ⟨Nat.le_refl _,.inl cvl.symm⟩) ?_ (fun b hb=>?_))
   ·rcases q with q | q
    ·exact S₁.inv.notOff (n₁ sD) q
    ·exact Nat.not_succ_le_self D ((hNi D).mp q).1
   ·obtain⟨m,o,es,ep,ho,hd⟩:=hS.frm.loc
    rw[cvl] at ho
    exact⟨m,o,es,ep,hk _ o (fun q=>absurd (fpNot q) (Nat.not_lt.mpr sL)) ho,hd⟩
   ·have hb':s₁.heap.objs.size≤b:=Nat.le_trans sL ((hNi b).mp hb).1
    refine⟨fun hm=>(hS.inv.new b hm).2 (offN b hb),notB hb',S₁.inv.notOff (n₁ hb'),e₁.was (n₁ hb')⟩
  | some v =>
   have hlt:i<items.length:=(List.getElem?_eq_some_iff.mp hit).1
   rw[drop_of_some hit] at hwi
   have hcq:=wpM_chkObs (wpM_bind.mp hwi)
   have hq:=hcq.2
   refine kk (hI.next f₂ i A s ρ st.obs _ _ _ v hA Ii Kk K.ext.pre hcq.1 K.p K.fpn hit (fun val s₁ h=>h) fun val h₂ tk₂ hv hP' hk=>?_)
   rw[← hf₂] at hv
   have S₂:=hS.fp (tk:=tk₂) hk fpOk
   have K₂:=iter (tk₂:=tk₂) hk (fun b hb=>let ⟨o,_,h1,_⟩:=hI.there _ _ hP' b hb;⟨o,h1⟩) hP'
   rw[pm]
   refine at_asg (S:=N) hcE (fun b q=>((hNi b).mp q).2) ht hv (fun x b _ h2 h3=>(hNi b).mpr ?_) A _ _ (fun _ _=>False) hA₂ S₂ (wpM_mono (wpM_bind.mp hq) (fun _ st₃ h₃ _ s₃ ρ₃ _ S₃ e₃=>?_) fun _ _ h=>h) (fun _ _ _ _ _ h _=>h.elim)
   ·refine⟨?_,h3.own⟩
    rcases h3 with ⟨_,q⟩ | ⟨q,q'⟩
    ·exact Nat.le_of_eq (by rw[q,cvl])
    ·rcases hg.own x (htn x h2) with hl | hl
     ·have hk':=hcE.lo x hl
      rw[hk'] at q;cases q
     ·obtain⟨c,p1,p2⟩:=Ly.look (lookup_mem hl)
      have q'':(O++cl).lookup x=some b:=by rw[← cvc];exact q'
      obtain rfl:=some_eq p1 q''
      exact Nat.le_trans (Nat.le_succ _) (hO.empty x _ p2).2
   have K₃:=K₂.step (g:=f₂) hI S₂ e₃ ownT
   refine (snd_tests hifs (by rw[hf₂];exact hc f₂ _ hcE)) A s₃ ρ₃ st₃ _ _ (fun _ _=>False) hA₂ S₃ (wpM_mono (wpM_bind.mp h₃) (fun b st₄ h₄ b' s₄ ρ₄ r₄ S₄ e₄=>?_) fun _ _ h=>h) (fun _ _ _ _ _ h _=>h.elim)
   obtain rfl:=r₄
   have K₄:=K₃.step (g:=f₂) hI S₃ e₄ (fun b q=>q.elim)
   cases b with
   | false=>exact⟨_,hn▸Nat.sub_lt_sub_left hlt (Nat.lt_succ_self i),toJ (Nat.le_succ_of_le hdl) S₄ K₄ h₄⟩
   | true =>
    refine (show SndE C₂ d cenv cs (ns++xs) elt me by rw[hf₂];exact he f₂ _ hcE) A s₄ ρ₄ st₄ _ _ (fun _ _=>False) hA₂ S₄ (wpM_mono (wpM_bind.mp h₄) (fun w st₅ h₅ val₅ s₅ ρ₅ r₅ S₅ e₅=>?_) fun _ _ h=>h) (fun _ _ _ _ _ h _=>h.elim)
    have K₅:=K₄.step (g:=f₂) hI S₄ e₅ (fun b q=>q.elim)
    obtain⟨ys,n',hDo,hvs⟩:=K₅.dobj
    have hys:ys.size=done.length:=by have:=hvs.len;simp at this;exact this.symm
    refine wpAny_list_append_plain ⟨n',hDo⟩ (fun h₆ hpl hs₆=>?_) (by rw[hys];exact Nat.le_trans hdl (Nat.le_trans (Nat.le_of_lt hlt) hlen))
    obtain⟨n₆,hD₆⟩:=hpl
    have keep₆:∀ b o,¬ b=D→s₅.heap.get? b=some o→h₆.get? b=some o:=fun b o hb e=>(hs₆.2 b hb).trans e
    have S₆:=S₅.off1 (tk:=s₅.toks) keep₆ K₅.dn (by rw[base₂];exact notB sD) (Own.notData S₅.frm hDo (.inr ⟨_,_,rfl⟩)) offD ⟨_,hD₆⟩ (fun o ho=>by obtain rfl:=some_eq hDo ho;exact⟨_,rfl,by decide⟩)
    have eV:ExtV C₂ s₅.heap ρ₅ h₆ ρ₅:=⟨⟨[],by simp⟩,fun b o hb hn' _=>⟨keep₆ b o (fun q=>hn'.2 (q▸offD)) hb,hn'.1⟩⟩
    have K₆:CK C₂ ks kx fp P s₁ ρ₁ D (i+1) (done++[w]) { s₅ with heap:=h₆,toks:=s₅.toks } ρ₅:=by
     refine⟨hI.frame _ _ _ K₅.p fun b hb o ho=>keep₆ b o (fun q=>absurd (fpNot hb) (by rw[q];exact Nat.not_lt.mpr sD)) ho,K₅.fpn,K₅.ext.over (Ext.one keep₆ hD₆) fun b q=>q▸n₁ sD,⟨_,n₆,hD₆,?_⟩,K₅.dn,K₅.k.ext eV⟩
     rw[Array.toList_push]
     exact (hvs.ext eV).append (.one (r₅.ext eV))
    refine⟨_,hn▸Nat.sub_lt_sub_left hlt (Nat.lt_succ_self i),toJ (by rw[List.length_append];exact Nat.succ_le_succ hdl) S₆ K₆ ?_⟩
    refine wpM_mono (wpM_bind.mp h₅) (fun vs st' hv'=>?_) fun _ _ h=>h
    have hv'':=wpM_pure.mp hv'
    rw[List.append_assoc];exact hv''
 exact codeAny_compStart_list loop (hI.self 0 A _ _ _ K₃.p loop)
theorem comp_core (hE:EnvOk env sc)(hg:CompGood sc ns cs xs){t it elt:Expr}{ifs:List Expr}{pos pos':Pos}{tg:Tg}{src:M Src}{mc:List (M Bool)}{me:M V}
  (ht:TgtR cs (ns++xs) t tg) (htn:∀ x∈tname t,x∈xs) (hs:SrcSnd C d env sc ns t it src) (hset:∀ x,foldedSetIterable it env x=pure x) (hifs:ifs.length≤1)
  (hc:∀ g cenv,EnvOk cenv cs→All2 (SndB (C.at g) d cenv cs (ns++xs)) ifs mc) (he:∀ g cenv,EnvOk cenv cs→SndE (C.at g) d cenv cs (ns++xs) elt me)
  {use:Option (Value→Sem Unit)} {A:Around} {s₀:Shared} {ρ₀:List Addr} {st₀:St} {Q:Value→Shared→Prop} {E:Value→Shared→Prop} {X:Str→St→Prop} {FIN:V→St→Prop}
  (hA:AOk C.aux d A) (hS₀:State C env sc ns s₀ ρ₀ st₀) (hw:wpM (compM ns.length xs.length src tg (andM mc) me) st₀ FIN X) (hX:∀ c st' x s' ρ',X c st'→Raised C env sc ns s₀ ρ₀ c st' x s' ρ'→E x s')
  (hfin:∀ vs st' D s' ρ' L N,FIN (.flist vs) st'→Fresh (C.hide N) env sc ns s₀ ρ₀ vs D s' ρ' st'→N L→(∃ m,s'.heap.Ns L m)→(∀ b,N b→b∉ρ'∧C.base.get? b=none∧¬ C.off b∧s₀.heap.get? b=none) →
   compPost (model C.prog C.w) A E use Q (.ref D) L (.ok .next) s') :
  wpAny (model C.prog C.w) A (comprehension (.ListComp elt [⟨t,it,ifs,0⟩] cs pos) cs env pos' (newList []) false (eval it env) use) Q E s₀:=by
 have hfree:∀ p∈cs.names,p.2=.free→(env.cells.lookup p.1).isSome=true:=fun p hp hk=>by
  obtain⟨c,v₀,h1,_⟩:=hS₀.frm.cell p.1 (hE.ce p.1 (hg.free p hp hk))
  rw[h1];rfl
 refine wpAny_comprehension_free (g:=⟨t,it,ifs,0⟩) (gs:=[]) rfl hset (closure_eq hfree) hg.kind (fun p hp hl=>lookup_of_nodup hg.nodup (by rw[← hl];exact hp)) ?_
 refine hs A s₀ ρ₀ st₀ _ E X hA hS₀ (wpM_mono (wpM_bind.mp hw) (fun sr st₁ hw₁ itv s₁ ρ₁ fp P ks kx hI hK hP hfp S₁ e₁=>?_) fun _ _ h=>h) hX
 by_cases hlen:sr.items.length≤lim
 case neg=>rw[if_neg hlen] at hw₁;exact hw₁.elim
 rw[if_pos hlen] at hw₁
 have hw₂:=wpM_mono (wpM_innerM.mp (wpM_noX (wpM_bind.mp hw₁))) (fun _ _ h=>wpM_pure.mp h) fun _ _ h=>h
 exact wpAny_newList (newEnv_own (Heap.size_push ..) (cellsFrom_app ..) rfl (comp_in hE hg ht htn hifs hc he hA hS₀.inv.hid hI hK hP hfp S₁ e₁ hlen (F:=fun vs st'=>FIN (.flist vs) st') hw₂ (comp_lay hg.nodup hfree) rfl fun vs st' s' ρ' N=>hfin vs st' _ s' ρ' _ N)) (by decide)
end
end Mine
namespace Mine
set_option backward.match.sparseCases false
open PySem PyProof.Rows
theorem hide_comm (C:Cx)(N M:Addr→Prop):(C.hide N).hide M=(C.hide M).hide N:=congrArg (fun f=>C.at f) (funext fun b=>propext or_right_comm)
section
variable {C:Cx}{d:Nat}{env:Env}{sc cs:Scope}{ns xs:List Str}
theorem Ext.letGo {S:Addr→Prop}{s₀ s:Shared}{ρ₀ ρ:List Addr}(x:Ext S s₀ ρ₀ s ρ){L:Addr}{h':Heap}(hs:Heap.SameBut L s.heap h')(h0:s₀.heap.get? L=none):Ext S s₀ ρ₀ { s with heap:=h' } ρ:=by
 have nl:∀ b o,s₀.heap.get? b=some o→b≠L:=fun b o hb q=>by rw[q,h0] at hb;cases hb
 refine⟨x.pre,x.fresh,fun b o hb hn hS=>?_,fun b o hb=>?_,x.gens,x.drawn,x.os⟩
 ·rcases x.keep b o hb hn hS with q | ⟨hc,sl,q⟩
  ·exact .inl ((hs.2 b (nl b o hb)).trans q)
  ·exact .inr ⟨hc,sl,(hs.2 b (nl b o hb)).trans q⟩
 ·obtain⟨o',ho'⟩:=x.alive b o hb
  exact⟨o',(hs.2 b (nl b o hb)).trans ho'⟩
theorem State.letGo {N:Addr→Prop}{L:Addr}{s:Shared}{ρ:List Addr}{st:St}{h':Heap}(hS:State (C.hide N) env sc ns s ρ st)(hL:N L)(hs:Heap.SameBut L s.heap h')(hN:∀ b,N b→b∉ρ∧C.base.get? b=none∧¬ C.off b)(ho:∀ b,Own env b→C.off b)(hF:∀ b,isFA C b→¬ N b):State C env sc ns { s with heap:=h' } ρ st∧Mv ρ.length (C.hide N) s.heap ρ C h' ρ :=
 hS.leave (fun b o hb e=>(hs.2 b fun q=>hb (q▸hL)).trans e) hN ho hF
theorem Fresh.letGo {N:Addr→Prop}{L:Addr}{s₀ s:Shared}{ρ₀ ρ:List Addr}{vs:List V}{D:Addr}{st:St}{h':Heap}(F:Fresh (C.hide N) env sc ns s₀ ρ₀ vs D s ρ st)(hL:N L)(hs:Heap.SameBut L s.heap h')(hN:∀ b,N b→b∉ρ∧C.base.get? b=none∧¬ C.off b∧s₀.heap.get? b=none)(ho:∀ b,Own env b→C.off b)(hF:FrsOk C s₀.heap ρ₀):Fresh C env sc ns s₀ ρ₀ vs D { s with heap:=h' } ρ st:=by
 have nD:¬ N D:=fun q=>F.noff (.inr q)
 have dl:D≠L:=fun q=>nD (q▸hL)
 have S:=F.st
 rw[hide_comm] at S
 obtain⟨S',mv⟩:=S.letGo hL hs (fun b q=>⟨(hN b q).1,(hN b q).2.1,fun q'=>q'.elim (hN b q).2.2.1 fun q'=>nD (q'▸q)⟩) (fun b q=>.inl (ho b q)) (fun b q z=>by obtain⟨o,q1,_⟩:=hF.fa q;exact no_eq q1 ((hN b z).2.2.2))
 obtain⟨items,n,h1,h2⟩:=F.obj
 rw[hide_comm] at h2
 exact⟨⟨items,n,(hs.2 D dl).trans h1,h2.move mv h2.lt⟩,S',F.nin,F.nb,fun q=>F.noff (.inl q),F.ext.letGo hs (hN L hL).2.2.2,F.new⟩
noncomputable def SndF (C:Cx)(d:Nat)(env:Env)(sc:Scope)(ns:List Str)(t:Sem Value)(m:M V):Prop :=
 ∀ (A:Around) (s:Shared) (ρ:List Addr) (st:St) (Q:Value→Shared→Prop) (E:Value→Shared→Prop) (X:Str→St→Prop),AOk C.aux d A→State C env sc ns s ρ st →
  wpM m st (fun v st'=>∀ vs D s' ρ',v=.flist vs→Fresh C env sc ns s ρ vs D s' ρ' st'→Q (.ref D) s') X →
  (∀ c st' x s' ρ',X c st'→Raised C env sc ns s ρ c st' x s' ρ'→E x s')→wpAny (model C.prog C.w) A t Q E s
theorem SndF.val {t:Sem Value}{m:M V}(h:SndF C d env sc ns t m):Snd C d env sc ns (VR C) Nil t m:=fun A s ρ st Q E X hA hS hw hX =>
 h A s ρ st Q E X hA hS (wpM_mono hw (fun v st' hq vs D s' ρ' hv F=>by subst hv;obtain⟨S,r⟩:=F.val hS.frm.off;exact hq _ _ _ r S F.ext) fun _ _ q=>q) hX
theorem SndF.own {t:Sem Value}{m:M V}(h:SndF C d env sc ns t m):Snd C d env sc ns (VR C) Nil t (m.bind ownL):=fun A s ρ st Q E X hA hS hw hX =>
 h A s ρ st Q E X hA hS (wpM_mono (wpM_bind.mp hw) (fun v st' hq vs D s' ρ' hv F=>by subst hv;obtain⟨S,r⟩:=F.own hS.frm.off;exact hq _ _ _ r S (F.ext.taken F.new)) fun _ _ q=>q) hX
theorem SndF.mode {t:Sem Value}{m:M V}(h:SndF C d env sc ns t m)(b:Bool):Snd C d env sc ns (VR C) Nil t (ownM b m):=by
 cases b with
 | true=>exact h.own
 | false=>exact h.val
theorem State.fresh {s:Shared}{ρ:List Addr}{st:St}(hS:State C env sc ns s ρ st){vs:List V}{items:Array Value}{n:Nat}{h':Heap}{tk:Nat}{D:Addr}(g:Grows s.heap h')(hD:s.heap.get? D=none)(ho:h'.get? D=some { cls:=.type "list", data:=.seq items n }) (hv:VRs C s.heap ρ vs items.toList) :
  Fresh C env sc ns s ρ vs D { s with heap:=h',toks:=tk } ρ st :=
 have hN:∀ b,b=D→s.heap.get? b=none:=fun b q=>q▸hD
 ⟨⟨items,n,ho,hv.move (.hide g hN) hv.lt⟩,⟨hS.inv.hide g fun b q=>⟨hN b q,q▸⟨_,ho⟩⟩,hS.frm.hide g hN⟩,hS.inv.notIn hD,hS.inv.notB hD,hS.inv.notOff hD,Ext.grows g,hD⟩
theorem Fresh.from {s₀ s₁ s:Shared}{ρ₀ ρ₁ ρ:List Addr}{vs:List V}{D:Addr}{st:St}(F:Fresh C env sc ns s₁ ρ₁ vs D s ρ st)(e:Ext Nil s₀ ρ₀ s₁ ρ₁):Fresh C env sc ns s₀ ρ₀ vs D s ρ st:=⟨F.obj,F.st,F.nin,F.nb,F.noff,e.trans F.ext,e.was F.new⟩
theorem snd_comp (hE:EnvOk env sc)(hg:CompGood sc ns cs xs){t it elt:Expr}{ifs:List Expr}{pos:Pos}{tg:Tg}{src:M Src}{mc:List (M Bool)}{me:M V}
  (ht:TgtR cs (ns++xs) t tg) (htn:∀ x∈tname t,x∈xs) (hs:SrcSnd C d env sc ns t it src) (hset:∀ x,foldedSetIterable it env x=pure x) (hifs:ifs.length≤1)
  (hc:∀ g cenv,EnvOk cenv cs→All2 (SndB (C.at g) d cenv cs (ns++xs)) ifs mc) (he:∀ g cenv,EnvOk cenv cs→SndE (C.at g) d cenv cs (ns++xs) elt me) :
  SndF C d env sc ns (eval (.ListComp elt [⟨t,it,ifs,0⟩] cs pos) env) (compM ns.length xs.length src tg (andM mc) me):=fun A s ρ st Q E X hA hS hw hX=>by
 rw[eval_ListComp]
 refine comp_core (use:=none) hE hg ht htn hs hset hifs hc he hA hS hw hX fun vs st' D s' ρ' L N hf F hL hns hN=>?_
 obtain⟨m,hm⟩:=id hns
 exact⟨m,hm,fun h' hsb=>hf vs D _ ρ' rfl (F.letGo hL hsb hN hS.frm.off hS.frm.frs)⟩
theorem snd_assignComp (hE:EnvOk env sc)(hg:CompGood sc ns cs xs){x:Str}{p pos pos':Pos}{i:Nat}{t it elt:Expr}{ifs:List Expr}{tg:Tg}{src:M Src}{mc:List (M Bool)}{me:M V}
  (hx:isVar sc x=true) (hi:idxLast ns x=some i)
  (ht:TgtR cs (ns++xs) t tg) (htn:∀ x∈tname t,x∈xs) (hs:SrcSnd C d env sc ns t it src) (hset:∀ x,foldedSetIterable it env x=pure x) (hifs:ifs.length≤1)
  (hc:∀ g cenv,EnvOk cenv cs→All2 (SndB (C.at g) d cenv cs (ns++xs)) ifs mc) (he:∀ g cenv,EnvOk cenv cs→SndE (C.at g) d cenv cs (ns++xs) elt me) (own:Bool) :
  SndX C d env sc ns (.Assign [.Name x p] (.ListComp elt [⟨t,it,ifs,0⟩] cs pos) pos') (assignM (.var i) (ownM own (compM ns.length xs.length src tg (andM mc) me))):=by
 obtain⟨b,hb⟩:∃ b,swapsWith (.ListComp elt [⟨t,it,ifs,0⟩] cs pos) (some (.Name x p)) pos'.line env=pure b:=⟨_,rfl⟩
 cases b with
 | false=>exact snd_assignName hE ((snd_comp hE hg ht htn hs hset hifs hc he).mode own) hx hi hb
 | true =>
  refine .of fun A s ρ st Q E X hA hS hw=>?_
  rw[exec_Assign_arm]
  refine wpAny_bind (wpAny_standAt ?_)
  have hb2:swapsWithSole [.Name x p] (.ListComp elt [⟨t,it,ifs,0⟩] cs pos) pos'.line env=pure true:=hb
  rw[hb2]
  refine wpAny_bind (wpAny_pure ?_)
  rw[if_pos rfl]
  refine wpAny_bind ?_
  rw[arm_evalThenUse_ListComp]
  refine wpAny_bind ?_
  have hw1:wpM (compM ns.length xs.length src tg (andM mc) me) st (fun v st'=>∀ vs,v=.flist vs→wpM (if own then ownL v else M.pure v) st' (fun v st'=>wpM ((asg (.var i) v).bind fun _=>M.pure .next) st' (fun v st'=>∀ val s' ρ',FlR C s'.heap ρ' v val→State C env sc ns s' ρ' st'→Ext (Own env) s ρ s' ρ'→Q val s') X) X) X:=by
   have h0:=wpM_bind.mp hw.1
   cases own with
   | true=>exact wpM_mono (wpM_bind.mp h0) (fun v st' q vs _=>q) fun _ _ q=>q
   | false=>exact wpM_mono h0 (fun v st' q vs _=>q) fun _ _ q=>q
  refine comp_core (Q:=fun _ s'=>wpAny _ A (pure ()) (fun _ s''=>wpAny _ A (pure PySem.Flow.next) Q E s'') E s') hE hg ht htn hs hset hifs hc he hA hS hw1 hw.2 fun vs st' D s' ρ' L N hf F hL hns hN=>?_
  have ho:=hS.frm.off
  have ho':∀ b,Own env b→(C.hide N).off b:=fun b q=>.inl (ho b q)
  obtain⟨v',st₁,ρ₁,hf₁,S₁,r₁,e₁,hρ⟩:∃ v' st₁ ρ₁,wpM ((asg (.var i) v').bind fun _=>M.pure .next) st₁ (fun v st'=>∀ val s' ρ',FlR C s'.heap ρ' v val→State C env sc ns s' ρ' st'→Ext (Own env) s ρ s' ρ'→Q val s') X∧State (C.hide N) env sc ns s' ρ₁ st₁∧VR (C.hide N) s'.heap ρ₁ v' (.ref D)∧Ext Nil s ρ s' ρ₁∧∀ a,a∈ρ₁→a∈ρ'∨a=D:=by
   have hf':=hf vs rfl
   cases own with
   | true =>
    obtain⟨S,r⟩:=F.own ho'
    refine⟨_,_,_,hf',S,r,F.ext.taken F.new,fun a ha=>?_⟩
    rcases List.mem_append.mp ha with q | q
    ·exact .inl q
    ·exact .inr (List.mem_singleton.mp q)
   | false =>
    obtain⟨S,r⟩:=F.val ho'
    exact⟨_,_,_,hf',S,r,F.ext,fun a ha=>.inl ha⟩
  have hN₁:∀ b,N b→b∉ρ₁:=fun b q hm=>by
   rcases hρ b hm with z | z
   ·exact (hN b q).1 z
   ·exact F.noff (.inr (z▸q))
  show wpAny _ A (assign (.Name x p) env (.ref D)) _ E s'
  show wpAny _ A (do standAt p;bindName env x (.ref D)) _ E s'
  refine wpAny_bind (wpAny_standAt (wpAny_bindName ?_))
  refine at_store (C:=C.hide N) (S:=Own env) hE hx hi r₁ (fun _ q=>q.own) A _ E (fun _ _=>False) hA S₁ (wpM_setVar.mpr (let q:=wpM_setVar.mp (wpM_bind.mp hf₁);⟨q.1,fun _ s₂ ρ₂ _ S₂ e₂=>?_⟩)) (fun _ _ _ _ _ h _=>h.elim)
  have h₂:=(wpM_setVar.mp (wpM_bind.mp hf₁)).2
  obtain⟨m,o,es,ep,hob,hd⟩:=id hns
  have nO:¬ Own env L:=fun q=>(hN L hL).2.2.1 (ho L q)
  have hL₂:∃ m,s₂.heap.Ns L m:=by
   obtain⟨o',h1,_,h2,_⟩:=(e₂.keep L o hob (hN₁ L hL) nO).data
   exact⟨m,o',es,ep,h1,h2.trans hd.1,hd.2⟩
  obtain⟨m₂,hm₂⟩:=id hL₂
  refine⟨m₂,hm₂,fun h' hsb=>?_⟩
  obtain⟨S₃,_⟩:=S₂.letGo hL hsb (fun b q=>⟨fun hm=>(S₂.inv.new b hm).2 (.inr q),(hN b q).2.1,(hN b q).2.2.1⟩) ho (fun b q z=>by obtain⟨o,q1,_⟩:=hS.frm.frs.fa q;exact no_eq q1 ((hN b z).2.2.2))
  exact wpAny_pure (wpAny_pure (h₂ _ _ _ rfl S₃ ((e₁.nil.trans e₂).letGo hsb (hN L hL).2.2.2)))
end
end Mine
namespace Mine
set_option backward.match.sparseCases false
open PySem PyProof.Rows
theorem small_range {lo hi:Int}(h:smallR lo hi=true):Builtin.Range.small lo hi 1=true∧Builtin.Range.rangeSize lo hi 1=max (hi-lo) 0:=by
 simp only[smallR,Bool.and_eq_true,decide_eq_true_eq] at h
 obtain⟨⟨⟨h1,h2⟩,h3⟩,h4⟩:=h
 have hs:Builtin.Range.rangeSize lo hi 1=max (hi-lo) 0:=by
  unfold Builtin.Range.rangeSize
  simp only[show (1:Int) > 0 from by decide,if_true]
  split
  ·rename_i q;rw[Int.ediv_one,Int.sub_add_cancel];exact (Int.max_eq_left (Int.sub_nonneg_of_le (Int.le_of_lt q))).symm
  ·rename_i q;exact (Int.max_eq_right (Int.sub_nonpos_of_le (Int.not_lt.mp q))).symm
 refine⟨?_,hs⟩
 unfold Builtin.Range.small
 rw[hs]
 unfold Builtin.Range.rangeFitsLong
 simp only[show (1:Int) > 0 from by decide,if_true,Bool.and_eq_true,Bool.or_eq_true,decide_eq_true_eq]
 have e:hi+(1-1)=hi:=Int.add_zero hi
 have k3:-2 ^ 63≤hi:=Int.le_trans (by decide) h3
 have k4:hi<2 ^ 63:=Int.lt_of_le_of_lt h4 (by decide)
 rw[e]
 exact⟨⟨⟨⟨⟨Int.le_trans (by decide) h1,Int.lt_of_le_of_lt h2 (by decide)⟩,k3,k4⟩,by decide,by decide⟩,Int.le_trans (by decide) (Int.le_max_right _ _),Int.max_lt.mpr ⟨Int.lt_of_le_of_lt (Int.sub_le_sub h4 h1) (by decide),by decide⟩⟩,.inr ⟨k3,k4⟩⟩
section
variable {C:Cx}{d:Nat}{env:Env}{sc:Scope}{ns:List Str}
theorem src_value (hh:C.aux.hot=none){target e:Expr}{m:M V}(h:SndE C d env sc ns e m):SrcSnd C d env sc ns target e (m.bind toSrc):=by
 intro A s₀ ρ₀ st₀ Q E X hA hS₀ hw hX
 refine h A s₀ ρ₀ st₀ _ E X hA hS₀ (wpM_mono (wpM_bind.mp hw) (fun v st₁ hw₁ val s₁ ρ₁ r₁ S₁ e₁=>?_) fun _ _ h=>h) hX
 obtain⟨src,hsrc,hq⟩:=wpM_withObs.mp hw₁
 /- a new iterator I on top of the heap -/
 have new:∀ (o:Obj) (P:Nat→Heap→Prop) (ks:List V) (kx:List Value),VRs C s₁.heap ρ₁ ks kx→IterOk C d target src.items src.chk (.ref s₁.heap.objs.size) [s₁.heap.objs.size] P ρ₁ ks kx→P 0 (s₁.heap.push o)→Q (.ref s₁.heap.objs.size) { s₁ with heap:=s₁.heap.push o }:=fun o P ks kx hK hI hP=>by
  have g:=Grows.push s₁.heap o
  refine hq _ _ ρ₁ [s₁.heap.objs.size] P ks kx hI (hK.ext (g.extV ρ₁)) hP (fun b hb=>?_) (S₁.grows g s₁.toks) (e₁.trans (Ext.grows (t:=s₁.toks) g))
  cases mem_one hb
  have hn:s₁.heap.get? s₁.heap.objs.size=none:=Heap.get?_none_of_le (Nat.le_refl _)
  exact⟨S₁.inv.notIn hn,e₁.was hn,S₁.inv.notB hn⟩
 have nil:VRs C s₁.heap ρ₁ [] []:=vS0.mpr'
 cases v <;> first | cases hsrc | skip
 ·/- str -/
  rename_i x
  obtain⟨t,rfl⟩:=r₁
  exact wpAny_pyIter_strU (new _ _ _ _ nil (iter_str hh (t:=t)) ⟨_,Heap.get?_push_size _ rfl,rfl,rfl⟩)
 ·/- range -/
  rename_i lo hi
  dsimp only at hsrc
  split at hsrc
  case isFalse=>cases hsrc
  case isTrue hsm =>
   obtain rfl:=Option.some.inj hsrc
   obtain⟨a,t,u,k,rfl,hn,hr⟩:=r₁
   obtain⟨h1,h2⟩:=small_range hsm
   refine wpAny_pyIter_range hr h1 (new _ _ _ _ nil (iter_range hh) ⟨max (hi-lo) 0,by omega,?_⟩)
   have e0:lo+((0:Nat):Int)=lo:=by simp
   rw[e0,← h2]
   exact Heap.get?_push_size _ rfl
 ·/- a frozen list -/
  rename_i xs
  have hk:∃ a,val=.ref a:=by obtain⟨a,_,_,rfl,_⟩:=r₁;exact⟨a,rfl⟩
  obtain⟨a,rfl⟩:=hk
  obtain⟨items,hl,hvs⟩:=vr_flist r₁
  exact wpAny_pyIter_list hl (new _ _ _ _ (by exact⟨_,_,rfl,r₁,rfl⟩) iter_flist ⟨_,Heap.get?_push_size _ rfl,rfl,rfl⟩)
 ·/- a list of the ledger -/
  rename_i r
  obtain⟨a,rfl,ha⟩:=r₁
  dsimp only at hsrc
  split at hsrc
  case h_2=>cases hsrc
  rename_i xs hxs
  obtain rfl:=Option.some.inj hsrc
  obtain⟨items,n,hl,hvs⟩:=S₁.inv.list hxs ha
  exact wpAny_pyIter_list ⟨_,hl,rfl,n,rfl⟩ (new _ _ _ _ nil (iter_list ha) ⟨_,Heap.get?_push_size _ rfl,rfl,rfl⟩)
theorem src_flist {target e:Expr}{m:M V}(h:SndE C d env sc ns e m):SrcSnd C d env sc ns target e (m.bind toSrcF):=by
 intro A s₀ ρ₀ st₀ Q E X hA hS₀ hw hX
 refine h A s₀ ρ₀ st₀ _ E X hA hS₀ (wpM_mono (wpM_bind.mp hw) (fun v st₁ hw₁ val s₁ ρ₁ r₁ S₁ e₁=>?_) fun _ _ h=>h) hX
 cases v <;> first | exact hw₁.elim | skip
 rename_i xs
 have hq:=wpM_pure.mp (wpM_bind.mp (show wpM ((M.pure xs).bind fun xs=>M.pure (Src.mk xs [])) st₁ _ _ from hw₁))
 have hk:∃ a,val=.ref a:=by obtain⟨a,_,_,rfl,_⟩:=r₁;exact⟨a,rfl⟩
 obtain⟨a,rfl⟩:=hk
 obtain⟨items,hl,hvs⟩:=vr_flist r₁
 have g:=Grows.push s₁.heap { cls:=.type "list_iterator", data:=.fields #[.ref a,.int 0 0] }
 have hK:VRs C s₁.heap ρ₁ [.flist xs] [.ref a]:=⟨_,_,rfl,r₁,rfl⟩
 refine wpAny_pyIter_list hl (hq _ _ ρ₁ [s₁.heap.objs.size] _ _ _ iter_flist (hK.ext (g.extV ρ₁)) ⟨_,Heap.get?_push_size _ rfl,rfl,rfl⟩ (fun b hb=>?_) (S₁.grows g s₁.toks) (e₁.trans (Ext.grows (t:=s₁.toks) g)))
 cases mem_one hb
 have hn:s₁.heap.get? s₁.heap.objs.size=none:=Heap.get?_none_of_le (Nat.le_refl _)
 exact⟨S₁.inv.notIn hn,e₁.was hn,S₁.inv.notB hn⟩
end
end Mine
namespace Mine
set_option backward.match.sparseCases false
open PySem PyProof.Rows
structure CxOk (C:Cx)(G:GI):Prop where
 g:C.base.Ns mainGlobals C.mg
 b:C.base.Ns builtinsNs C.mb
 lim:C.base.NoLimit
 sys:∃ o,C.base.get? sysModules=some o
 blt:∀ x v,bltTab.lookup x=some v→G.fns.contains x=false→G.clss.contains x=false→(G.consts.lookup x).isNone=true→C.mg x=none∧C.mb x=some v
 const:∀ x v,G.consts.lookup x=some v→∃ val,C.mg x=some val∧∀ h ρ,VR C h ρ v val
 cls:∀ x,G.clss.contains x=true→∃ a,C.mg x=some (.ref a)
section
variable {C:Cx}{d:Nat}{env:Env}{sc:Scope}{ns:List Str}{G:GI}
theorem Heap.Ns.grow {h h':Heap}{a:Addr}{m:Str→Option Value}(x:h.Ns a m)(k:h.StaysIn h'):h'.Ns a m:=let ⟨o,es,ep,h1,h2⟩:=x;⟨o,es,ep,k _ _ h1,h2⟩
theorem load_own (hC:CxOk C G)(hE:EnvOk env sc){A:Around}{x:Str}{pos:Pos}{v:Value}{s:Shared}{ρ:List Addr}{st:St}{Q:Value→Shared→Prop}{E:Value→Shared→Prop}(hS:State C env sc ns s ρ st)(hx:isGlob sc x=true)(hv:C.mg x=some v)(h:Q v s) :
  wpAny (model C.prog C.w) A (eval (.Name x pos) env) Q E s :=
 Calls.Name_function_global hE.kind (hE.gl x hx) (Calls.loadGlobal_global (by rw[hE.glob];exact Heap.Ns.grow hC.g hS.inv.base) hv h) (hE.dbg x (.inl hx))
theorem load_blt (hC:CxOk C G)(hE:EnvOk env sc){A:Around}{x:Str}{pos:Pos}{v:Value}{s:Shared}{ρ:List Addr}{st:St}{Q:Value→Shared→Prop}{E:Value→Shared→Prop}(hS:State C env sc ns s ρ st)(hx:isGlob sc x=true)(h1:C.mg x=none)(h2:C.mb x=some v)(h:Q v s) :
  wpAny (model C.prog C.w) A (eval (.Name x pos) env) Q E s :=
 Calls.Name_function_global hE.kind (hE.gl x hx) (Calls.loadGlobal_builtin (by rw[hE.glob];exact Heap.Ns.grow hC.g hS.inv.base) h1 (by rw[hE.blt];exact Heap.Ns.grow hC.b hS.inv.base) h2 h) (hE.dbg x (.inl hx))
noncomputable def starE:Expr→Bool
 | .Starred ..=>true
 | _=>false
noncomputable def ArgR (C:Cx)(d:Nat)(env:Env)(sc:Scope)(ns:List Str)(e:Expr)(m:M V):Prop:=starE e=false∧SndE C d env sc ns e m
theorem star_cons {e:Expr}{r:List Expr}(h:starE e=false):starEach (e::r) env=(false,eval e env)::starEach r env:=by
 cases e <;> first | rfl | cases h
theorem snd_args {pos:Pos}:∀ {es:List Expr} {ms:List (M V)},All2 (ArgR C d env sc ns) es ms→Snd C d env sc ns (VRs C) Nil (spliced (backTo pos (starEach es env))) (seqM ms)
 | [],[],_=>.of fun A s ρ st Q E X hA hS hw=>wpAny_items_nil (hw.1 _ _ _ vS0.mpr' hS (.refl ..))
 | e::es,m::ms,h=>.of fun A s ρ st Q E X hA hS hw=>by
  refine wpAny_items_cons ?_ (star_cons h.1.1)
  refine h.1.2.then hA hS hw fun v val s₁ ρ₁ st₁ r₁ S₁ e₁ hw₁=>?_
  refine (snd_args h.2).then hA S₁ hw₁ fun vs vals s₂ ρ₂ st₂ r₂ S₂ e₂ hw₂=>?_
  exact hw₂.1 _ _ _ (by exact⟨val,vals,rfl,r₁.ext e₂.extN,r₂⟩) S₂ (.refl ..)
 | [],_::_,h=>h.elim
 | _::_,[],h=>h.elim
theorem args_plain {pos:Pos}:∀ {es:List Expr} {ms:List (M V)},All2 (ArgR C d env sc ns) es ms→(backTo pos (starEach es env)).any (·.1)=false
 | [],[],_=>rfl
 | e::es,m::ms,h=>by rw[star_cons h.1.1];exact args_plain h.2
 | [],_::_,h=>h.elim
 | _::_,[],h=>h.elim
theorem evalArgs_any {M:Model}{A:Around}{E:Value→Shared→Prop}{s:Shared}{pos:Pos}{f:Value}{es:List Expr}{ms:List (Mine.M V)}{Q:Args→Shared→Prop}(ha:All2 (ArgR C d env sc ns) es ms)
  (h:wpAny M A (spliced (backTo pos (starEach es env))) (fun vs s'=>Q ⟨vs,[]⟩ s') E s):wpAny M A (evalArgs f true (backTo pos (starEach es env)) []) Q E s:=by
 cases es with
 | nil =>
  unfold evalArgs
  show wpAny M A (spliced [] >>= _) Q E s
  refine wpAny_bind (wpAny_mono h (fun vs s' h'=>?_) fun _ _ x=>x)
  refine wpAny_holding ?_
  exact wpAny_bind (wpAny_pure (wpAny_bind (wpAny_pure (wpAny_pure h'))))
 | cons e es =>
  cases ms with
  | nil=>exact ha.elim
  | cons m ms =>
   rw[star_cons ha.1.1] at h ⊢
   exact Calls.evalArgs_plain h
theorem snd_callB {pos:Pos}{es:List Expr}{ms:List (M V)}{id:String}{g:List V→M V}(ha:All2 (ArgR C d env sc ns) es ms)
  (h:∀ vs vals s ρ st,VRs C s.heap ρ vs vals→At C d env sc ns (VR C) Nil (call (.builtin id) vals) (g vs) s ρ st) :
  Snd C d env sc ns (VR C) Nil (callWith pos (.builtin id) [] (backTo pos (starEach es env)) []) (appM g ms):=.of fun A s ρ st Q E X hA hS hw =>
 Calls.callWith_builtin (args_plain ha) (evalArgs_any ha ((snd_args ha).then hA hS hw fun vs vals s₁ ρ₁ st₁ r₁ S₁ e₁ hw₁=>by
  rw[List.nil_append];exact (h vs vals s₁ ρ₁ st₁ r₁).go hA S₁ hw₁))
theorem snd_callT {pos:Pos}{es:List Expr}{ms:List (M V)}{T:String}{g:List V→M V}(ha:All2 (ArgR C d env sc ns) es ms)
  (h:∀ vs vals s ρ st,VRs C s.heap ρ vs vals→At C d env sc ns (VR C) Nil (call (.type T) vals) (g vs) s ρ st) :
  Snd C d env sc ns (VR C) Nil (callWith pos (.type T) [] (backTo pos (starEach es env)) []) (appM g ms):=.of fun A s ρ st Q E X hA hS hw =>
 PyProof.Rows.callWith_type (args_plain ha) (evalArgs_any ha ((snd_args ha).then hA hS hw fun vs vals s₁ ρ₁ st₁ r₁ S₁ e₁ hw₁=>by
  rw[List.nil_append];exact (h vs vals s₁ ρ₁ st₁ r₁).go hA S₁ hw₁))
theorem snd_callF {pos:Pos}{es:List Expr}{ms:List (M V)}{a:Addr}{o:Obj}{fd:FuncData}{g:List V→M V}(ha:All2 (ArgR C d env sc ns) es ms)(ho:C.base.get? a=some o)(hd:o.data=.func fd)
  (h:∀ vs vals s ρ st,VRs C s.heap ρ vs vals→At C d env sc ns (VR C) Nil (call (.ref a) vals) (g vs) s ρ st) :
  Snd C d env sc ns (VR C) Nil (callWith pos (.ref a) [] (backTo pos (starEach es env)) []) (appM g ms):=.of fun A s ρ st Q E X hA hS hw =>
 Calls.callWith_function (o:=o) (fd:=fd) (evalArgs_any ha ((snd_args ha).then hA hS hw fun vs vals s₁ ρ₁ st₁ r₁ S₁ e₁ hw₁=>by
  rw[List.nil_append];exact⟨⟨S₁.inv.base _ _ ho,hd⟩,(h vs vals s₁ ρ₁ st₁ r₁).go hA S₁ hw₁⟩))
theorem enum_get {xs:List V}{k i:Nat}{v:V}(h:(enumFrom k xs)[i]?=some v):∃ x,xs[i]?=some x∧v=.tuple [.int ((k+i:Nat):Int),x]:=by
 induction xs generalizing k i with
 | nil=>simp[enumFrom] at h
 | cons x xs ih =>
  cases i with
  | zero=>simp[enumFrom] at h;exact⟨x,rfl,by rw[← h];simp⟩
  | succ i =>
   simp[enumFrom] at h
   obtain⟨y,h1,h2⟩:=ih h
   exact⟨y,by simpa using h1,by rw[h2];congr 3;exact congrArg _ (Nat.add_right_comm k 1 i)⟩
theorem enum_none {xs:List V}{k i:Nat}(h:(enumFrom k xs)[i]?=none):xs[i]?=none:=by
 induction xs generalizing k i with
 | nil=>simp
 | cons x xs ih =>
  cases i with
  | zero=>simp[enumFrom] at h
  | succ i=>simp[enumFrom] at h;simpa using ih (k:=k+1) (by simpa using h)
noncomputable def EnumP (e I:Addr)(It:Nat→Heap→Prop)(i:Nat)(h:Heap):Prop:=(∃ old,IsEnum h e I i old)∧It i h
noncomputable def ItOk (I:Addr)(It:Nat→Heap→Prop):Prop:=∀ i h,It i h→(∃ o vs,h.get? I=some o∧o.data=.fields vs∧NoF o∧isVal o=false)∧∀ h':Heap,(∀ o,h.get? I=some o→h'.get? I=some o)→It i h'
theorem en_there {e I:Addr}{It:Nat→Heap→Prop}(hI:ItOk I It){i:Nat}{h:Heap}(hp:EnumP e I It i h)(b:Addr)(hb:b∈[e,I]):∃ o vs,h.get? b=some o∧o.data=.fields vs∧NoF o∧isVal o=false:=by
 rcases List.mem_cons.mp hb with rfl | hb
 ·obtain⟨old,q⟩:=hp.1
  exact⟨_,_,q,rfl,iterObj (n := "enumerate") rfl rfl (by decide) (by decide)⟩
 ·cases mem_one hb
  exact (hI i h hp.2).1
theorem en_frame {e I:Addr}{It:Nat→Heap→Prop}(hI:ItOk I It){i:Nat}{h h':Heap}(hp:EnumP e I It i h)(hk:∀ b:Addr,b∈[e,I]→∀ o,h.get? b=some o→h'.get? b=some o):EnumP e I It i h' :=
 ⟨let ⟨o,q⟩:=hp.1;⟨o,hk e (.head _) _ q⟩,(hI i h hp.2).2 h' fun o q=>hk I (.tail _ (.head _)) o q⟩
theorem en_next {f:Addr→Prop}{elts:List Expr}{k0:Nat}{tp:Pos}{A:Around}{s:Shared}{ρ:List Addr}{obs:List Ob}{e I:Addr}{fp:List Addr}{n i:Nat}{It:Nat→Heap→Prop}{P:Nat→Value→Prop}{St:Nat→Heap→Prop}{xs:List V}{v:V}{Q:Value→Shared→Prop}{R:Option Value→Shared→Prop}{E:Value→Shared→Prop}
  (hI:ItOk I It) (D:Draws C.prog C.w A.in1 I fp n P St) (hef:e∉fp) (heI:e≠I) (hInv:Inv (C.at f) s.heap ρ obs) (hp:EnumP e I It i s.heap) (hst:St i s.heap) (hit:∀ h,St (i+1) h→It (i+1) h) (hn:xs.length=n) (hv:(enumFrom 0 xs)[i]?=some v) (hP:∀ x z,xs[i]?=some x→P i z→VR (C.at f) s.heap ρ x z)
  (hR:∀ val s₁,wpAny (model C.prog C.w) A (letOwnedTupleGo (.Tuple elts k0 tp) (.ref e) val) (fun _ s₂=>Q val s₂) E s₁→R (some val) s₁)
  (hQ:∀ val h' tk,VR (C.at f) h' ρ v val→EnumP e I It (i+1) h'→(∀ b o,b∉[e,I]→s.heap.get? b=some o→h'.get? b=some o)→Q val { s with heap:=h',toks:=tk }):wpAny (model C.prog C.w) A (pyNext (.ref e)) R E s:=by
 obtain⟨x,hx,rfl⟩:=enum_get hv
 obtain⟨old,he⟩:=hp.1
 refine wpAny_pyNext_enum_itemD D he hst (hn▸(List.getElem?_eq_some_iff.mp hx).1) heI hef fun z h' tk hz hout hst' htup hsz hk=>hR _ _ (wpAny_letOwnedTupleGo_enum hout fun h'' he'' hs''=>?_)
 have hane:s.heap.objs.size≠e:=Nat.ne_of_gt (Heap.lt_size he)
 have keep:∀ b o,b∉[e,I]→s.heap.get? b=some o→h''.get? b=some o:=fun b o hb q=>(hs''.2 b fun z=>hb (z▸.head _)).trans (hk b o (fun z=>hb (z▸.head _)) (fun z=>hb (z▸.tail _ (.head _))) q)
 have eV:ExtV (C.at f) s.heap ρ h'' ρ:=⟨⟨[],(List.append_nil _).symm⟩,fun b o hb hn' hv'=>⟨keep b o (fun q=>by
  obtain⟨o',_,q1,_,_,q2⟩:=en_there hI hp b q
  obtain rfl:=some_eq hb q1;exact bool_no hv' q2) hb,hn'.1⟩⟩
 have hnew:s.heap.get? s.heap.objs.size=none:=Heap.get?_none_of_le (Nat.le_refl _)
 refine hQ _ h'' _ ?_ ⟨⟨_,he''⟩,hit _ (D.frame _ _ _ hst' fun b hb o q=>(hs''.2 b fun z=>hef (z▸hb)).trans q)⟩ keep
 exact⟨_,#[.int i tk,z],rfl,⟨_,(hs''.2 _ hane).trans htup,rfl,0,rfl⟩,⟨hInv.notIn hnew,hInv.notOff hnew⟩,_,_,rfl,⟨tk,by rw[Nat.zero_add]⟩,_,_,rfl,(hP x z hx hz).ext eV,rfl⟩
theorem it_list (I ax:Addr):ItOk I fun i h=>h.IsListIter I ax i:=fun i h hp=>⟨li_obj hp,fun h' hk=>hp.at hk⟩
theorem iter_enum (hh:C.aux.hot=none){elts:List Expr}{k0:Nat}{tp:Pos}{ρ₀:List Addr}{e I ax:Addr}{xs:List V}{chk:List (Nat×Ob)}{ks:List V}{kx:List Value}(heI:e≠I)(hax:ax≠I)(hae:ax≠e)
  (hl:∀ {f:Addr→Prop} {h:Heap} {ρ:List Addr} {obs:List Ob},Inv (C.at f) h ρ obs→VRs (C.at f) h ρ ks kx→(∃ t,ρ=ρ₀++t)→chkOk chk obs→∃ items,h.IsList ax items∧VRs (C.at f) h ρ xs items.toList) :
  IterOk C d (.Tuple elts k0 tp) (enumFrom 0 xs) chk (.ref e) [e,I] (EnumP e I fun i h=>h.IsListIter I ax i) ρ₀ ks kx where
 frame:=fun i h h' hp hk=>en_frame (it_list I ax) hp hk
 there:=fun i h hp b hb=>en_there (it_list I ax) hp b hb
 next:=fun f i A s ρ obs Q R E v hA hInv hK hpre hchk hp hn hv hR hQ=>by
  obtain⟨items,h1,h2⟩:=hl hInv hK hpre hchk
  have e1:=h2.len
  rw[Array.length_toList] at e1
  exact en_next (it_list I ax) (Draws.list (show A.in1.handled=none from (hA.handled hh)) I ax hax items) (by simp[heI,Ne.symm hae]) heI hInv hp ⟨hp.2,h1⟩ (fun h q=>q.1) e1 hv (fun x z hx hz=>by
   obtain⟨y,hy,hyv⟩:=h2.getA hx
   have hz:items[i]?=some z:=hz
   obtain rfl:=some_eq hy hz
   exact hyv) hR hQ
 done:=fun f i A s ρ obs Q E _ hA hInv hK hpre hchk hp hn hv hQ=>by
  obtain⟨items,h1,h2⟩:=hl hInv hK hpre hchk
  obtain⟨old,he⟩:=hp.1
  exact wpAny_pyNext_enum_end (hA.handled hh) he hp.2 h1 (h2.noneA (enum_none hv)) fun h' hx=>hQ h' s.toks fun b o hb q=>hx b o (fun z=>hb (by simp[z])) q
 self:=fun i A s Q E hp hQ=>let ⟨⟨old,he⟩,_⟩:=hp;wpAny_pyIter_enum he hQ
end
end Mine
namespace Mine
set_option backward.match.sparseCases false
open PySem PyProof.Rows
section
variable {C:Cx}{d:Nat}{env:Env}{sc:Scope}{ns:List Str}
theorem fresh_none {s:Shared}:s.heap.get? s.heap.objs.size=none:=Heap.get?_none_of_le (Nat.le_refl _)
theorem State.notIn {s:Shared}{ρ:List Addr}{st:St}(hS:State C env sc ns s ρ st){a:Addr}(h:s.heap.get? a=none):a∉ρ:=hS.inv.notIn h
theorem State.notB {s:Shared}{ρ:List Addr}{st:St}(hS:State C env sc ns s ρ st){a:Addr}(h:s.heap.get? a=none):C.base.get? a=none:=hS.inv.notB h
theorem State.free {s:Shared}{ρ:List Addr}{st:St}(hS:State C env sc ns s ρ st){a:Addr}(h:s.heap.get? a=none):Free C ρ a:=⟨hS.inv.notIn h,hS.inv.notOff h⟩
theorem State.made {s:Shared}{ρ:List Addr}{st:St}(hS:State C env sc ns s ρ st){h':Heap}{tk:Nat}{D:Addr}{o:Ob}(g:Grows s.heap h')(hD:s.heap.get? D=none)(r:OR C h' (ρ++[D]) o D) :
  State C env sc ns { s with heap:=h',toks:=tk } (ρ++[D]) { st with obs:=st.obs++[o] }∧Ext Nil s ρ { s with heap:=h',toks:=tk } (ρ++[D])∧VR C h' (ρ++[D]) (.ref st.obs.length) (.ref D):=by
 have ex:Ext Nil s ρ { s with heap:=h',toks:=tk } (ρ++[D]):=Ext.take g hD
 refine⟨⟨hS.inv.made g hD r,hS.frm.ext ex⟩,ex,?_⟩
 exact⟨D,rfl,by rw[← hS.inv.len];simp⟩
theorem Rest.list {S:Addr→Prop}{s:Shared}{ρ:List Addr}{st:St}{Q:Value→Shared→Prop}{E:Value→Shared→Prop}{X:Str→St→Prop}{xs:List V}{items:Array Value}{n:Nat}{h':Heap}{tk:Nat}{D:Addr}(hS:State C env sc ns s ρ st)(hr:Rest C env sc ns (VR C) S Q E X (M.pure (.flist xs)) s ρ st)
  (g:Grows s.heap h') (hD:s.heap.get? D=none) (ho:h'.get? D=some { cls:=.type "list", data:=.seq items n }) (hv:VRs C s.heap ρ xs items.toList):Q (.ref D) { s with heap:=h',toks:=tk }:=by
 refine hr.1 _ _ ρ ?_ (hS.grows g tk) (Ext.grows g)
 exact⟨D,items,n,rfl,ho,hS.free hD,hv.ext (g.extV ρ)⟩
theorem str_app (a b:List Nat):(⟨a.toArray⟩:Str)++(⟨b.toArray⟩:Str)=⟨(a++b).toArray⟩:=by
 show (⟨a.toArray++b.toArray⟩:Str)=_
 simp
theorem str_len (a:List Nat):(⟨a.toArray⟩:Str).length=a.length:=by show a.toArray.size=_;simp
theorem lim_line:lim=sizeLine:=rfl
theorem mulOk {a b:Int}(h:a.natAbs.log2+b.natAbs.log2<67108864):IntMulOk a b:=by
 unfold IntMulOk Builtin.Int.intTooBig
 have h1:Builtin.Int.intBits a≤a.natAbs.log2+1:=by unfold Builtin.Int.intBits;split;exact Nat.zero_le _;exact Nat.le_refl _
 have h2:Builtin.Int.intBits b≤b.natAbs.log2+1:=by unfold Builtin.Int.intBits;split;exact Nat.zero_le _;exact Nat.le_refl _
 simp only[Bool.and_eq_true,decide_eq_true_eq,not_and]
 intro _ q
 have:bitsLine ≥ 67108866:=by decide
 omega
theorem Rest.ite' {α:Type}{c:Prop}[Decidable c]{m:M α}{st:St}{Q:α→St→Prop}{X:Str→St→Prop}(h:wpM (if c then m else stuck) st Q X):c∧wpM m st Q X:=by
 by_cases hc:c
 ·rw[if_pos hc] at h;exact⟨hc,h⟩
 ·rw[if_neg hc] at h;exact h.elim
theorem Rest.ite2 {α:Type}{c:Prop}[Decidable c]{m:M α}{st:St}{Q:α→St→Prop}{X:Str→St→Prop}(h:wpM (if c then stuck else m) st Q X):¬ c∧wpM m st Q X:=by
 by_cases hc:c
 ·rw[if_pos hc] at h;exact h.elim
 ·rw[if_neg hc] at h;exact⟨hc,h⟩
theorem Inv.isList {h:Heap}{ρ:List Addr}{obs:List Ob}(I:Inv C h ρ obs){r:Nat}{xs:List V}{a:Addr}(ho:obs[r]?=some (.list xs))(ha:ρ[r]?=some a):∃ items,h.IsList a items∧VRs C h ρ xs items.toList:=by
 obtain⟨items,n,h1,h2⟩:=I.list ho ha
 exact⟨items,⟨_,h1,rfl,n,rfl⟩,h2⟩
inductive ListAt (C:Cx)(h:Heap)(ρ:List Addr)(x:Value)(Q:List V→Prop):Prop
 | mk (a:Addr) (items:Array Value) (o:Obj) (n:Nat) (xs:List V) (e:x=.ref a) (g:h.get? a=some o) (c:o.cls=.type "list") (d:o.data=.seq items n) (v:VRs C h ρ xs items.toList) (l:xs.length=items.size) (q:Q xs)
theorem list_at {h:Heap}{ρ:List Addr}{st:St}(I:Inv C h ρ st.obs){v:V}{x:Value}(r:VR C h ρ v x){Q:List V→St→Prop}{X:Str→St→Prop}(hw:wpM (listOf v) st Q X):ListAt C h ρ x fun xs=>Q xs st:=by
 rcases wpM_listOf hw with ⟨xs,rfl | rfl,hq⟩ | ⟨i,xs,rfl,ho,hq⟩
 ·obtain⟨a,items,n,rfl,h1,_,hv⟩:=r
  exact⟨a,items,_,n,xs,rfl,h1,rfl,rfl,hv,hv.len,hq⟩
 ·obtain⟨a,items,rfl,⟨o,h1,h2,n,h3⟩,_,hv⟩:=r
  exact⟨a,items,o,n,xs,rfl,h1,h2,h3,hv,hv.len,hq⟩
 ·obtain⟨a,rfl,ha⟩:=r
  obtain⟨items,n,h1,hv⟩:=I.list ho ha
  exact⟨a,items,_,n,xs,rfl,h1,rfl,rfl,hv,hv.len,hq⟩
section
variable {α β:Type}{R:Heap→List Addr→α→β→Prop}{S:Addr→Prop}{T:Value→Sem β}{s:Shared}{ρ:List Addr}{st:St}{v:V}{x:Value}
theorem At.stuck {t:Sem β}:At C d env sc ns R S t stuck s ρ st:=fun A Q E X _ _ hw _=>hw.elim
theorem At.arg1 {T:List Value→Sem β}{f:V→M α}{vs:List V}{vals:List Value}(hv:VRs C s.heap ρ vs vals)(h:∀ v x,VR C s.heap ρ v x→At C d env sc ns R S (T [x]) (f v) s ρ st):At C d env sc ns R S (T vals) (Mine.arg1 f vs) s ρ st:=by
 rcases vs with _ | ⟨v,_ | ⟨w,l⟩⟩
 ·exact .stuck
 ·obtain⟨x,_,rfl,hx,rfl⟩:=hv;exact h v x hx
 ·exact .stuck
theorem At.arg2 {T:List Value→Sem β}{f:V→V→M α}{vs:List V}{vals:List Value}(hv:VRs C s.heap ρ vs vals)(h:∀ v w x y,VR C s.heap ρ v x→VR C s.heap ρ w y→At C d env sc ns R S (T [x,y]) (f v w) s ρ st):At C d env sc ns R S (T vals) (Mine.arg2 f vs) s ρ st:=by
 rcases vs with _ | ⟨v,_ | ⟨w,_ | ⟨u,l⟩⟩⟩
 ·exact .stuck
 ·exact .stuck
 ·obtain⟨x,_,rfl,hx,y,_,rfl,hy,rfl⟩:=hv;exact h v w x y hx hy
 ·exact .stuck
theorem At.int {f:Int→M α}(hx:VR C s.heap ρ v x)(h:∀ i t,At C d env sc ns R S (T (.int i t)) (f i) s ρ st):At C d env sc ns R S (T x) ((asInt v).bind f) s ρ st:=.of fun A Q E X hA hS hw=>by
 obtain⟨i,rfl,h1⟩:=wpM_asInt.mp (wpM_bind.mp hw.1)
 obtain⟨t,rfl⟩:=hx
 exact (h i t).go hA hS ⟨h1,hw.2⟩
theorem At.str {f:List Nat→M α}(hx:VR C s.heap ρ v x)(h:∀ w t,At C d env sc ns R S (T (.str ⟨w.toArray⟩ t)) (f w) s ρ st):At C d env sc ns R S (T x) ((asStr v).bind f) s ρ st:=.of fun A Q E X hA hS hw=>by
 obtain⟨i,rfl,h1⟩:=wpM_asStr.mp (wpM_bind.mp hw.1)
 obtain⟨t,rfl⟩:=hx
 exact (h i t).go hA hS ⟨h1,hw.2⟩
theorem At.ref {f:Nat→M α}(hx:VR C s.heap ρ v x)(h:∀ i a,ρ[i]?=some a→At C d env sc ns R S (T (.ref a)) (f i) s ρ st):At C d env sc ns R S (T x) ((asRef v).bind f) s ρ st:=.of fun A Q E X hA hS hw=>by
 obtain⟨i,rfl,h1⟩:=wpM_asRef.mp (wpM_bind.mp hw.1)
 obtain⟨a,rfl,ha⟩:=hx
 exact (h i a ha).go hA hS ⟨h1,hw.2⟩
theorem At.list {f:List V→M α}(hx:VR C s.heap ρ v x)(h:∀ a items xs,s.heap.IsList a items→VRs C s.heap ρ xs items.toList→xs.length=items.size→At C d env sc ns R S (T (.ref a)) (f xs) s ρ st):At C d env sc ns R S (T x) ((listOf v).bind f) s ρ st:=.of fun A Q E X hA hS hw=>by
 obtain⟨a,items,o,n,xs,rfl,g1,c1,d1,v1,e1,h1⟩:=list_at hS.inv hx (wpM_bind.mp hw.1)
 exact (h a items xs ⟨o,g1,c1,n,d1⟩ v1 e1).go hA hS ⟨h1,hw.2⟩
theorem At.opt {γ:Type}{o:Option γ}{f:γ→M α}{t:Sem β}(h:∀ a,o=some a→At C d env sc ns R S t (f a) s ρ st):At C d env sc ns R S t ((ofOpt o).bind f) s ρ st:=.of fun A Q E X hA hS hw=>by
 obtain⟨a,h1,h2⟩:=wpM_ofOpt.mp (wpM_bind.mp hw.1)
 exact (h a h1).go hA hS ⟨h2,hw.2⟩
theorem At.ite {c:Prop}[Decidable c]{m:M α}{t:Sem β}(h:c→At C d env sc ns R S t m s ρ st):At C d env sc ns R S t (if c then m else Mine.stuck) s ρ st:=by
 by_cases hc:c
 ·rw[if_pos hc];exact h hc
 ·rw[if_neg hc];exact .stuck
end
theorem concat_any {x y:V}{vx vy:Value}{s:Shared}{ρ:List Addr}{st:St}{A:Around}{Q:Value→Shared→Prop}{E:Value→Shared→Prop}{Q':V→St→Prop}{X:Str→St→Prop}(hI:Inv C s.heap ρ st.obs)(hx:VR C s.heap ρ x vx)(hy:VR C s.heap ρ y vy)(hw:wpM ((listOf x).bind fun a=>(listOf y).bind fun b=>allocL (a++b)) st Q' X)
  (h:∀ (h':Heap) (D:Addr) (items:Array Value) (zs:List V),Q' (.flist zs) st→Grows s.heap h'→s.heap.get? D=none→h'.get? D=some { cls:=.type "list", data:=.seq items 0 }→VRs C s.heap ρ zs items.toList→Q (.ref D) { s with heap:=h' }):wpAny (model C.prog C.w) A (binaryOp .Add vx vy) Q E s:=by
 obtain⟨la,i1,o1,n1,xs,rfl,g1,c1,d1,v1,e1,h1⟩:=list_at hI hx (wpM_bind.mp hw)
 obtain⟨lb,i2,o2,n2,ys,rfl,g2,c2,d2,v2,e2,h2⟩:=list_at hI hy (wpM_bind.mp h1)
 obtain⟨hl,h2⟩:=Rest.ite' h2
 obtain⟨_,dd1,_,sl1⟩:=o1
 obtain⟨_,dd2,_,sl2⟩:=o2
 obtain rfl:=c1;obtain rfl:=d1;obtain rfl:=c2;obtain rfl:=d2
 refine concat_meets ⟨_,g1,rfl⟩ ⟨_,g2,rfl⟩ noFill_list_add seq_list_add PySem.F.slot_list_add PySem.F.entry_list_add (PySem.F.args_list_add_2 _ _) (list_addW la lb i1 i2 n1 n2 dd1 dd2 sl1 sl2 (by rw[← e1,← e2,← lim_line];simpa using hl)) ⟨g1,g2,?_⟩
 exact h _ _ _ _ h2 (Grows.push s.heap _) fresh_none (Heap.get?_push_size _ rfl) (by simpa using v1.append v2)
theorem at_concat {x y:V}{vx vy:Value}{s:Shared}{ρ:List Addr}{st:St}{A:Around}{Q:Value→Shared→Prop}{E:Value→Shared→Prop}{X:Str→St→Prop}(hx:VR C s.heap ρ x vx)(hy:VR C s.heap ρ y vy)(hA:AOk C.aux d A)(hS:State C env sc ns s ρ st)(hw:Rest C env sc ns (VR C) Nil Q E X ((listOf x).bind fun a=>(listOf y).bind fun b=>allocL (a++b)) s ρ st):wpAny (model C.prog C.w) A (binaryOp .Add vx vy) Q E s :=
 concat_any hS.inv hx hy hw.1 fun h' D items zs hq g hD ho hv=>Rest.list (tk:=s.toks) hS ⟨hq,hw.2⟩ g hD ho hv
theorem at_add {x y:V}{vx vy:Value}{s:Shared}{ρ:List Addr}{st:St}(hx:VR C s.heap ρ x vx)(hy:VR C s.heap ρ y vy):At C d env sc ns (VR C) Nil (binaryOp .Add vx vy) (addV x y) s ρ st:=.of fun A Q E X hA hS hw=>by
 cases x <;> first | exact hw.1.elim | skip
 ·obtain⟨j,rfl,h1⟩:=wpM_asInt.mp (wpM_bind.mp hw.1)
  obtain⟨t,rfl⟩:=hx;obtain⟨u,rfl⟩:=hy
  exact P.add_int (h1 _ _ _ ⟨_,rfl⟩ (hS.toks _) (.toks _))
 ·obtain⟨b,rfl,h1⟩:=wpM_asStr.mp (wpM_bind.mp hw.1)
  obtain⟨t,rfl⟩:=hx;obtain⟨u,rfl⟩:=hy
  obtain⟨hl,h2⟩:=Rest.ite' h1
  refine add_str (fun t' tk=>?_) (by rw[str_len,str_len];simpa [lim_line] using hl)
  rw[str_app]
  exact h2 _ _ _ ⟨_,rfl⟩ (hS.toks _) (.toks _)
 ·obtain⟨ys,rfl,h1⟩:=wpM_asTup.mp (wpM_bind.mp hw.1)
  obtain⟨a,i1,rfl,⟨⟨_,dd1,_,sl1⟩,g1,c1,n1,d1⟩,_,v1⟩:=hx
  obtain⟨a',i2,rfl,⟨⟨_,dd2,_,sl2⟩,g2,c2,n2,d2⟩,_,v2⟩:=hy
  obtain⟨hne,h1⟩:=Rest.ite2 h1
  obtain⟨hl,h2⟩:=Rest.ite' h1
  have e1:=v1.len
  have e2:=v2.len
  replace e1:_=i1.size:=e1
  replace e2:_=i2.size:=e2
  rw[Bool.or_eq_true,not_or] at hne
  obtain rfl:=c1;obtain rfl:=d1;obtain rfl:=c2;obtain rfl:=d2
  have em:∀ {l:List V} {z:Array Value},l.length=z.size→¬ l.isEmpty=true→¬ z.isEmpty=true:=fun {l z} e q q'=>by
   rw[Array.isEmpty_iff_size_eq_zero.mp q'] at e
   exact q (List.isEmpty_iff.mpr (List.length_eq_zero_iff.mp e))
  refine concat_meets ⟨_,g1,rfl⟩ ⟨_,g2,rfl⟩ noFill_tuple_add seq_tuple_add PySem.F.slot_tuple_add PySem.F.entry_tuple_add (PySem.F.args_tuple_add_2 _ _) (tuple_addW2 a a' i1 i2 n1 n2 dd1 dd2 sl1 sl2 (em e1 hne.1) (em e2 hne.2) (by rw[← e1,← e2,← List.length_append];exact hl)) ⟨g1,g2,?_⟩
  have g:=Grows.push s.heap { cls:=.type "tuple", data:=.seq (i1++i2) }
  refine h2 _ _ ρ ?_ (hS.grows g s.toks) (Ext.grows (t:=s.toks) g)
  exact⟨_,_,rfl,⟨_,Heap.get?_push_size _ rfl,rfl,_,rfl⟩,hS.free fresh_none,by rw[Array.toList_append];exact (v1.append v2).ext (g.extV ρ)⟩
 all_goals exact at_concat hx hy hA hS hw
theorem at_mulI {x y:V}{vx vy:Value}{s:Shared}{ρ:List Addr}{st:St}(hx:VR C s.heap ρ x vx)(hy:VR C s.heap ρ y vy):At C d env sc ns (VR C) Nil (binaryOp .Mult vx vy) (int2 mulI x y) s ρ st:=.of fun A Q E X hA hS hw=>by
 obtain⟨i,j,rfl,rfl,h⟩:=wpM_int2 hw.1
 obtain⟨t,rfl⟩:=hx;obtain⟨u,rfl⟩:=hy
 obtain⟨hl,h1⟩:=Rest.ite' h
 exact P.mul_int (h1 _ _ _ ⟨_,rfl⟩ (hS.toks _) (.toks _)) (mulOk hl)
theorem VRs.rep {h:Heap}{ρ:List Addr}{vs:List V}{xs:List Value}(r:VRs C h ρ vs xs):∀ n:Nat,VRs C h ρ (repL vs n) (List.replicate n xs).flatten
 | 0=>by unfold repL;simp only[List.replicate_zero,List.flatten_nil,vS0,vS1]
 | n+1=>by
  have:=VRs.rep r n
  unfold repL at this ⊢
  rw[List.replicate_succ,List.replicate_succ,List.flatten_cons,List.flatten_cons]
  exact r.append this
theorem mul_any {xs:List V}{vx:Value}{i:Int}{u:Tok}{s:Shared}{ρ:List Addr}{A:Around}{Q:Value→Shared→Prop}{E:Value→Shared→Prop}(hx:VR C s.heap ρ (.flist xs) vx)(hl:(xs.length*i.toNat≤16777216∧-1000000≤i)∧i≤1000000)
  (h:∀ (h':Heap) (D:Addr) (items:Array Value),Grows s.heap h'→s.heap.get? D=none→h'.get? D=some { cls:=.type "list", data:=.seq items 0 }→VRs C s.heap ρ (repL xs i.toNat) items.toList→Q (.ref D) { s with heap:=h' }):wpAny (model C.prog C.w) A (binaryOp .Mult vx (.int i u)) Q E s:=by
 obtain⟨a,items,n,rfl,ho,_,hv⟩:=hx
 have e:xs.length=items.size:=by have:=hv.len;simpa using this
 have hz:items.size*i.toNat≤16777216:=by rw[← e];exact hl.1.1
 refine wpAny_binaryOp_repeat_ref (T := "list") (U := "int") (by decide) ⟨_,ho,rfl⟩ (fun s'=>typeIs_int s' i u) noFill_list_mul PySem.F.fills_int_mul PySem.F.slot_int_rmul repeat_list PySem.F.slot_int_index.lookup
  (call_meets PySem.F.slot_int_rmul (typeIs_int s i u) PySem.F.entry_int_rmul (PySem.F.args_int_rmul_2 _ _) (int___rmul___int_list i u a items n)
   ⟨ho,rfl,⟨_,ho,rfl⟩,call_meets PySem.F.slot_list_mul ⟨_,ho,rfl⟩ PySem.F.entry_list_mul (PySem.F.args_list_mul_2 _ _)
    (AutoListH.list___mul___list_int_3 a items n i u (by simp[Builtin.List.listFitsIndex];omega) (by omega) (by simp[Builtin.List.listTooLong,sizeLine];omega))
    ⟨ho,?_⟩⟩)
 rw[listMul_foldl_if]
 exact h _ _ _ (Grows.push s.heap _) fresh_none (Heap.get?_push_size _ rfl) (by simpa using hv.rep i.toNat)
theorem at_smul {x:List Nat}{y:V}{vx vy:Value}{s:Shared}{ρ:List Addr}{st:St}(hx:VR C s.heap ρ (.str x) vx)(hy:VR C s.heap ρ y vy):At C d env sc ns (VR C) Nil (binaryOp .Mult vx vy) (mulV (.str x) y) s ρ st:=.of fun A Q E X hA hS hw=>by
 obtain⟨i,rfl,h1⟩:=wpM_asInt.mp (wpM_bind.mp hw.1)
 obtain⟨t,rfl⟩:=hx
 obtain⟨u,rfl⟩:=hy
 obtain⟨⟨hi,hl⟩,h2⟩:=Rest.ite' h1
 have e:(⟨x.toArray⟩:Str).length=x.length:=by show x.toArray.size=_;rw[List.size_toArray]
 rcases hi with rfl | rfl <;> refine SB.mul ⟨by decide,fun _ _=>?_,fun _ _=>?_⟩ fun t' k=>h2 _ _ ρ ⟨t',rfl⟩ (hS.toks _) (.toks _)
 ·rw[e];exact Int.not_lt.mpr (Int.le_trans (Int.ofNat_le.mpr hl) (by decide))
 ·rw[e];exact decide_eq_false (Nat.not_lt_of_le (Nat.le_trans (Nat.mul_le_mul_right _ hl) (by rw[sizeLine_eq];decide)))
 ·rw[e];exact Int.not_lt.mpr (Int.le_trans (Int.ofNat_le.mpr hl) (by decide))
 ·rw[e];exact decide_eq_false (Nat.not_lt_of_le (Nat.le_trans (Nat.mul_le_mul_right _ hl) (by rw[sizeLine_eq];decide)))
theorem at_mul {x y:V}{vx vy:Value}{s:Shared}{ρ:List Addr}{st:St}(hx:VR C s.heap ρ x vx)(hy:VR C s.heap ρ y vy):At C d env sc ns (VR C) Nil (binaryOp .Mult vx vy) (mulV x y) s ρ st:=by
 cases x <;> first | exact at_mulI hx hy | skip
 ·exact at_smul hx hy
 ·refine .of fun A Q E X hA hS hw=>?_
  obtain⟨i,rfl,h1⟩:=wpM_asInt.mp (wpM_bind.mp hw.1)
  obtain⟨u,rfl⟩:=hy
  obtain⟨hl,h2⟩:=Rest.ite' h1
  exact mul_any hx hl fun h' D items g hD ho hv=>Rest.list (tk:=s.toks) hS ⟨h2,hw.2⟩ g hD ho hv
theorem at_bin {op:Operator}{x y:V}{vx vy:Value}{s:Shared}{ρ:List Addr}{st:St}(hx:VR C s.heap ρ x vx)(hy:VR C s.heap ρ y vy):At C d env sc ns (VR C) Nil (binaryOp op vx vy) (binV op x y) s ρ st:=by
 cases op
 case Add=>exact at_add hx hy
 case Mult=>exact at_mul hx hy
 case Sub =>
  refine .of fun A Q E X hA hS hw=>?_
  obtain⟨i,j,rfl,rfl,h⟩:=wpM_int2 hw.1
  obtain⟨t,rfl⟩:=hx;obtain⟨u,rfl⟩:=hy
  exact P.sub_int (h _ _ _ ⟨_,rfl⟩ (hS.toks _) (.toks _))
 case Mod =>
  refine .of fun A Q E X hA hS hw=>?_
  obtain⟨i,j,rfl,rfl,h⟩:=wpM_int2 hw.1
  obtain⟨t,rfl⟩:=hx;obtain⟨u,rfl⟩:=hy
  obtain⟨hb,h1⟩:=Rest.ite2 h
  exact mod_int' hb (h1 _ _ _ ⟨_,rfl⟩ (hS.toks _) (.toks _))
 case FloorDiv =>
  refine .of fun A Q E X hA hS hw=>?_
  obtain⟨i,j,rfl,rfl,h⟩:=wpM_int2 hw.1
  obtain⟨t,rfl⟩:=hx;obtain⟨u,rfl⟩:=hy
  obtain⟨hb,h1⟩:=Rest.ite2 h
  rw[not_or] at hb
  exact floordiv_int hb.1 (h1 _ _ _ ⟨_,rfl⟩ (hS.toks _) (.toks _)) (.inl (PyProof.noPylong_small (Nat.lt_of_not_le hb.2)))
 case Pow =>
  refine .of fun A Q E X hA hS hw=>?_
  obtain⟨i,j,rfl,rfl,h⟩:=wpM_int2 hw.1
  obtain⟨t,rfl⟩:=hx;obtain⟨u,rfl⟩:=hy
  obtain⟨⟨rfl,rfl⟩,h1⟩:=Rest.ite' h
  exact PySem.AutoIntOps.pow_4 (by decide) (by decide) (by decide) (by decide) (by decide +kernel) (h1 _ _ _ ⟨_,rfl⟩ (hS.toks _) (.toks _))
 all_goals exact .of fun A Q E X hA hS hw=>hw.1.elim
mutual
theorem datV_reads {h:Heap}{ρ:List Addr}{obs:List Ob}{f:V→Option PyData}(hf:∀ a x dd,f (.ref a)=some dd→VR C h ρ (.ref a) x→∃ as,Reads h x dd as):∀ {v:V} {x:Value} {dd:PyData},datV obs f v=some dd→VR C h ρ v x→∃ as,Reads h x dd as
 | .none,x,dd,e,r=>by obtain rfl:=Option.some.inj e;cases r;exact⟨_,.none⟩
 | .bool b,x,dd,e,r=>by obtain rfl:=Option.some.inj e;cases r;exact⟨_,.bool _⟩
 | .int i,x,dd,e,r=>by obtain rfl:=Option.some.inj e;obtain⟨t,rfl⟩:=r;exact⟨_,.int _ _⟩
 | .str s,x,dd,e,r=>by obtain rfl:=Option.some.inj e;obtain⟨t,rfl⟩:=r;exact⟨_,.str _ _⟩
 | .tuple vs,x,dd,e,r=>by
  obtain⟨l,e1,rfl⟩:=Option.map_eq_some_iff.mp e
  obtain⟨a,items,rfl,⟨o,ho,hc,n,hd⟩,_,hr⟩:=r
  obtain⟨as,hq⟩:=datVs_reads hf e1 hr
  exact⟨_,.tuple ho hc hd hq⟩
 | .ref a,x,dd,e,r=>by exact hf a x dd e r
 | .flist vs,x,dd,e,r=>by
  obtain⟨l,e1,rfl⟩:=Option.map_eq_some_iff.mp e
  obtain⟨a,items,n,rfl,ho,_,hr⟩:=r
  obtain⟨as,hq⟩:=datVs_reads hf e1 hr
  exact⟨_,.list ho rfl rfl hq⟩
 | .alist _,_,_,e,_=>by cases e
 | .fdict _ _,_,_,e,_=>by cases e
 | .finst _ _ _,_,_,e,_=>by cases e
 | .range _ _,_,_,e,_=>by cases e
 | .set _,_,_,e,_=>by cases e
 | .exc _,_,_,e,_=>by cases e
 | .own _,_,_,e,_=>by cases e
 | .type _,_,_,e,_=>by cases e
theorem datVs_reads {h:Heap}{ρ:List Addr}{obs:List Ob}{f:V→Option PyData}(hf:∀ a x dd,f (.ref a)=some dd→VR C h ρ (.ref a) x→∃ as,Reads h x dd as):∀ {vs:List V} {xs:List Value} {ds:List PyData},datVs obs f vs=some ds→VRs C h ρ vs xs→∃ as,ReadsAll h xs ds as
 | [],xs,ds,e,r=>by obtain rfl:=Option.some.inj e;cases r;exact⟨_,.nil⟩
 | v::vs,l,ds,e,r=>by
  obtain⟨x,xs,rfl,r1,r2⟩:=r
  simp only[dT0,dT1] at e
  split at e
  ·rename_i dd l' e1 e2
   obtain rfl:=Option.some.inj e
   obtain⟨as,q1⟩:=datV_reads hf e1 r1
   obtain⟨bs,q2⟩:=datVs_reads hf e2 r2
   exact⟨_,.cons q1 q2⟩
  ·cases e
end
theorem datR_reads {h:Heap}{ρ:List Addr}{obs:List Ob}(I:Inv C h ρ obs):∀ (n:Nat) (a:Nat) (x:Value) (dd:PyData),datR obs n (.ref a)=some dd→VR C h ρ (.ref a) x→∃ as,Reads h x dd as
 | 0,_,_,_,e,_=>by cases e
 | n+1,a,x,dd,e,r=>by
  replace e:(match obs[a]? with
   | some (.list xs)=>(datVs obs (datR obs n) xs).map .list
   | _=>none)=some dd:=e
  split at e
  ·rename_i xs hxs
   simp only[Option.map_eq_some_iff] at e
   obtain⟨l,e1,rfl⟩:=e
   obtain⟨ad,rfl,ha⟩:=r
   obtain⟨items,k,ho,hv⟩:=I.list hxs ha
   obtain⟨as,q⟩:=datVs_reads (fun a x dd=>datR_reads I n a x dd) e1 hv
   exact⟨_,.list ho rfl rfl q⟩
  ·cases e
theorem dat_reads {h:Heap}{ρ:List Addr}{obs:List Ob}(I:Inv C h ρ obs){v:V}{x:Value}{dd:PyData}(e:dat obs v=some dd)(r:VR C h ρ v x):∃ as,Reads h x dd as :=
 datV_reads (fun a x dd=>datR_reads I 8 a x dd) e r
theorem eqO_some {obs:List Ob}{a b:V}{r:Bool}(h:eqO obs a b=some r):∃ x y,dat obs a=some x∧dat obs b=some y∧SeqAt.shaped x=true∧SeqAt.shaped y=true∧r=PyData.eqv x y:=by
 unfold eqO at h
 split at h
 ·rename_i x y h1 h2
  split at h
  ·rename_i h3
   rw[Bool.and_eq_true] at h3
   obtain rfl:=Option.some.inj h
   exact⟨x,y,h1,h2,h3.1,h3.2,rfl⟩
  ·cases h
 ·cases h
theorem AOk.room {A:Around}(hA:AOk C.aux d A):A.units+64<cLine:=hA.lt
theorem VR.notNone {h:Heap}{ρ:List Addr}{v:V}{x:Value}(r:VR C h ρ v x)(hv:v≠.none):x≠.none:=by
 have ref:∀ {a:Addr},Value.ref a≠.none:=fun q=>(nomatch q)
 cases v with
 | none=>exact absurd rfl hv
 | bool b=>obtain rfl:=r;exact fun q=>(nomatch q)
 | int i=>obtain⟨t,rfl⟩:=r;exact fun q=>(nomatch q)
 | str i=>obtain⟨t,rfl⟩:=r;exact fun q=>(nomatch q)
 | tuple vs=>obtain⟨a,i,rfl,_⟩:=r;exact ref
 | range lo hi=>obtain⟨a,t,u,k,rfl,_⟩:=r;exact ref
 | set ns=>obtain⟨a,rfl,_⟩:=r;exact ref
 | flist vs=>obtain⟨a,i,n,rfl,_⟩:=r;exact ref
 | alist vs=>obtain⟨a,i,rfl,_⟩:=r;exact ref
 | finst c ns vs=>obtain⟨a,da,en,rfl,_⟩:=r;exact ref
 | fdict ks vs=>obtain⟨a,kv,rfl,_⟩:=r;exact ref
 | exc c=>obtain⟨a,o,rfl,_⟩:=r;exact ref
 | ref i=>obtain⟨a,rfl,_⟩:=r;exact ref
 | own c=>obtain⟨a,rfl,_⟩:=r;exact ref
 | type t=>obtain rfl:=r;exact fun q=>(nomatch q)
theorem isNone_inv {v:V}{st:St}{Q:Bool→St→Prop}{X:Str→St→Prop}(h:wpM (isNoneM v) st Q X):(v=.none∧Q true st)∨(v≠.none∧Q false st):=by
 cases v <;> first | exact h.elim | exact .inl ⟨rfl,h⟩ | exact .inr ⟨by simp,h⟩
theorem at_is {x y:V}{vx vy:Value}{s:Shared}{ρ:List Addr}{st:St}(hx:VR C s.heap ρ x vx)(hy:VR C s.heap ρ y vy):At C d env sc ns RB Nil (compareOp .Is vx vy) (isV x y) s ρ st:=.of fun A Q E X hA hS hw=>by
 cases y <;> first | exact hw.1.elim | skip
 ·obtain rfl:=hy
  rcases isNone_inv (show wpM (isNoneM x) st _ X from hw.1) with ⟨rfl,h⟩ | ⟨hn,h⟩
  ·obtain rfl:=hx
   exact wpAny_is_self rfl (h _ _ _ rfl hS (.refl ..))
  ·exact is_none_ne (hx.notNone hn) (h _ _ _ rfl hS (.refl ..))
 ·obtain⟨b,rfl,h⟩:=wpM_asBool.mp (wpM_bind.mp hw.1)
  obtain rfl:=hx;obtain rfl:=hy
  exact wpAny_is_plain rfl (h _ _ _ (by simp[RB,BEq.beq]) hS (.refl ..))
theorem at_isnot {x y:V}{vx vy:Value}{s:Shared}{ρ:List Addr}{st:St}(hx:VR C s.heap ρ x vx)(hy:VR C s.heap ρ y vy):At C d env sc ns RB Nil (compareOp .IsNot vx vy) ((isV x y).bind fun r=>M.pure !r) s ρ st:=.of fun A Q E X hA hS hw=>by
 have h0:=wpM_bind.mp hw.1
 cases y <;> first | exact h0.elim | skip
 ·obtain rfl:=hy
  rcases isNone_inv (show wpM (isNoneM x) st _ X from h0) with ⟨rfl,h⟩ | ⟨hn,h⟩
  ·obtain rfl:=hx
   exact wpAny_isNot_self rfl (h _ _ _ rfl hS (.refl ..))
  ·exact isnot_none_ne (hx.notNone hn) (h _ _ _ rfl hS (.refl ..))
 ·obtain⟨b,rfl,h⟩:=wpM_asBool.mp (wpM_bind.mp h0)
  obtain rfl:=hx;obtain rfl:=hy
  exact wpAny_isNot_plain rfl (h _ _ _ (by simp[RB,BEq.beq]) hS (.refl ..))
theorem datL_some {obs:List Ob}{a:V}{xs:List V}{p:PyData×List PyData}(h:datL obs a xs=some p):dat obs a=some p.1∧datVs obs (datR obs 8) xs=some p.2∧SeqAt.shaped p.1=true∧PyData.canLayAll0 p.2=true:=by
 unfold datL at h
 split at h
 ·rename_i x y h1 h2
  split at h
  ·rename_i h3
   rw[Bool.and_eq_true] at h3
   obtain rfl:=Option.some.inj h
   exact⟨h1,h2,h3.1,h3.2⟩
  ·cases h
 ·cases h
theorem AOk.room2 {A:Around}(hA:AOk C.aux d A){x:PyData}{ds:List PyData}(h:SeqAt.shaped x=true):A.units+1+min (PyData.depthAll ds) x.depth<cLine:=by
 have h1:=SeqAt.depth_of_shaped h
 have h2:min (PyData.depthAll ds) x.depth≤x.depth:=Nat.min_le_right _ _
 exact Nat.lt_of_le_of_lt (Nat.add_le_add_left (Nat.le_trans h2 h1) _) (hA.lt (j:=65))
noncomputable def InOk (C:Cx)(A:Around)(vx vy:Value)(s:Shared)(b:Bool):Prop:=∃ tk,∀ (E:Value→Shared→Prop),(∀ Q:Value→Shared→Prop,Q (.bool b) { s with toks:=tk }→wpAny (model C.prog C.w) A (compareOp .In vx vy) Q E s)∧(∀ Q:Value→Shared→Prop,Q (.bool !b) { s with toks:=tk }→wpAny (model C.prog C.w) A (compareOp .NotIn vx vy) Q E s)
theorem in_list {x:V}{vx:Value}{xs:List V}{s:Shared}{ρ:List Addr}{st:St}{A:Around}{QQ:Bool→St→Prop}{X:Str→St→Prop}{a:Addr}{items:Array Value}{o:Obj}{n:Nat}{T:String}(hT:T = "list" ∨ T = "tuple") (hx:VR C s.heap ρ x vx) (hA:AOk C.aux d A) (hS:State C env sc ns s ρ st) (hv:VRs C s.heap ρ xs items.toList)
  (ho:s.heap.get? a=some o) (hc:o.cls=.type T) (hd:o.data=.seq items n) (h:wpM (inL x xs) st QQ X):∃ b,QQ b st∧InOk C A vx (.ref a) s b:=by
 obtain⟨b,h1,h2⟩:=wpM_withObs.mp h
 obtain⟨p,h3,rfl⟩:=Option.map_eq_some_iff.mp h1
 obtain⟨q1,q2,q3,q4⟩:=datL_some h3
 obtain⟨bs,rx⟩:=dat_reads hS.inv q1 hx
 obtain⟨as,rs⟩:=datVs_reads (fun a x dd=>datR_reads hS.inv 8 a x dd) q2 hv
 refine⟨_,h2,s.toks,fun E=>?_⟩
 rcases hT with rfl | rfl
 ·exact⟨fun Q hq=>SeqAt.in_list_reads (.list ho hc hd rs) rx q4 (SeqAt.canLay_of_shaped q3) (hA.room2 q3) hq,fun Q hq=>SeqAt.notIn_list_reads (.list ho hc hd rs) rx q4 (SeqAt.canLay_of_shaped q3) (hA.room2 q3) hq⟩
 ·exact⟨fun Q hq=>SeqAt.in_tuple_reads (.tuple ho hc hd rs) rx q4 (SeqAt.canLay_of_shaped q3) (hA.room2 q3) hq,fun Q hq=>SeqAt.notIn_tuple_reads (.tuple ho hc hd rs) rx q4 (SeqAt.canLay_of_shaped q3) (hA.room2 q3) hq⟩
noncomputable def LookR (C:Cx)(h:Heap)(ρ:List Addr):Option V→Option Value→Prop
 | some v,o=>∃ x,o=some x∧VR C h ρ v x
 | none,o=>o=none
theorem mkS_inj (a b:List Nat)(h:mkS a=mkS b):a=b:=congrArg (fun s:Str=>s.cps.toList) h
theorem DR.cons {h:Heap}{ρ:List Addr}{p:List Nat×V}{es:Es}{kvs:List (Str×Value)}(r:DR C h ρ (p::es) kvs):∃ x kvs',kvs=(mkS p.1,x)::kvs'∧VR C h ρ p.2 x∧DR C h ρ es kvs':=by
 cases kvs with
 | nil=>exact (nomatch r.1)
 | cons q kvs =>
  obtain⟨k,x⟩:=q
  obtain⟨r1,_,_,e,r3,r4⟩:=r
  cases e
  have r1:=List.cons.inj r1
  exact⟨x,kvs,congrArg (fun k=>(k,x)::kvs) r1.1,r3,r1.2,r4⟩
theorem DR.mk {h:Heap}{ρ:List Addr}{k:List Nat}{v:V}{x:Value}{es:Es}{kvs:List (Str×Value)}(hv:VR C h ρ v x)(r:DR C h ρ es kvs):DR C h ρ ((k,v)::es) ((mkS k,x)::kvs):=⟨congrArg (mkS k::·) r.1,x,_,rfl,hv,r.2⟩
theorem DR.nil {h:Heap}{ρ:List Addr}{kvs:List (Str×Value)}(r:DR C h ρ [] kvs):kvs=[]:=List.map_eq_nil_iff.mp r.1
theorem DR.len {h:Heap}{ρ:List Addr}{es:Es}{kvs:List (Str×Value)}(r:DR C h ρ es kvs):kvs.length=es.length:=by
 have:=congrArg List.length r.1
 rwa [List.length_map,List.length_map] at this
theorem key_eq {k k':List Nat}:decide (mkS k'=mkS k)=decide (k'=k):=decide_eq_decide.mpr ⟨mkS_inj _ _,fun q=>q▸rfl⟩
theorem lookD_ok {h:Heap}{ρ:List Addr}{k:List Nat}:∀ {es:Es} {kvs:List (Str×Value)},DR C h ρ es kvs→LookR C h ρ (lookD es k) (valueAt kvs (mkS k))
 | [],kvs,r=>by cases r.nil;rfl
 | (k',v)::es,kvs,r=>by
  obtain⟨x,kvs,rfl,r3,r4⟩:=r.cons
  have ih:=lookD_ok (k:=k) r4
  unfold lookD valueAt at ih ⊢
  rw[List.find?_cons,List.find?_cons,key_eq]
  cases decide (k'=k) with
  | true=>exact⟨x,rfl,r3⟩
  | false=>exact ih
theorem any_key {h:Heap}{ρ:List Addr}{k:List Nat}:∀ {es:Es} {kvs:List (Str×Value)},DR C h ρ es kvs→kvs.any (fun kv=>decide (kv.1=mkS k))=es.any (fun p=>decide (p.1=k))
 | [],kvs,r=>by cases r.nil;rfl
 | (k',v)::es,kvs,r=>by
  obtain⟨x,kvs,rfl,r3,r4⟩:=r.cons
  rw[List.any_cons,List.any_cons,key_eq,any_key r4]
theorem DR.app {h:Heap}{ρ:List Addr}{k:List Nat}{v:V}{x:Value}(hv:VR C h ρ v x):∀ {es:Es} {kvs:List (Str×Value)},DR C h ρ es kvs→DR C h ρ (es++[(k,v)]) (kvs++[(mkS k,x)])
 | [],kvs,r=>by cases r.nil;exact .mk hv ⟨rfl,rfl⟩
 | p::es,kvs,r=>by
  obtain⟨y,kvs,rfl,r3,r4⟩:=r.cons
  exact .mk r3 (DR.app hv r4)
theorem DR.put {h:Heap}{ρ:List Addr}{k:List Nat}{v:V}{x:Value}(hv:VR C h ρ v x):∀ {es:Es} {kvs:List (Str×Value)},DR C h ρ es kvs→DR C h ρ (es.map fun p=>if p.1=k then (p.1,v) else p) (kvs.map fun kv=>if kv.1=mkS k then (kv.1,x) else kv)
 | [],kvs,r=>by cases r.nil;exact r
 | (k',w)::es,kvs,r=>by
  obtain⟨y,kvs,rfl,r3,r4⟩:=r.cons
  have ih:=DR.put (k:=k) hv r4
  rw[List.map_cons,List.map_cons]
  by_cases q:k'=k
  ·subst q
   rw[if_pos rfl,if_pos rfl]
   exact .mk hv ih
  ·rw[if_neg q,if_neg fun z=>q (mkS_inj _ _ z)]
   exact .mk r3 ih
theorem putD_ok {h:Heap}{ρ:List Addr}{k:List Nat}{v:V}{x:Value}(hv:VR C h ρ v x){es:Es}{kvs:List (Str×Value)}(r:DR C h ρ es kvs):DR C h ρ (putD es k v) (stored kvs (mkS k) x):=by
 unfold putD stored
 rw[any_key r]
 split
 ·exact r.put hv
 ·exact r.app hv
theorem isKey (k:List Nat)(t:Tok):(PySem.strKind C.prog C.w).is (mkS k) (.str ⟨k.toArray⟩ t)=true:=beq_self_eq_true _
theorem dict_of {h:Heap}{ρ:List Addr}{obs:List Ob}(I:Inv C h ρ obs){v:V}{x:Value}{es:Es}(e:dictV obs v=some es)(r:VR C h ρ v x):∃ a kvs,x=.ref a∧(a==sysModules)=false∧h.DictOf (PySem.strKind C.prog C.w) a kvs∧DR C h ρ es kvs:=by
 cases v <;> first | cases e | skip
 ·rename_i ks vs
  obtain⟨a,kvs,rfl,h1,h2,h3,h4⟩:=r
  have hl:ks.length=vs.length:=by
   have q1:=congrArg List.length h3
   have q2:=h4.len
   rw[List.length_map] at q1 q2
   rw[List.length_map] at q1
   rw[q2,q1]
  refine⟨a,kvs,rfl,I.notSys h2.2,h1,?_,?_⟩
  ·rw[h3,show (ks.zip vs).map (fun p=>mkS p.1)=((ks.zip vs).map (·.1)).map mkS from (List.map_map (g:=mkS) (f:=fun p:List Nat×V=>p.1)).symm,List.map_fst_zip (Nat.le_of_eq hl)]
  ·rw[List.map_snd_zip (Nat.le_of_eq hl.symm)];exact h4
 ·rename_i i
  obtain⟨a,rfl,ha⟩:=r
  replace e:(match obs[i]? with
   | some (.sdict _ es)=>some es
   | _=>none)=some es:=e
  split at e
  ·rename_i ho
   obtain rfl:=Option.some.inj e
   obtain⟨kvs,h1,h2⟩:=I.at ha ho
   exact⟨a,kvs,rfl,I.notSys (I.new a (List.mem_of_getElem? ha)).1,h1.of,h2⟩
  ·cases e
theorem AOk.unit {A:Around}(hA:AOk C.aux d A):A.units<cLine:=Nat.lt_of_le_of_lt (Nat.le_add_right _ 64) (AOk.room hA)
theorem at_eq {x y:V}{vx vy:Value}{s:Shared}{ρ:List Addr}{st:St}(hx:VR C s.heap ρ x vx)(hy:VR C s.heap ρ y vy):At C d env sc ns RB Nil (compareOp .Eq vx vy) (pyEq x y) s ρ st:=.of fun A Q E X hA hS hw=>by
 obtain⟨r,h1,h2⟩:=wpM_withObs.mp hw.1
 cases q:eqO st.obs x y with
 | none=>rw[q] at h1;cases h1
 | some b =>
  rw[q] at h1
  cases h1
  obtain⟨a,b,q1,q2,q3,q4,rfl⟩:=eqO_some q
  obtain⟨as,r1⟩:=dat_reads hS.inv q1 hx
  obtain⟨bs,r2⟩:=dat_reads hS.inv q2 hy
  exact eq_dataH r1 r2 q3 q4 hA.room (h2 _ _ _ rfl hS (.refl ..))
theorem at_ne {x y:V}{vx vy:Value}{s:Shared}{ρ:List Addr}{st:St}(hx:VR C s.heap ρ x vx)(hy:VR C s.heap ρ y vy):At C d env sc ns RB Nil (compareOp .NotEq vx vy) ((pyEq x y).bind fun r=>M.pure !r) s ρ st:=.of fun A Q E X hA hS hw=>by
 obtain⟨r,h1,h2⟩:=wpM_withObs.mp (wpM_bind.mp hw.1)
 cases q:eqO st.obs x y with
 | none=>rw[q] at h1;cases h1
 | some b =>
  rw[q] at h1
  cases h1
  obtain⟨a,b,q1,q2,q3,q4,rfl⟩:=eqO_some q
  obtain⟨as,r1⟩:=dat_reads hS.inv q1 hx
  obtain⟨bs,r2⟩:=dat_reads hS.inv q2 hy
  exact ne_dataH r1 r2 q3 q4 hA.room (h2 _ _ _ rfl hS (.refl ..))
theorem in_all {x y:V}{vx vy:Value}{s:Shared}{ρ:List Addr}{st:St}{A:Around}{QQ:Bool→St→Prop}{X:Str→St→Prop}(hx:VR C s.heap ρ x vx)(hy:VR C s.heap ρ y vy)(hA:AOk C.aux d A)(hS:State C env sc ns s ρ st)(h:wpM (inV x y) st QQ X):∃ b,QQ b st∧InOk C A vx vy s b:=by
 unfold inV at h
 split at h
 ·obtain⟨a,rfl,h1⟩:=wpM_asStr.mp (wpM_bind.mp h)
  obtain⟨t,rfl⟩:=hx;obtain⟨u,rfl⟩:=hy
  refine⟨_,h1,s.toks,fun E=>⟨fun Q hq=>P.in_str ?_,fun Q hq=>P.notIn_str ?_⟩⟩
  ·simpa only [occ,str_len] using hq
  ·simpa only [occ,str_len] using hq
 ·obtain⟨a,items,n,rfl,ho,_,hv⟩:=hy
  exact in_list (.inl rfl) hx hA hS hv ho rfl rfl h
 ·obtain⟨a,items,rfl,⟨o,ho,hc,n,hd⟩,_,hv⟩:=hy
  exact in_list (.inr rfl) hx hA hS hv ho hc hd h
 ·rename_i r
  obtain⟨a,rfl,ha⟩:=hy
  obtain⟨o,ho,h1⟩:=wpM_getOb.mp (wpM_bind.mp h)
  unfold inO at h1
  split at h1
  ·rename_i xs
   obtain⟨items,n,hl,hv⟩:=hS.inv.list ho ha
   exact in_list (.inl rfl) hx hA hS hv hl rfl rfl h1
  ·rename_i j es
   obtain⟨k,rfl,h3⟩:=wpM_asStr.mp (wpM_bind.mp h1)
   obtain⟨kvs,q1,q2⟩:=hS.inv.at ha ho
   obtain⟨t,rfl⟩:=hx
   have hd:=hS.inv.notSys (hS.inv.new a (List.mem_of_getElem? ha)).1
   have hl:=lookD_ok (k:=k) q2
   have e:(valueAt kvs (mkS k)).isSome=(lookD es k).isSome:=by
    cases r':lookD es k with
    | none=>rw[r'] at hl;rw[show valueAt kvs (mkS k)=none from hl];rfl
    | some v=>rw[r'] at hl;obtain⟨z,q4,_⟩:=hl;rw[q4];rfl
   exact⟨_,h3,s.toks+1,fun E=>⟨fun Q hq=>wpAny_in_of (isKey k t) hd q1.of.mapOf (by rw[e];exact hq),fun Q hq=>wpAny_notIn_of (isKey k t) hd q1.of.mapOf (by rw[e];exact hq)⟩⟩
  ·exact h1.elim
 ·exact h.elim
theorem cmp_snd:CmpSnd C d env sc ns:=by
 intro op x y vx vy s ρ st hx hy
 cases op
 case Eq=>exact at_eq hx hy
 case NotEq=>exact at_ne hx hy
 case Is=>exact at_is hx hy
 case IsNot=>exact at_isnot hx hy
 case In =>
  refine .of fun A Q E X hA hS hw=>?_
  obtain⟨b,h1,tk,h2⟩:=in_all hx hy hA hS (show wpM (inV x y) st _ X from hw.1)
  exact (h2 E).1 Q (h1 _ _ _ rfl (hS.toks _) (.toks _))
 case NotIn =>
  refine .of fun A Q E X hA hS hw=>?_
  obtain⟨b,h1,tk,h2⟩:=in_all hx hy hA hS (show wpM (inV x y) st _ X from wpM_bind.mp hw.1)
  exact (h2 E).2 Q (h1 _ _ _ rfl (hS.toks _) (.toks _))
 case Lt =>
  refine .of fun A Q E X hA hS hw=>?_
  obtain⟨i,j,rfl,rfl,h⟩:=wpM_int2 (f:=fun a b=>M.pure (decide (a<b))) hw.1
  obtain⟨t,rfl⟩:=hx;obtain⟨u,rfl⟩:=hy
  exact P.lt_int (h _ _ _ rfl hS (.refl ..))
 case LtE =>
  refine .of fun A Q E X hA hS hw=>?_
  obtain⟨i,j,rfl,rfl,h⟩:=wpM_int2 (f:=fun a b=>M.pure (decide (a≤b))) hw.1
  obtain⟨t,rfl⟩:=hx;obtain⟨u,rfl⟩:=hy
  exact P.le_int (h _ _ _ rfl hS (.refl ..))
 case Gt =>
  refine .of fun A Q E X hA hS hw=>?_
  obtain⟨i,j,rfl,rfl,h⟩:=wpM_int2 (f:=fun a b=>M.pure (decide (a > b))) hw.1
  obtain⟨t,rfl⟩:=hx;obtain⟨u,rfl⟩:=hy
  exact P.gt_int (h _ _ _ rfl hS (.refl ..))
 case GtE =>
  refine .of fun A Q E X hA hS hw=>?_
  obtain⟨i,j,rfl,rfl,h⟩:=wpM_int2 (f:=fun a b=>M.pure (decide (a ≥ b))) hw.1
  obtain⟨t,rfl⟩:=hx;obtain⟨u,rfl⟩:=hy
  exact P.ge_int (h _ _ _ rfl hS (.refl ..))
end
end Mine
namespace Mine
set_option backward.match.sparseCases false
open PySem PyProof.Rows
section
variable {C:Cx}{d:Nat}{env:Env}{sc:Scope}{ns:List Str}
theorem Rest.ite {α β:Type}{R:Heap→List Addr→α→β→Prop}{S:Addr→Prop}{Q:β→Shared→Prop}{E:Value→Shared→Prop}{X:Str→St→Prop}{c:Prop}[Decidable c]{m:M α}{s:Shared}{ρ:List Addr}{st:St}(h:Rest C env sc ns R S Q E X (if c then m else stuck) s ρ st):c∧Rest C env sc ns R S Q E X m s ρ st:=by
 by_cases hc:c
 ·rw[if_pos hc] at h;exact⟨hc,h⟩
 ·rw[if_neg hc] at h;exact h.1.elim
theorem Rest.tuple {S:Addr→Prop}{s:Shared}{ρ:List Addr}{st:St}{Q:Value→Shared→Prop}{E:Value→Shared→Prop}{X:Str→St→Prop}{xs:List V}{items:Array Value}{n:Nat}{h':Heap}{tk:Nat}{D:Addr}(hS:State C env sc ns s ρ st)(hr:Rest C env sc ns (VR C) S Q E X (M.pure (.tuple xs)) s ρ st)
  (g:Grows s.heap h') (hD:s.heap.get? D=none) (ho:h'.get? D=some { cls:=.type "tuple", data:=.seq items n }) (hv:VRs C s.heap ρ xs items.toList):Q (.ref D) { s with heap:=h',toks:=tk }:=by
 refine hr.1 _ _ ρ ?_ (hS.grows g tk) (Ext.grows g)
 exact⟨D,items,rfl,⟨_,ho,rfl,n,rfl⟩,hS.free hD,hv.ext (g.extV ρ)⟩
theorem snd_list {es:List Expr}{pos:Pos}{ms:List (M V)}(ha:All2 (ArgR C d env sc ns) es ms):SndF C d env sc ns (eval (.List es pos) env) (listM ms):=fun A s ρ st Q E X hA hS hw hX=>by
 refine wpAny_List ((snd_args ha) A s ρ st _ E X hA hS (wpM_mono (wpM_bind.mp hw) (fun vs st₁ h₁ vals s₁ ρ₁ r₁ S₁ e₁=>?_) fun _ _ q=>q) hX)
 obtain⟨hl,hq⟩:=Rest.ite' h₁
 exact⟨by rw[← r₁.len];exact hl,hq vs _ _ ρ₁ rfl ((S₁.fresh (tk:=s₁.toks) (Grows.push s₁.heap _) fresh_none (Heap.get?_push_size _ rfl) (by simpa using r₁)).from e₁)⟩
theorem snd_tuple {es:List Expr}{k:Nat}{pos:Pos}{ms:List (M V)}(ha:All2 (ArgR C d env sc ns) es ms):SndE C d env sc ns (.Tuple es k pos) (tupM ms):=.of fun A s ρ st Q E X hA hS hw=>by
 refine wpAny_Tuple ((snd_args ha).then hA hS hw fun vs vals s₁ ρ₁ st₁ r₁ S₁ e₁ hw₁=>?_)
 obtain⟨hl,hw₂⟩:=Rest.ite hw₁
 exact⟨by rw[← r₁.len];exact hl,Rest.tuple (tk:=s₁.toks) S₁ hw₂ (Grows.push s₁.heap _) fresh_none (Heap.get?_push_size _ rfl) (by simpa using r₁)⟩
theorem len_ok {n:Nat}(h:n≤lim):(n:Int)<2 ^ 63:=by
 exact Int.lt_of_le_of_lt (Int.ofNat_le.mpr h) (by decide)
theorem at_len {vs:List V}{vals:List Value}{s:Shared}{ρ:List Addr}{st:St}(hv:VRs C s.heap ρ vs vals):At C d env sc ns (VR C) Nil (call (.builtin "len") vals) (fLen vs) s ρ st:=.arg1 (f:=lenV) (T:=fun vs=>call (.builtin "len") vs) hv fun v x hx=>by
 have lst:∀ {v:V},VR C s.heap ρ v x→At C d env sc ns (VR C) Nil (call (.builtin "len") [x]) ((listOf v).bind fun xs=>lenM xs.length) s ρ st:=fun hx=>.list (T:=fun x=>call (.builtin "len") [x]) hx fun a items xs hl hv e=>.ite fun hle=>.of fun A Q E X hA hS hw=>Calls.call_len_list hl (by rw[← e];exact len_ok hle) (by rw[← e];exact hw.1 _ _ _ ⟨_,rfl⟩ (hS.toks _) (.toks _))
 cases v with
 | str w =>
  exact .ite fun hl=>.of fun A Q E X hA hS hw=>by
   obtain⟨t,rfl⟩:=hx
   exact P.len_str (by rw[str_len];exact Int.not_le.mpr (len_ok hl)) (by rw[str_len];exact hw.1 _ _ _ ⟨_,rfl⟩ (hS.toks _) (.toks _))
 | tuple vs =>
  exact .ite fun hl=>.of fun A Q E X hA hS hw=>by
   obtain⟨a,items,rfl,ht,_,hx⟩:=hx
   have e:_=items.size:=hx.len
   exact len_tuple ht (by rw[← e];exact len_ok hl) (by rw[← e];exact hw.1 _ _ _ ⟨_,rfl⟩ (hS.toks _) (.toks _))
 | ref r =>
  exact .of fun A Q E X hA hS hw=>by
   obtain⟨a,rfl,ha⟩:=hx
   obtain⟨ob,ho,h1⟩:=wpM_getOb.mp (wpM_bind.mp hw.1)
   have hO:=hS.inv.at ha ho
   cases ob with
   | list xs =>
    obtain⟨items,n,g1,v1⟩:=hO
    have e1:_=items.size:=v1.len
    exact (At.ite fun hl=>.of fun A Q E X hA hS hw=>Calls.call_len_list ⟨_,g1,rfl,n,rfl⟩ (by rw[← e1];exact len_ok hl) (by rw[← e1];exact hw.1 _ _ _ ⟨_,rfl⟩ (hS.toks _) (.toks _))).go hA hS ⟨h1,hw.2⟩
   | sdict j es =>
    obtain⟨kvs,⟨ep,hk,_⟩,r⟩:=hO
    exact (At.ite fun hl=>.of fun A Q E X hA hS hw=>call_len_dict (hS.inv.notSys (hS.inv.new a (List.mem_of_getElem? ha)).1) hk.dictOf (by rw[r.len];exact len_ok hl) (by rw[r.len];exact hw.1 _ _ _ ⟨_,rfl⟩ (hS.toks _) (.toks _))).go hA hS ⟨h1,hw.2⟩
   | _=>exact h1.elim
 | flist xs=>exact lst hx
 | alist xs=>exact lst hx
 | _=>exact .stuck
theorem isi_mem {t:String}(h:isiTypes.contains t=true):t = "int" ∨ t = "str" ∨ t = "bool" ∨ t = "list" ∨ t = "tuple" ∨ t = "dict" := by
 simpa [isiTypes] using h
theorem isi_bool {b:Bool}{prog:Program}{w:World}{A:Around}{Q E:Value→Shared→Prop}{s:Shared}{t:String}(hc:isiTypes.contains t=true)(hq:∀ b,isiK "bool" t=some b→Q (.bool b) s∧Q (.bool b) { s with toks:=s.toks+1 }):wpAny (model prog w) A (call (.builtin "isinstance") [.bool b,.type t]) Q E s:=by
 rcases isi_mem hc with rfl | rfl | rfl | rfl | rfl | rfl
 ·exact IsiPair.bool_int (hq _ rfl).1
 ·exact IsiPair.bool_str (hq _ rfl).2
 ·exact IsiPair.bool_bool (hq _ rfl).1
 ·exact IsiPair.bool_list (hq _ rfl).2
 ·exact IsiPair.bool_tuple (hq _ rfl).2
 ·exact IsiPair.bool_dict (hq _ rfl).2
theorem isi_int {i:Int}{u:Tok}{prog:Program}{w:World}{A:Around}{Q E:Value→Shared→Prop}{s:Shared}{t:String}(hc:isiTypes.contains t=true)(hq:∀ b,isiK "int" t=some b→Q (.bool b) s∧Q (.bool b) { s with toks:=s.toks+1 }):wpAny (model prog w) A (call (.builtin "isinstance") [.int i u,.type t]) Q E s:=by
 rcases isi_mem hc with rfl | rfl | rfl | rfl | rfl | rfl
 ·exact IsiPair.int_int (hq _ rfl).1
 ·exact IsiPair.int_str (hq _ rfl).2
 ·exact IsiPair.int_bool (hq _ rfl).2
 ·exact IsiPair.int_list (hq _ rfl).2
 ·exact IsiPair.int_tuple (hq _ rfl).2
 ·exact IsiPair.int_dict (hq _ rfl).2
theorem isi_str {x:Str}{u:Tok}{prog:Program}{w:World}{A:Around}{Q E:Value→Shared→Prop}{s:Shared}{t:String}(hc:isiTypes.contains t=true)(hq:∀ b,isiK "str" t=some b→Q (.bool b) s∧Q (.bool b) { s with toks:=s.toks+1 }):wpAny (model prog w) A (call (.builtin "isinstance") [.str x u,.type t]) Q E s:=by
 rcases isi_mem hc with rfl | rfl | rfl | rfl | rfl | rfl
 ·exact IsiPair.str_int (hq _ rfl).2
 ·exact IsiPair.str_str (hq _ rfl).1
 ·exact IsiPair.str_bool (hq _ rfl).2
 ·exact IsiPair.str_list (hq _ rfl).2
 ·exact IsiPair.str_tuple (hq _ rfl).2
 ·exact IsiPair.str_dict (hq _ rfl).2
theorem isi_list {a:Addr}{o:Obj}{prog:Program}{w:World}{A:Around}{Q E:Value→Shared→Prop}{s:Shared}{t:String}(ho:s.heap.get? a=some o)(hcl:o.cls=.type "list") (hc:isiTypes.contains t=true) (hq:∀ b,isiK "list" t=some b→Q (.bool b) s∧Q (.bool b) { s with toks:=s.toks+1 }):wpAny (model prog w) A (call (.builtin "isinstance") [.ref a,.type t]) Q E s:=by
 rcases isi_mem hc with rfl | rfl | rfl | rfl | rfl | rfl
 ·exact IsiPair.list_int ho hcl (hq _ rfl).2
 ·exact IsiPair.list_str ho hcl (hq _ rfl).2
 ·exact IsiPair.list_bool ho hcl (hq _ rfl).2
 ·exact IsiPair.list_list ho hcl (hq _ rfl).1
 ·exact IsiPair.list_tuple ho hcl (hq _ rfl).2
 ·exact IsiPair.list_dict ho hcl (hq _ rfl).2
theorem isi_tup {a:Addr}{o:Obj}{prog:Program}{w:World}{A:Around}{Q E:Value→Shared→Prop}{s:Shared}{t:String}(ho:s.heap.get? a=some o)(hcl:o.cls=.type "tuple") (hc:isiTypes.contains t=true) (hq:∀ b,isiK "tuple" t=some b→Q (.bool b) s∧Q (.bool b) { s with toks:=s.toks+1 }):wpAny (model prog w) A (call (.builtin "isinstance") [.ref a,.type t]) Q E s:=by
 rcases isi_mem hc with rfl | rfl | rfl | rfl | rfl | rfl
 ·exact IsiPair.tuple_int ho hcl (hq _ rfl).2
 ·exact IsiPair.tuple_str ho hcl (hq _ rfl).2
 ·exact IsiPair.tuple_bool ho hcl (hq _ rfl).2
 ·exact IsiPair.tuple_list ho hcl (hq _ rfl).2
 ·exact IsiPair.tuple_tuple ho hcl (hq _ rfl).1
 ·exact IsiPair.tuple_dict ho hcl (hq _ rfl).2
theorem isi_dict {a:Addr}{o:Obj}{prog:Program}{w:World}{A:Around}{Q E:Value→Shared→Prop}{s:Shared}{t:String}(ho:s.heap.get? a=some o)(hcl:o.cls=.type "dict") (hc:isiTypes.contains t=true) (hq:∀ b,isiK "dict" t=some b→Q (.bool b) s∧Q (.bool b) { s with toks:=s.toks+1 }):wpAny (model prog w) A (call (.builtin "isinstance") [.ref a,.type t]) Q E s:=by
 rcases isi_mem hc with rfl | rfl | rfl | rfl | rfl | rfl
 ·exact IsiPair.dict_int ho hcl (hq _ rfl).2
 ·exact IsiPair.dict_str ho hcl (hq _ rfl).2
 ·exact IsiPair.dict_bool ho hcl (hq _ rfl).2
 ·exact IsiPair.dict_list ho hcl (hq _ rfl).2
 ·exact IsiPair.dict_tuple ho hcl (hq _ rfl).2
 ·exact IsiPair.dict_dict ho hcl (hq _ rfl).1
theorem isi_none {prog:Program}{w:World}{A:Around}{Q E:Value→Shared→Prop}{s:Shared}{t:String}(hc:isiTypes.contains t=true)(hq:∀ b,isiK "NoneType" t=some b→Q (.bool b) s∧Q (.bool b) { s with toks:=s.toks+1 }):wpAny (model prog w) A (call (.builtin "isinstance") [.none,.type t]) Q E s:=by
 rcases isi_mem hc with rfl | rfl | rfl | rfl | rfl | rfl
 ·exact IsiPair.NoneType_int (hq _ rfl).2
 ·exact IsiPair.NoneType_str (hq _ rfl).2
 ·exact IsiPair.NoneType_bool (hq _ rfl).2
 ·exact IsiPair.NoneType_list (hq _ rfl).2
 ·exact IsiPair.NoneType_tuple (hq _ rfl).2
 ·exact IsiPair.NoneType_dict (hq _ rfl).2
theorem at_isiV {v w:V}{x y:Value}{s:Shared}{ρ:List Addr}{st:St}(hx:VR C s.heap ρ v x)(hy:VR C s.heap ρ w y):At C d env sc ns (VR C) Nil (call (.builtin "isinstance") [x,y]) (isiV v w) s ρ st:=.of fun A Q E X hA hS hw=>by
 obtain⟨t,rfl,h0⟩:=wpM_asTy.mp (wpM_bind.mp hw.1)
 obtain rfl:=hy
 obtain⟨bv,h1,h2⟩:=wpM_withObs.mp h0
 obtain⟨k,hk,h3⟩:=Option.bind_eq_some_iff.mp h1
 obtain⟨b,h4,rfl⟩:=Option.map_eq_some_iff.mp h3
 have hc:isiTypes.contains t=true:=by
  unfold isiK at h4
  split at h4
  ·assumption
  ·cases h4
 have hq:∀ b',isiK k t=some b'→Q (.bool b') s∧Q (.bool b') { s with toks:=s.toks+1 }:=fun b' q=>by
  obtain rfl:=some_eq h4 q
  exact⟨h2 _ _ _ rfl hS (.refl ..),h2 _ _ _ rfl (hS.toks _) (.toks _)⟩
 clear h0 h1 h2 h3 h4 hw
 cases v with
 | bool _=>obtain rfl:=hx;obtain rfl:=Option.some.inj hk;exact isi_bool hc hq
 | int _=>obtain⟨t,rfl⟩:=hx;obtain rfl:=Option.some.inj hk;exact isi_int hc hq
 | str _=>obtain⟨t,rfl⟩:=hx;obtain rfl:=Option.some.inj hk;exact isi_str hc hq
 | none=>obtain rfl:=hx;obtain rfl:=Option.some.inj hk;exact isi_none hc hq
 | tuple xs =>
  obtain rfl:=Option.some.inj hk
  obtain⟨a,items,rfl,⟨o,ho,hcl,hd⟩,_⟩:=hx
  exact isi_tup ho hcl hc hq
 | flist xs =>
  obtain rfl:=Option.some.inj hk
  obtain⟨a,items,n,rfl,ho,_⟩:=hx
  exact isi_list ho rfl hc hq
 | ref r =>
  obtain⟨a,rfl,ha⟩:=hx
  replace hk:(match st.obs[r]? with
   | some (.list _)=>some "list"
   | some (.sdict ..)=>some "dict"
   | _=>none)=some _:=hk
  split at hk
  ·rename_i xs hxs
   obtain rfl:=Option.some.inj hk
   obtain⟨items,n,ho,_⟩:=hS.inv.list hxs ha
   exact isi_list ho rfl hc hq
  ·rename_i j es hes
   obtain rfl:=Option.some.inj hk
   obtain⟨kvs,⟨_,⟨o,_,ho,hcl,_⟩,_⟩,_⟩:=hS.inv.at ha hes
   exact isi_dict ho hcl.1 hc hq
  ·cases hk
 | fdict ks vs =>
  obtain rfl:=Option.some.inj hk
  obtain⟨a,kvs,rfl,⟨o,_,_,ho,hcl,_⟩,_⟩:=hx
  exact isi_dict ho hcl.1 hc hq
 | _=>cases hk
noncomputable def AtF (C:Cx)(d:Nat)(env:Env)(sc:Scope)(ns:List Str)(t:Sem Value)(m:M V)(s:Shared)(ρ:List Addr)(st:St):Prop :=
 ∀ (A:Around) (Q:Value→Shared→Prop) (E:Value→Shared→Prop) (X:Str→St→Prop),AOk C.aux d A→State C env sc ns s ρ st →
  wpM m st (fun v st'=>∀ vs D s' ρ',v=.flist vs→Fresh C env sc ns s ρ vs D s' ρ' st'→Q (.ref D) s') X→wpAny (model C.prog C.w) A t Q E s
theorem AtF.val {t:Sem Value}{m:M V}{s:Shared}{ρ:List Addr}{st:St}(h:AtF C d env sc ns t m s ρ st):At C d env sc ns (VR C) Nil t m s ρ st:=fun A Q E X hA hS hw hX =>
 h A Q E X hA hS (wpM_mono hw (fun v st' hq vs D s' ρ' hv F=>by subst hv;obtain⟨S,r⟩:=F.val hS.frm.off;exact hq _ _ _ r S F.ext) fun _ _ q=>q)
theorem vrs_items {h:Heap}{ρ:List Addr}(vs:List V):∀ (xs:List Value),vs.length=xs.length→(∀ (i:Nat) v x,vs[i]?=some v→xs[i]?=some x→VR C h ρ v x)→VRs C h ρ vs xs:=by
 induction vs with
 | nil=>exact fun xs hl _=>List.length_eq_zero_iff.mp hl.symm
 | cons v vs ih =>
  intro xs hl hk
  cases xs with
  | nil=>cases hl
  | cons x xs=>exact⟨x,xs,rfl,hk 0 v x rfl rfl,ih xs (Nat.succ.inj hl) fun i v x h1 h2=>hk (i+1) v x h1 h2⟩
theorem AtF.stuck {t:Sem Value}{s:Shared}{ρ:List Addr}{st:St}:AtF C d env sc ns t stuck s ρ st:=fun A Q E X _ _ hw=>hw.elim
theorem at_listF (hh:C.aux.hot=none){vs:List V}{vals:List Value}{s:Shared}{ρ:List Addr}{st:St}(hv:VRs C s.heap ρ vs vals):AtF C d env sc ns (call (.type "list") vals) (fList vs) s ρ st:=by
 rcases vs with _ | ⟨v,_ | ⟨w,l⟩⟩
 ·exact .stuck
 ·obtain⟨x,_,rfl,hx,rfl⟩:=hv
  have key:∀ {a:Addr} {T:String} {o:Obj} {items:Array Value} {n:Nat} {xs:List V},(T = "list" ∨ T = "tuple")→s.heap.get? a=some o→o.cls=.type T→o.data=.seq items n→VRs C s.heap ρ xs items.toList→AtF C d env sc ns (call (.type "list") [.ref a]) (allocL xs) s ρ st:=fun {a T o items n xs} hT ho hc hd hx A Q E X hA hS hw=>by
   obtain⟨hl,hq⟩:=Rest.ite' hw
   exact call_list_seq _ hT ho hc hd (fun h' c' g ho'=>hq _ _ _ ρ rfl (hS.fresh (tk:=s.toks) g fresh_none ho' hx)) (by rw[← show _=items.size from hx.len];exact hl)
  have lst:∀ {v:V},VR C s.heap ρ v x→AtF C d env sc ns (call (.type "list") [x]) ((listOf v).bind fun xs=>allocL xs) s ρ st:=fun hx A Q E X hA hS hw=>by
   obtain⟨a,items,o,n,xs,rfl,g1,c1,d1,v1,e1,h1⟩:=list_at hS.inv hx (wpM_bind.mp hw)
   exact key (.inl rfl) g1 c1 d1 v1 A Q E X hA hS h1
  cases v with
  | tuple xs=>obtain⟨a,items,rfl,⟨o,ho,hc,n,hd⟩,_,hx⟩:=hx;exact key (.inr rfl) ho hc hd hx
  | str y =>
   obtain⟨t,rfl⟩:=hx
   intro A Q E X hA hS hw1
   obtain⟨hl,hq⟩:=Rest.ite' hw1
   have hlen:(charsOf y).length=y.length:=by unfold charsOf;rw[List.length_map]
   refine call_list_str (hA.handled hh) _ t (fun h' tk acc c' g ho hit=>hq _ _ _ ρ rfl (hS.fresh (tk:=tk) g fresh_none ho (vrs_items _ _ ?_ fun i v x hv hx=>?_))) (by rw[List.size_toArray,← hlen];exact hl)
   ·rw[hlen,Array.length_toList];exact (List.size_toArray▸hit.1).symm
   ·rw[Array.getElem?_toList] at hx
    obtain⟨c,t,h1,h2⟩:=hit.2 i x hx
    obtain⟨c',h3,rfl⟩:=chars_get hv
    rw[List.getElem?_toArray,h3] at h1
    cases h1
    exact⟨t,h2⟩
  | range lo hi =>
   obtain⟨a,t,u,k,rfl,_,hr⟩:=hx
   intro A Q E X hA hS hw1
   obtain⟨hsm,hw2⟩:=Rest.ite' hw1
   obtain⟨hl,hq⟩:=Rest.ite' hw2
   obtain⟨z1,z2⟩:=small_range hsm
   have hlen:((rangeL lo hi).map V.int).length=(hi-lo).toNat:=by unfold rangeL;rw[List.length_map,List.length_map,List.length_range]
   refine call_list_range (n:=(hi-lo).toNat) (hA.handled hh) hr z1 (by rw[z2];exact (Int.toNat_eq_max _).symm) (by rw[← hlen];exact hl) fun h' tk acc c' g ho hit=>hq _ _ _ ρ rfl (hS.fresh (tk:=tk) g fresh_none ho (vrs_items _ _ (by rw[hlen,Array.length_toList];exact hit.1.symm) fun i v x hv hx=>?_))
   rw[Array.getElem?_toList] at hx
   obtain⟨t,rfl⟩:=hit.2 i x hx
   obtain⟨rfl,_⟩:=rangeL_get hv
   exact⟨t,by rw[Int.mul_one]⟩
  | flist xs=>exact lst hx
  | alist xs=>exact lst hx
  | ref r=>exact lst hx
  | _=>exact .stuck
 ·exact .stuck
theorem at_list (hh:C.aux.hot=none){vs:List V}{vals:List Value}{s:Shared}{ρ:List Addr}{st:St}(hv:VRs C s.heap ρ vs vals):At C d env sc ns (VR C) Nil (call (.type "list") vals) (fList vs) s ρ st:=(at_listF hh hv).val
theorem at_range {vs:List V}{vals:List Value}{s:Shared}{ρ:List Addr}{st:St}(hv:VRs C s.heap ρ vs vals):At C d env sc ns (VR C) Nil (call (.type "range") vals) (fRange vs) s ρ st:=.of fun A Q E X hA hS hw=>by
 obtain⟨hw1,hX⟩:=hw
 unfold fRange at hw1
 split at hw1
 ·obtain⟨n,rfl,hw2⟩:=wpM_asInt.mp (wpM_bind.mp hw1)
  have hw:=(⟨hw2,hX⟩:Rest C env sc ns (VR C) Nil Q E X _ s ρ st)
  obtain⟨_,_,rfl,⟨t,rfl⟩,rfl⟩:=hv
  obtain⟨hl,hw⟩:=Rest.ite hw
  refine call_range_1 (hw.1 _ _ ρ ?_ (hS.grows (Grows.push _ _) _) (Ext.grows (Grows.push _ _)))
  exact⟨_,_,_,_,rfl,hS.free fresh_none,IsRange.new ..⟩
 ·obtain⟨a,rfl,hw2⟩:=wpM_asInt.mp (wpM_bind.mp hw1)
  obtain⟨b,rfl,hw3⟩:=wpM_asInt.mp (wpM_bind.mp hw2)
  have hw:=(⟨hw3,hX⟩:Rest C env sc ns (VR C) Nil Q E X _ s ρ st)
  obtain⟨_,_,rfl,⟨t,rfl⟩,_,_,rfl,⟨u,rfl⟩,rfl⟩:=hv
  obtain⟨hl,hw⟩:=Rest.ite hw
  refine call_range_2 (hw.1 _ _ ρ ?_ (hS.grows (Grows.push _ _) _) (Ext.grows (Grows.push _ _)))
  exact⟨_,_,_,_,rfl,hS.free fresh_none,IsRange.new ..⟩
 ·exact hw1.elim
theorem at_tupleOf {vs:List V}{vals:List Value}{s:Shared}{ρ:List Addr}{st:St}(hv:VRs C s.heap ρ vs vals):At C d env sc ns (VR C) Nil (call (.type "tuple") vals) (fTuple vs) s ρ st:=.arg1 (f:=tupV) (T:=fun vs=>call (.type "tuple") vs) hv fun v x hx=>by
 have lst:∀ {v:V},VR C s.heap ρ v x→At C d env sc ns (VR C) Nil (call (.type "tuple") [x]) ((listOf v).bind tupL) s ρ st:=fun hx=>.list (T:=fun x=>call (.type "tuple") [x]) hx fun a items xs hl v1 e1=>.ite fun hle=>.of fun A Q E X hA hS hw=>by
  refine call_tuple_list hl (fun h' hk=>?_) (by rw[← e1];exact hle)
  have g:Grows s.heap (h'.push { cls:=.type "tuple", data:=.seq items }):=Grows.trans hk (Grows.push _ _)
  have hD:s.heap.get? h'.objs.size=none:=by
   cases q:s.heap.get? h'.objs.size with
   | none=>rfl
   | some o'=>exact absurd (Heap.lt_size (hk _ _ q)) (Nat.lt_irrefl _)
  exact Rest.tuple (tk:=s.toks) hS hw g hD (Heap.get?_push_size _ rfl) v1
 cases v with
 | tuple xs =>
  exact .of fun A Q E X hA hS hw=>by
   have hx':=hx
   obtain⟨a,items,rfl,ht,_,_⟩:=hx'
   exact call_tuple_tup ht (hw.1 _ _ _ hx hS (.refl ..))
 | flist xs=>exact lst hx
 | alist xs=>exact lst hx
 | ref r=>exact lst hx
 | _=>exact .stuck
end
end Mine
namespace Mine
set_option backward.match.sparseCases false
open PySem PyProof.Rows
section
variable {C:Cx}{d:Nat}{env:Env}{sc:Scope}{ns:List Str}
theorem idxL_some {α:Type}{xs:List α}{i:Int}{v:α}(h:idxL xs i=some v):(-(2 ^ 63)≤i∧i<2 ^ 63)∧((0≤i∧xs[i.toNat]?=some v)∨(i<0∧-(xs.length:Int)≤i∧xs[(i+(xs.length:Int)).toNat]?=some v))∧∃ j,seqIndex? i xs.length=some j∧xs[j]?=some v:=by
 have hb:big=2 ^ 63:=by decide
 unfold idxL at h
 rw[hb] at h
 split at h
 ·rename_i h0
  split at h
  ·rename_i h1
   have hlt:i.toNat<xs.length:=(List.getElem?_eq_some_iff.mp h).1
   refine⟨⟨Int.le_trans (by decide) h0,h1⟩,.inl ⟨h0,h⟩,i.toNat,?_,h⟩
   unfold seqIndex?
   rw[if_neg (Int.not_lt.mpr h0),if_pos (Bool.and_eq_true_iff.mpr ⟨decide_eq_true h0,decide_eq_true ((Int.toNat_lt h0).mp hlt)⟩)]
  ·cases h
 ·rename_i h0
  split at h
  ·rename_i h1
   have hlt:(i+(xs.length:Int)).toNat<xs.length:=(List.getElem?_eq_some_iff.mp h).1
   have hn:i<0:=Int.not_le.mp h0
   have k1:=Int.add_le_add_right h1.1 (xs.length:Int)
   have k2:=Int.add_lt_add_right hn (xs.length:Int)
   rw[Int.add_left_neg] at k1
   rw[Int.zero_add] at k2
   refine⟨⟨h1.2,Int.lt_trans hn (by decide)⟩,.inr ⟨hn,h1.1,h⟩,(i+(xs.length:Int)).toNat,?_,h⟩
   unfold seqIndex?
   rw[if_pos hn,if_pos (Bool.and_eq_true_iff.mpr ⟨decide_eq_true k1,decide_eq_true k2⟩)]
  ·cases h
theorem at_item_list {a:Addr}{items:Array Value}{xs:List V}{k:Int}{t:Tok}{v:V}{s:Shared}{ρ:List Addr}{A:Around}{Q:Value→Shared→Prop}{E:Value→Shared→Prop}(hl:s.heap.IsList a items)(hx:VRs C s.heap ρ xs items.toList)(hi:idxL xs k=some v)(h:∀ x,VR C s.heap ρ v x→Q x s) :
  wpAny (model C.prog C.w) A (getItem (.ref a) (.int k t)) Q E s:=by
 obtain⟨⟨h1,h2⟩,h3,_⟩:=idxL_some hi
 have e:=hx.len
 simp at e
 rcases h3 with ⟨h0,hg⟩ | ⟨h0,h4,hg⟩
 ·obtain⟨x,hx1,hx2⟩:=hx.getA hg
  exact wpAny_getItem_list hl h0 h2 hx1 (h x hx2)
 ·obtain⟨x,hx1,hx2⟩:=hx.getA hg
  exact wpAny_getItem_list_neg hl h0 (by rw[← e];exact h4) h1 (by rw[← e];exact hx1) (h x hx2)
noncomputable def sliceE:Expr→Bool
 | .Slice ..=>true
 | _=>false
theorem subscripted_plain {slice:Expr}(h:sliceE slice=false)(o i:Value):subscripted slice false o i=operate [o,i] (getItem o i):=by
 cases slice <;> first | rfl | cases h
theorem at_sub {value slice:Expr}(hs:sliceE slice=false){x y:V}{vx vy:Value}{s:Shared}{ρ:List Addr}{st:St}(hx:VR C s.heap ρ x vx)(hy:VR C s.heap ρ y vy):At C d env sc ns (VR C) Nil (subscriptTail value slice vx vy) (subV x y) s ρ st:=.of fun A Q E X hA hS hw=>by
 obtain⟨hw1,hX⟩:=hw
 unfold subV at hw1
 split at hw1
 ·rename_i x
  obtain⟨i,rfl,hw1⟩:=wpM_asInt.mp (wpM_bind.mp hw1)
  obtain⟨t,rfl⟩:=hx;obtain⟨u,rfl⟩:=hy
  obtain⟨r,h1,h2⟩:=wpM_ofOpt.mp hw1
  obtain⟨c,h3,rfl⟩:=Option.map_eq_some_iff.mp h1
  obtain⟨⟨b1,b2⟩,_,j,h4,h5⟩:=idxL_some h3
  refine tail_any (typeIs_str _ _ _) PySem.F.slot_str_getitem.lookup (PySem.P.getItem_str (c:=c) (by simp;omega) ?_ (h2 _ _ _ ⟨_,rfl⟩ (hS.toks _) (.toks _))) (subscripted_plain hs _ _)
  rw[str_len,h4]
  show x.toArray[j]?=some c
  simpa using h5
 ·obtain⟨i,rfl,hw1⟩:=wpM_asInt.mp (wpM_bind.mp hw1)
  obtain⟨a,items,rfl,ht,_,hx⟩:=hx;obtain⟨u,rfl⟩:=hy
  obtain⟨r,h1,h2⟩:=wpM_ofOpt.mp hw1
  obtain⟨⟨b1,b2⟩,_,j,h4,h5⟩:=idxL_some h1
  obtain⟨z,h6,h7⟩:=hx.getA h5
  have e:=hx.len
  simp at e
  exact tail_any ht.typeIs slot_tuple_getitem.lookup (getItem_tuple ht b1 b2 (by rw[← e];exact h4) h6 (h2 _ _ _ h7 hS (.refl ..))) (subscripted_plain hs _ _)
 ·obtain⟨i,rfl,hw1⟩:=wpM_asInt.mp (wpM_bind.mp hw1)
  obtain⟨a,items,n,rfl,hl,_,hx⟩:=hx;obtain⟨u,rfl⟩:=hy
  have hl:s.heap.IsList a items:=⟨_,hl,rfl,n,rfl⟩
  obtain⟨r,h1,h2⟩:=wpM_ofOpt.mp hw1
  exact tail_any hl.typeIs slot_list_getitem.lookup (at_item_list hl hx h1 fun z hz=>h2 _ _ _ hz hS (.refl ..)) (subscripted_plain hs _ _)
 ·obtain⟨i,rfl,hw1⟩:=wpM_asInt.mp (wpM_bind.mp hw1)
  obtain⟨a,items,rfl,hl,_,hx⟩:=hx;obtain⟨u,rfl⟩:=hy
  obtain⟨r,h1,h2⟩:=wpM_ofOpt.mp hw1
  exact tail_any hl.typeIs slot_list_getitem.lookup (at_item_list hl hx h1 fun z hz=>h2 _ _ _ hz hS (.refl ..)) (subscripted_plain hs _ _)
 ·rename_i r
  obtain⟨a,rfl,ha⟩:=hx
  obtain⟨o,ho,h1⟩:=wpM_getOb.mp (wpM_bind.mp hw1)
  unfold subO at h1
  split at h1
  ·rename_i xs
   obtain⟨i,rfl,h2⟩:=wpM_asInt.mp (wpM_bind.mp h1)
   obtain⟨u,rfl⟩:=hy
   obtain⟨r,h3,h4⟩:=wpM_ofOpt.mp h2
   obtain⟨items,hl,hx⟩:=hS.inv.isList ho ha
   exact tail_any hl.typeIs slot_list_getitem.lookup (at_item_list hl hx h3 fun z hz=>h4 _ _ _ hz hS (.refl ..)) (subscripted_plain hs _ _)
  ·rename_i j es
   obtain⟨k,rfl,h2⟩:=wpM_asStr.mp (wpM_bind.mp h1)
   obtain⟨v,h3,h4⟩:=wpM_ofOpt.mp h2
   obtain⟨kvs,q1,q2⟩:=hS.inv.at ha ho
   obtain⟨t,rfl⟩:=hy
   have hl:=lookD_ok (k:=k) q2
   rw[h3] at hl
   obtain⟨z,q3,q4⟩:=hl
   exact tail_any q1.of.typeIs slot_dict_getitem.lookup (wpAny_getItem_of (isKey k t) q1.of.mapOf q3 (h4 _ _ _ q4 (hS.toks _) (.toks _))) (subscripted_plain hs _ _)
  ·exact h1.elim
 ·exact hw1.elim
theorem snd_sub {o i:Expr}{pos:Pos}{m k:M V}(hs:sliceE i=false)(ho:SndE C d env sc ns o m)(hi:SndE C d env sc ns i k):SndE C d env sc ns (.Subscript o i pos) (subM m k):=.of fun A s ρ st Q E X hA hS hw =>
 Subscript_ (ho.then hA hS hw fun x vx s₁ ρ₁ st₁ r₁ S₁ e₁ hw₁=>hi.then hA S₁ hw₁ fun y vy s₂ ρ₂ st₂ r₂ S₂ e₂ hw₂=>(at_sub hs (r₁.ext e₂.extN) r₂).go hA S₂ hw₂)
noncomputable def PartR (_:Heap)(_:List Addr)(i:Option Int)(v:Value):Prop:=IsPart v i
noncomputable def OptR (C:Cx)(d:Nat)(env:Env)(sc:Scope)(ns:List Str):Option Expr→Option (M V)→Prop
 | none,none=>True
 | some e,some m=>SndE C d env sc ns e m
 | _,_=>False
theorem snd_part {e:Option Expr}{m:Option (M V)}(h:OptR C d env sc ns e m):Snd C d env sc ns PartR Nil (evalPart e env) (optI m):=.of fun A s ρ st Q E X hA hS hw=>by
 match e,m,h with
 | none,none,_=>rw[evalPart_none];exact wpAny_pure (hw.1 _ _ _ .none hS (.refl ..))
 | some e,some m,h =>
  rw[evalPart_some]
  refine Snd.then h hA hS hw fun v val s₁ ρ₁ st₁ r₁ S₁ e₁ hw₁=>?_
  obtain⟨i,rfl,h2⟩:=wpM_asInt.mp (wpM_bind.mp hw₁.1)
  obtain⟨t,rfl⟩:=r₁
  exact h2 _ _ _ (.int i t) S₁ (.refl ..)
theorem VRs.drop {h:Heap}{ρ:List Addr}:∀ {vs:List V} {xs:List Value} (k:Nat),VRs C h ρ vs xs→VRs C h ρ (vs.drop k) (xs.drop k)
 | _,_,0,r=>r
 | [],_,k+1,r=>by subst r;simp only[List.drop_nil,vS0,vS1]
 | v::vs,_,k+1,r=>by
  obtain⟨x,xs,rfl,_,h2⟩:=r
  exact VRs.drop k h2
theorem VRs.take {h:Heap}{ρ:List Addr}:∀ {vs:List V} {xs:List Value} (k:Nat),VRs C h ρ vs xs→VRs C h ρ (vs.take k) (xs.take k)
 | _,_,0,r=>by simp only[List.take_zero,vS0,vS1]
 | [],_,k+1,r=>by subst r;simp only[List.take_nil,vS0,vS1]
 | v::vs,_,k+1,r=>by
  obtain⟨x,xs,rfl,h1,h2⟩:=r
  simp only[List.take_succ_cons,vS0,vS1]
  exact⟨x,_,rfl,h1,VRs.take k h2⟩
theorem VRs.slice {h:Heap}{ρ:List Addr}{vs:List V}{items:Array Value}(r:VRs C h ρ vs items.toList)(lo hi:Option Int):VRs C h ρ (sliceL vs lo hi) (slicePick items lo hi none).toList:=by
 have e:=r.len
 simp at e
 rw[slicePick_plain]
 unfold sliceL
 rw[e]
 simpa using (r.drop _).take _
theorem snd_slice {o:Expr}{lo hi:Option Expr}{p pos:Pos}{m:M V}{ml mh:Option (M V)}(ho:SndE C d env sc ns o m)(hl:OptR C d env sc ns lo ml)(hh:OptR C d env sc ns hi mh) :
  SndE C d env sc ns (.Subscript o (.Slice lo hi none p) pos) (sliceM m ml mh):=.of fun A s ρ st Q E X hA hS hw=>by
 refine Subscript_ (ho.then hA hS hw fun x vx s₁ ρ₁ st₁ r₁ S₁ e₁ hw₁=>?_)
 refine wpAny_Slice ((snd_part hl).then hA S₁ hw₁ fun l vl s₂ ρ₂ st₂ r₂ S₂ e₂ hw₂=>(snd_part hh).then hA S₂ hw₂ fun u vu s₃ ρ₃ st₃ r₃ S₃ e₃ hw₃=>?_)
 rw[evalPart_none]
 refine wpAny_pure ?_
 have hx:=(r₁.ext e₂.extN).ext e₃.extN
 have g:=Grows.push s₃.heap { cls:=.type "slice", data:=.fields #[vl,vu,.none] }
 have key:∀ {a:Addr} {items:Array Value} {xs:List V},s₃.heap.IsList a items→VRs C s₃.heap ρ₃ xs items.toList→Rest C env sc ns (VR C) Nil Q E X (if xs.length≤lim then M.pure (.flist (sliceL xs l u)) else stuck) s₃ ρ₃ st₃→wpAny (model C.prog C.w) A (subscriptTail o (.Slice lo hi none p) (.ref a) (.ref s₃.heap.objs.size)) Q E { s₃ with heap:=s₃.heap.push { cls:=.type "slice", data:=.fields #[vl,vu,.none] } }:=fun {a items xs} hl hx hw=>by
  obtain⟨hle,hw⟩:=Rest.ite hw
  have hl':=Heap.IsList.push hl { cls:=.type "slice", data:=.fields #[vl,vu,.none] }
  refine tail_any hl'.typeIs slot_list_getitem.lookup ?_ rfl
  have e:=hx.len
  simp at e
  refine wpAny_getItem_list_slice hl' (Heap.IsSliceOf.new ..) r₂ r₃ .none (by simp) ?_ (by rw[← e];exact hle)
  have hw':Rest C env sc ns (VR C) Nil Q E X (M.pure (.flist (sliceL xs l u))) { s₃ with heap:=s₃.heap.push { cls:=.type "slice", data:=.fields #[vl,vu,.none] } } ρ₃ st₃:=Rest.mono (Ext.grows (t:=s₃.toks) g) (Ext.grows (t:=s₃.toks) g) hw.1 hw.2
  exact Rest.list (tk:=s₃.toks) (S₃.grows g s₃.toks) hw' (Grows.push _ _) fresh_none (Heap.get?_push_size _ rfl) ((hx.slice l u).ext (g.extV ρ₃))
 obtain⟨hw1,hX⟩:=hw₃
 unfold sliceV at hw1
 split at hw1
 ·rename_i x
  obtain⟨hle,h1⟩:=Rest.ite' hw1
  obtain⟨t,rfl⟩:=hx
  refine tail_any (typeIs_str _ _ _) PySem.F.slot_str_getitem.lookup ?_ rfl
  have hl:∃ p:Option (Int×Tok),partValue p=vl∧p.map (·.1)=l:=by cases r₂ with | none=>exact⟨none,rfl,rfl⟩ | int i t=>exact⟨some (i,t),rfl,rfl⟩
  have hu:∃ p:Option (Int×Tok),partValue p=vu∧p.map (·.1)=u:=by cases r₃ with | none=>exact⟨none,rfl,rfl⟩ | int i t=>exact⟨some (i,t),rfl,rfl⟩
  obtain⟨pl,rfl,el⟩:=hl
  obtain⟨pu,rfl,eu⟩:=hu
  subst el
  subst eu
  refine wpAny_getItem_str_slice (l:=pl) (u:=pu) (st:=none) ⟨_,Heap.get?_push_size _ rfl,rfl,rfl⟩ rfl ?_
  refine post_val_or_str ⟨Nat.le_trans (Txt.slice_le _ _ _) (by rw[str_len];exact hle),fun t' k=>?_⟩
  refine h1 _ _ ρ₃ ?_ (S₃.grows g k) (Ext.grows g)
  exact⟨t',rfl⟩
 ·obtain⟨a,items,o,n,xs,rfl,g1,c1,d1,v1,e1,h1⟩:=list_at S₃.inv hx (wpM_bind.mp hw1)
  exact key ⟨o,g1,c1,n,d1⟩ v1 ⟨h1,hX⟩
theorem snd_rev {o:Expr}{k:Nat}{q q' p pos:Pos}{m:M V}(ho:SndE C d env sc ns o m) :
  SndE C d env sc ns (.Subscript o (.Slice none none (some (.UnaryOp .USub (.Constant (.int 1) k q) q')) p) pos) (revM m):=.of fun A s ρ st Q E X hA hS hw=>by
 refine Subscript_ (ho.then hA hS hw fun x vx s₁ ρ₁ st₁ r₁ S₁ e₁ hw₁=>?_)
 refine wpAny_Slice ?_
 rw[evalPart_none,evalPart_some]
 refine wpAny_pure (wpAny_pure ?_)
 refine (snd_neg (C:=C) (d:=d) (env:=env) (sc:=sc) (ns:=ns) (x:=.Constant (.int 1) k q) (pos:=q') (snd_const (v:=.int 1) rfl)) A s₁ ρ₁ st₁ _ E (fun _ _=>False) hA S₁ (fun val s₃ ρ₃ r₃ S₃ e₃=>?_) fun _ _ _ _ _ h _=>h.elim
 obtain⟨t,rfl⟩:=r₃
 have hx:=r₁.ext e₃.extN
 have g:=Grows.push s₃.heap { cls:=.type "slice", data:=.fields #[.none,.none,.int (-1) t] }
 have hw₃:Rest C env sc ns (VR C) Nil Q E X (revV x) s₃ ρ₃ st₁:=Rest.mono e₃ e₃.nil hw₁.1 hw₁.2
 obtain⟨y,rfl,h1⟩:=wpM_asStr.mp (wpM_bind.mp hw₃.1)
 obtain⟨hle,h2⟩:=Rest.ite' h1
 obtain⟨u,rfl⟩:=hx
 refine tail_any (typeIs_str _ _ _) PySem.F.slot_str_getitem.lookup ?_ rfl
 refine wpAny_getItem_str_slice (l:=none) (u:=none) (st:=some (-1,t)) ⟨_,Heap.get?_push_size _ rfl,rfl,rfl⟩ rfl ?_
 have e:∀ u:Tok,Txt.sliceBy ⟨y.toArray⟩ none none (-1,u)=Txt.sliceBy ⟨y.toArray⟩ none none (-1,0):=fun u=>rfl
 exact⟨Nat.le_trans (Txt.sliceBy_le _ none none (-1,t) (show (-1:Int)≠0 by decide)) (by rw[str_len];exact hle),h2 _ _ ρ₃ ⟨_,rfl⟩ (S₃.grows g _) (Ext.grows g)⟩
theorem snd_edict {pos:Pos}:SndE C d env sc ns (.Dict [] [] pos) (alloc (.sdict 0 [])):=.of fun A s ρ st Q E X hA hS hw=>by
 have g:=Grows.push s.heap { cls:=.type "dict", data:=.dict #[] }
 obtain⟨S₂,e₂,r₂⟩:=hS.made (tk:=s.toks) (o:=.sdict 0 []) g fresh_none ⟨[],DictK.new s.heap,rfl,rfl⟩
 exact wpAny_Dict_empty (hw.1 _ _ _ r₂ S₂ e₂)
end
end Mine
set_option maxRecDepth 100000
namespace Mine
set_option backward.match.sparseCases false
open PySem PyProof.Rows PySem.W
noncomputable def bmV:List Value:=[.type "ValueError", .type "Exception", .type "BaseException", .type "object"]
section
variable {prog:Program}{w:World}{A:Around}{E:Value→Shared→Prop}{h:Heap}{g:Array GenState}{d:Drawn}{t:Nat}{os:OsState}{a k N:Addr}{o:Obj}{K:Frag}
 {na q:Str} {bs bm:List Value} {hdct:Bool} {sn:List Str} {sub:List Value} {ab:Bool} {col:Option Bool} {dd:Option Addr} {k0 k1 k2 k3 k5:Option Value} {newId:String} {mN:Str→Option Value}
open Calls Builtin Builtin.ObjectAttr Builtin.Getset_descriptor in
theorem cls_get {tp:Value}{R:Result→Shared→Prop}(hx:h.get? a=some o)(hc:o.cls=.ref k)(X:K.In h)(hm:mroIn K k (.type "object")=some true) (hq:R (.ok (.ret (.ref k))) ⟨h,g,d,t,os⟩) :
  codeAny (model prog w) A (.call (.builtin "getset_descriptor.__get__") ⟨[.builtin "object.__class__", .ref a,tp],[]⟩) R ⟨h,g,d,t,os⟩:=by
 have L0:Looks (model prog w) h (typeOf (.ref a)) (.ref k):=hc▸(Looks.ld hx).andThen .now
 have L1:=looks_mroIn (M:=model prog w) X hm
 refine codeAny_call_builtin KF.slot_gs.plain KF.entry_gs (KF.slot_gs.check _ _ _ _ _ _ _ _ KF.type_class (KF.args_gs _ _ _) ?_)
 unfold Builtin.«getset_descriptor.__get__» descrGet
 rw[dga_obj]
 refine wpAny_bind (wpAny_pure ?_)
 unfold descrGetter descrCheckInstance descrNameAndClass isInstance
 simp only[KF.owner_class]
 repeat lk
 refine⟨Code.quiet_builtin _ (by decide +kernel),codeAny_builtin KF.entry_class ?_⟩
 unfold Builtin.«object.__class__» shownTypeOf
 repeat lk
 exact hq
theorem class_entry {tk:Tok}{Q:Fin→Shared→Prop}(X:K.In h)(hcl:findIn K (.ref k) "__class__" = some (some (.builtin "object.__class__"))) (hm:mroIn K k (.type "object")=some true) (hx:h.get? a=some o) (hc:o.cls=.ref k) (hq:Q (.done (.ret (.ref k))) ⟨h,g,d,t,os⟩) :
  wpAny (model prog w) A (Builtin.«object.__getattribute__» ⟨[.ref a,.str "__class__" tk],[]⟩) Q E ⟨h,g,d,t,os⟩:=by
 have hT5:(⟨h,g,d,t,os⟩:Shared).TypeIs (.builtin "object.__class__") "getset_descriptor" := F.typeOf_object_class
 have f5:=F.typeOf_object_class
 have f6:=F.slot_gs_get.lookup
 have f7:=F.slot_gs_set.lookup
 have L:=looks_findIn (M:=model prog w) X hcl
 repeat (any_goals (first | assumption | (with_reducible refine wpAny_loadPart_at hx ?_;rw[hc]) | with_reducible refine L.at ?_ | wp_step))
 refine cls_get hx hc X hm ?_
 repeat (any_goals (first | assumption | wp_step))
theorem class_by {tk:Tok}{Q:Value→Shared→Prop}(hC:h.get? k=some (excClassObj na q k N bs bm hdct sn sub ab col dd k0 k1 k2 k3 k5 newId))(hN:h.Ns N mN)(hmN:∀ n∈quietNames,mN n=none)(T:OwnTailQ h bmV bm)
  (X:K.In h) (hcl:findIn K (.ref k) "__class__" = some (some (.builtin "object.__class__"))) (hm:mroIn K k (.type "object")=some true) (hx:h.get? a=some o) (hc:o.cls=.ref k) (hq:Q (.ref k) ⟨h,g,d,t,os⟩) :
  wpAny (model prog w) A (getAttrBy (.ref a) (.str "__class__" tk) false) Q E ⟨h,g,d,t,os⟩:=by
 have FB:=F.attrBase_ValueError
 have f3:=FB.ga.bind (.ref a)
 have hx2:(Value.builtin "BaseException.__getattribute__" == Value.builtin "object.__getattribute__")=false:=by decide +kernel
 have hx1:(onTheHeap (Value.ref k)&&Value.builtin "BaseException.__getattribute__" == Value.builtin "object.__getattribute__")=false:=by rw[hx2];rfl
 have hm1:("__getattribute__" : Str)∈quietNames:=.tail _ (.head _)
 have hm2:("__getattr__" : Str)∈quietNames:=.tail _ (.tail _ (.head _))
 repeat (any_goals (first | assumption | (with_reducible refine wpAny_loadPart_at hx ?_;rw[hc]) | with_reducible refine wpAny_typeLookup_tailQ hm1 hC hN hmN T FB.mro FB.ga.lookup ?_ | with_reducible refine wpAny_typeLookup_tailQ hm2 hC hN hmN T FB.mro FB.noGetattr ?_ | wp_step))
 refine codeAny_call_builtin FB.ga.plain F.entry_bexc_ga (wpAny_check_ga_own FB hC T hx hc (class_entry X hcl hm hx hc ?_))
 repeat (any_goals (first | assumption | wp_step))
theorem class_attr {Q:Option Value→Shared→Prop}(hC:h.get? k=some (excClassObj na q k N bs bm hdct sn sub ab col dd k0 k1 k2 k3 k5 newId))(hN:h.Ns N mN)(hmN:∀ n∈quietNames,mN n=none)(T:OwnTailQ h bmV bm)
  (X:K.In h) (hcl:findIn K (.ref k) "__class__" = some (some (.builtin "object.__class__"))) (hm:mroIn K k (.type "object")=some true) (hx:h.get? a=some o) (hc:o.cls=.ref k) (hq:Q (some (.ref k)) ⟨h,g,d,t+1,os⟩) :
  wpAny (model prog w) A (getAttr? (.ref a) "__class__") Q E ⟨h,g,d,t,os⟩:=by
 unfold getAttr? getAttrBy?
 repeat (any_goals (first | assumption | with_reducible apply class_by hC hN hmN T X hcl hm hx hc | wp_step))
end
structure ExcCls (C:Cx)(K:Frag)(c:Str)(k:Addr):Prop where
 own:OwnClsQ c k bmV "ValueError.__new__" C.mg C.base
 cls:findIn K (.ref k) "__class__" = some (some (.builtin "object.__class__"))
 mro:mroIn K k (.type "object")=some true
 base:subIn K (.ref k) (.type "BaseException")=some true
 self:subIn K (.ref k) (.ref k)=some true
 typ:(clsIn K k).isSome=true∧typeIn K (.ref k)=some (.type "type")
noncomputable def ExcAt (a k:Addr)(h:Heap):Prop:=∃ o,h.get? a=some o∧o.cls=.ref k
theorem exc_kit {C:Cx}{K:Frag}{c:Str}{k a:Addr}(O:ExcCls C K c k):KitX K (.ref a) (.ref k) (fun h=>C.base.StaysIn h∧ExcAt a k h) where
 ty:=fun _ _ _ I=>let ⟨o,h1,h2⟩:=I.2;h2▸(Looks.ld h1).andThen .now
 it:=fun _ _ X _=>by
  have hz:=O.typ.1
  unfold clsIn at hz
  split at hz
  ·rename_i c' d' cd' sl' ho
   intro A' Q' E' s' k' q
   unfold isType loadHead
   exact wpAny_bind (wpAny_loadPart (k' _ _ (X _ _ ho)) (wpAny_pure q))
  ·cases hz
 ne:=fun h tp dd its n sl X htp=>by
  have hz:=O.typ.1
  refine Bool.eq_false_iff.mpr fun q=>?_
  have e:k=tp:=Value.ref.inj (beq_iff_eq.mp q)
  subst e
  unfold clsIn at hz
  split at hz
  ·rename_i c' d' cd' sl' ho
   have z:=(X _ _ ho).symm.trans htp
   cases z
  ·cases hz
 ca:=fun {_ _ _ _ _ s} X I kq=>by
  obtain⟨hb,o,h1,h2⟩:=I
  obtain⟨h0,g,d,tt,os⟩:=s
  obtain⟨bm,N,na,q,bs,hdct,sn,sub,ab,col,dd,k0,k1,k2,k3,k5,mN,hC,hN,hq,T⟩:=(O.own.keeps hb).obj
  exact class_attr hC hN hq T X O.cls O.mro h1 h2 kq
theorem exc_self {C:Cx}{K:Frag}{c:Str}{k:Addr}(O:ExcCls C K c k):subIn K (.ref k) (.ref k)=some true:=O.self
theorem exc_matches {M:Model}{A:Around}{E:Value→Shared→Prop}{s:Shared}{K:Frag}{e k l:Addr}{o:Obj}{b:Bool}{Q:Bool→Shared→Prop}(X:K.In s.heap)(he:s.heap.get? e=some o)(hc:o.cls=.ref k)(hl:(clsIn K l).isSome=true∧typeIn K (.ref l)=some (.type "type"))
  (hbase:subIn K (.ref l) (.type "BaseException")=some true) (hs:subIn K (.ref k) (.ref l)=some b) (hq:Q b s):wpAny M A (excMatches (.ref e) (.ref l)) Q E s:=by
 obtain⟨h,g,d,t,os⟩:=s
 have f:=tc_notTuple
 have L1:=looks_typeIn (M:=M) X hl.2
 have L2:=looks_subIn (M:=M) X hbase
 have L3:=looks_subIn (M:=M) X hs
 have hz:=hl.1
 unfold clsIn at hz
 split at hz
 case h_2=>cases hz
 rename_i c' d' cd' sl' ho
 have hL:=X _ _ ho
 unfold excMatches
 repeat (first | (with_reducible refine wpAny_loadPart_at he ?_;rw[hc]) | with_reducible refine L2.at ?_ | with_reducible refine L3.at ?_ | with_reducible refine L1.at ?_ | with_reducible refine wpAny_loadPart_at hL ?_ | wp_step)
 cases b <;> (wp_walk;exact hq)
end Mine
namespace Mine
set_option backward.match.sparseCases false
open PySem PyProof.Rows PySem.W
structure Ok (C:Cx)(K:Frag)(G:GI)(W:Wd)(d:Nat):Prop where
 cx:CxOk C G
 inK:K.In C.base
 fn:∀ x,G.fns.contains x=true→∃ a,C.mg x=some (.ref a)∧keepIn K (.ref a)=true∧FSnd C d a (W.cf (.fn x))∧FSnd C d a (W.cf (.fnR x))
 meth:∀ c k x,C.mg c=some (.ref k)→W.has c x=true→plainGet K k x=true∧∃ f,findIn K (.ref k) x=some (some (.ref f))∧isFn K (.ref f)=true∧keepIn K (.ref f)=true∧FSnd C d f (W.cf (.meth c x))∧FSnd C d f (W.cf (.methR c x))
 fld:∀ c k x,C.mg c=some (.ref k)→W.fld c x=true→plainGet K k x=true∧hasDictIn K k=true∧(∃ attr,findIn K (.ref k) x=some attr∧noGet K attr=true) ∧
  findIn K (.ref k) "__setattr__" = some (some (.builtin "object.__setattr__"))∧plainOver K k=true∧takerIn K k x=some none
 new:∀ c k,C.mg c=some (.ref k)→W.has c (nm "__init__")=true→keepIn K (.ref k)=true∧makesIn K k=true∧∃ f,findIn K (.ref k) "__init__" = some (some (.ref f))∧isFn K (.ref f)=true∧FSnd C d f (W.cf (.meth c (nm "__init__")))
 hot:W.hot=false→C.aux.hot=none
 ch:∀ x a e,G.fns.contains x=true→C.mg x=some (.ref a)→FSnd (C.at C.off ⟨C.aux.frs,some e⟩) d a (W.ch x)
 exc:∀ c,W.exn c=true→∃ k,ExcCls C K c k
 dct:W.exn (nm "dict")=true→False
 exs:∀ c d k l,W.exn c=true→W.exn d=true→C.mg c=some (.ref k)→C.mg d=some (.ref l)→subIn K (.ref k) (.ref l)=some (W.sub c d)
 exv:∀ c k,W.exn c=true→C.mg c=some (.ref k)→subIn K (.ref k) (.type "ValueError")=some (W.sub c (nm "ValueError"))
section
variable {C:Cx}{d:Nat}{env:Env}{sc:Scope}{ns:List Str}{K:Frag}{G:GI}{W:Wd}
theorem Call_meth {prog:Program}{w:World}{A:Around}{E:Value→Shared→Prop}{s:Shared}{o:Expr}{name:Str}{apos pos:Pos}{args:List Expr}{Q:Value→Shared→Prop}(hs:∀ x,attributeBase o x env (eval o env)=eval o env)(hplain:(backTo pos (starEach args env)).all (fun x=>!x.1)=true)(hlen:args.length<29)(hline:(apos.endLine==pos.line)=true)
  (h:wpAny (model prog w) A (eval o env) (fun ov s₁=>∀ pl,wpAny (model prog w) A (getMethod ov name pl) (fun f s₂=>wpAny (model prog w) A (callWith pos f.1 f.2 (backTo pos (starEach args env)) []) Q E s₂) E s₁) E s) :
  wpAny (model prog w) A (eval (.Call (.Attribute o name apos) args [] pos) env) Q E s:=by
 rw[arm_eval_Call,hs]
 refine wpAny_bind (wpAny_mono h (fun ov s₁ h₁=>wpAny_bind (wpAny_standAt ?_)) fun _ _ x=>x)
 have hform:methodCallForm (args.length+([]:List Keyword).length) (backTo pos (starEach args env)) (backToKw pos (keywordEach [] env))=true:=by
  unfold methodCallForm
  rw[hplain]
  show (true&&true&&decide (args.length+0+(if _ then 0 else 1)<30))=true
  rw[Bool.true_and,Bool.true_and,decide_eq_true_eq]
  split
  ·exact Nat.lt_succ_of_lt hlen
  ·exact Nat.succ_lt_succ hlen
 have hpos:methodCallPos true o env apos pos=pure pos:=by unfold methodCallPos;simp[hline]
 unfold methodCall
 rw[hform]
 unfold calleeOf
 rw[if_pos rfl]
 refine wpAny_bind (wpAny_holding (wpAny_mono (h₁ _) (fun f s₂ h₂=>?_) fun _ _ x=>x))
 obtain⟨f,first⟩:=f
 exact wpAny_bind (wpAny_of_eq hpos h₂)
theorem args_all {pos:Pos}:∀ {es:List Expr} {ms:List (M V)},All2 (ArgR C d env sc ns) es ms→(backTo pos (starEach es env)).all (fun x=>!x.1)=true
 | [],[],_=>rfl
 | e::es,m::ms,h=>by rw[star_cons h.1.1];exact args_all h.2
 | [],_::_,h=>h.elim
 | _::_,[],h=>h.elim
theorem Rest.assoc {α β:Type}{R:Heap→List Addr→α→β→Prop}{S:Addr→Prop}{Q:β→Shared→Prop}{E:Value→Shared→Prop}{X:Str→St→Prop}{m n:M α}{s:Shared}{ρ:List Addr}{st:St}(h:Rest C env sc ns R S Q E X m s ρ st)(e:∀ Q',wpM m st Q' X→wpM n st Q' X):Rest C env sc ns R S Q E X n s ρ st:=⟨e _ h.1,h.2⟩
theorem strs_of {h:Heap}{ρ:List Addr}:∀ {xs:List V} {vals:List Value} {ws:List (List Nat)},strsOf xs=some ws→VRs C h ρ xs vals→∃ l,vals=strValues l∧l.map (·.1)=ws.map mkS
 | [],vals,ws,e,r=>by obtain rfl:=Option.some.inj e;cases r;exact⟨[],rfl,rfl⟩
 | v::xs,vals,ws,e,r=>by
  obtain⟨x,vals,rfl,r1,r2⟩:=r
  cases v <;> first | (cases e;done) | skip
  rename_i s
  obtain⟨ws,e1,rfl⟩:=Option.map_eq_some_iff.mp (show (strsOf xs).map (s::·)=some ws from e)
  obtain⟨t,rfl⟩:=r1
  obtain⟨l,rfl,q⟩:=strs_of e1 r2
  exact⟨(⟨s.toArray⟩,t)::l,rfl,by simp[q,mkS]⟩
theorem at_join {vs:List V}{vals:List Value}{s:Shared}{ρ:List Addr}{st:St}(hv:VRs C s.heap ρ vs vals):At C d env sc ns (VR C) Nil (call (.builtin "str.join") vals) (mJoin vs) s ρ st:=.arg2 (T:=fun vs=>call (.builtin "str.join") vs) hv fun v w x y hx hy=>.str (T:=fun x=>call (.builtin "str.join") [x,y]) hx fun sep t=>.list (T:=fun y=>call (.builtin "str.join") [.str ⟨sep.toArray⟩ t,y]) hy fun D items xs hl hx e1=>.opt fun ws q2=>.ite fun hok=>.of fun A Q E X hA hS hw=>by
 obtain⟨l,q3,q4⟩:=strs_of q2 hx
 exact SC.join (l:=l) (by rw[← q3];exact hl) q4 hok fun t' k=>hw.1 _ _ _ ⟨t',rfl⟩ (hS.toks _) (.toks _)
theorem at_index {vs:List V}{vals:List Value}{s:Shared}{ρ:List Addr}{st:St}(hv:VRs C s.heap ρ vs vals):At C d env sc ns (VR C) Nil (call (.builtin "str.index") vals) (mIndex vs) s ρ st:=.arg2 (T:=fun vs=>call (.builtin "str.index") vs) hv fun v w x y hx hy=>.str (T:=fun x=>call (.builtin "str.index") [x,y]) hx fun x t=>.str (T:=fun y=>call (.builtin "str.index") [.str ⟨x.toArray⟩ t,y]) hy fun y u=>by
 cases ho:occ x y 1 with
 | nil=>exact .stuck
 | cons i r=>exact .of fun A Q E X hA hS hw=>SC.index (i:=i) (rest:=r) (by rw[str_len];exact ho) (hw.1 _ _ _ ⟨_,rfl⟩ (hS.toks _) (.toks _))
theorem at_upper {vs:List V}{vals:List Value}{s:Shared}{ρ:List Addr}{st:St}(hv:VRs C s.heap ρ vs vals):At C d env sc ns (VR C) Nil (call (.builtin "str.upper") vals) (mUpper vs) s ρ st:=.arg1 (T:=fun vals=>call (.builtin "str.upper") vals) hv fun v x hx=>.of fun A Q E X hA hS hw=>by
 obtain⟨y,rfl,h1⟩:=wpM_asStr.mp (wpM_bind.mp hw.1)
 obtain⟨hle,h2⟩:=Rest.ite' h1
 obtain⟨u,rfl⟩:=hx
 exact SCL.upper (Nat.le_trans (by rw[str_len];exact hle) (by decide)) fun _=>h2 _ _ ρ ⟨_,rfl⟩ (hS.toks _) (.toks _)
theorem at_count {vs:List V}{vals:List Value}{s:Shared}{ρ:List Addr}{st:St}(hv:VRs C s.heap ρ vs vals):At C d env sc ns (VR C) Nil (call (.builtin "str.count") vals) (mCount vs) s ρ st:=.arg2 (T:=fun vs=>call (.builtin "str.count") vs) hv fun v w x y hx hy=>.str (T:=fun x=>call (.builtin "str.count") [x,y]) hx fun x t=>.str (T:=fun y=>call (.builtin "str.count") [.str ⟨x.toArray⟩ t,y]) hy fun y u=>.of fun A Q E X hA hS hw=>by
 refine SC.count (hw.1 _ _ _ ⟨s.toks,?_⟩ (hS.toks _) (.toks _))
 unfold Txt.count occ
 rw[str_len]
theorem at_append {vs:List V}{vals:List Value}{s:Shared}{ρ:List Addr}{st:St}(hv:VRs C s.heap ρ vs vals):At C d env sc ns (VR C) Nil (call (.builtin "list.append") vals) (mAppend vs) s ρ st:=.arg2 (T:=fun vs=>call (.builtin "list.append") vs) hv fun v w x y hx hy=>.ref (T:=fun x=>call (.builtin "list.append") [x,y]) hx fun i D hD=>.of fun A Q E X hA hS hw=>by
 obtain⟨xs,q1,h1⟩:=wpM_getList.mp (wpM_bind.mp hw.1)
 obtain⟨hle,h1⟩:=Rest.ite' h1
 obtain⟨hlt,h2⟩:=wpM_setOb.mp (wpM_bind.mp h1)
 obtain⟨items,n,ho,hxs⟩:=hS.inv.list q1 hD
 refine wpAny_list_append_plain ⟨n,ho⟩ (fun h' hp hs=>?_) (by rw[← show _=items.size from hxs.len];exact hle)
 obtain⟨n',ho'⟩:=hp
 have k:∀ b o,b≠D→s.heap.get? b=some o→h'.get? b=some o:=fun b o hb q=>(hs.2 b hb).trans q
 have hm:D∈ρ:=List.mem_of_getElem? hD
 have ex:Ext Nil s ρ { s with heap:=h',toks:=s.toks } ρ:=Ext.put hm k ho'
 exact h2 _ _ ρ rfl ⟨hS.inv.put hD k ⟨_,n',ho',by simpa using (hxs.append (.one hy)).ext (.put hm k)⟩,hS.frm.ext ex⟩ ex
theorem at_extend {vs:List V}{vals:List Value}{s:Shared}{ρ:List Addr}{st:St}(hv:VRs C s.heap ρ vs vals):At C d env sc ns (VR C) Nil (call (.builtin "list.extend") vals) (mExt vs) s ρ st:=.arg2 (T:=fun vs=>call (.builtin "list.extend") vs) hv fun v w x y hx hy=>.ref (T:=fun x=>call (.builtin "list.extend") [x,y]) hx fun i D hD=>.of fun A Q E X hA hS hw=>by
  obtain⟨ys,rfl,hw1⟩:=wpM_asFl.mp (wpM_bind.mp hw.1)
  obtain⟨b,items2,n2,rfl,ho2,hf,hys⟩:=hy
  obtain⟨xs,q1,h1⟩:=wpM_getList.mp (wpM_bind.mp hw1)
  obtain⟨hle,h1⟩:=Rest.ite' h1
  obtain⟨hlt,h2⟩:=wpM_setOb.mp (wpM_bind.mp h1)
  obtain⟨items,n,ho,hxs⟩:=hS.inv.list q1 hD
  have e:_=items.size:=hxs.len
  have e2:_=items2.size:=hys.len
  rw[e,e2] at hle
  have hle:items.size+items2.size≤16777216:=hle
  refine call_meets PySem.F.slot_list_extend ⟨_,ho,rfl⟩ PySem.F.entry_list_extend (PySem.F.args_list_extend_2 _ _) (AutoSeq1.list_extend_list_list_0 D items n b items2 n2 ?_ ?_ ?_) ⟨ho,ho2,?_⟩
  ·rw[show Builtin.List.listTooLong (items.size+items2.size)=false by unfold Builtin.List.listTooLong;exact decide_eq_false (Nat.not_lt_of_le hle),Bool.and_false]
   exact Bool.false_ne_true
  ·exact Nat.le_trans (Nat.le_add_right _ _) hle
  ·exact Nat.le_succ_of_le hle
  have k:∀ b o,b≠D→s.heap.get? b=some o→(s.heap.update D (Obj.mapSeq fun x=>x++items2)).get? b=some o:=fun b o hb q=>(Heap.get?_update_other _ _ (Ne.symm hb)).trans q
  have ho':=PySem.IsL.update (n:=n) ho (·++items2)
  have hm:D∈ρ:=List.mem_of_getElem? hD
  have ex:Ext Nil s ρ { s with heap:=s.heap.update D (Obj.mapSeq fun x=>x++items2),toks:=s.toks } ρ:=Ext.put hm k ho'
  exact h2 _ _ ρ rfl ⟨hS.inv.put hD k ⟨_,_,ho',by rw[Array.toList_append];exact (hxs.append hys).ext (.put hm k)⟩,hS.frm.ext ex⟩ ex
theorem at_pop {vs:List V}{vals:List Value}{s:Shared}{ρ:List Addr}{st:St}(hv:VRs C s.heap ρ vs vals):At C d env sc ns (VR C) Nil (call (.builtin "list.pop") vals) (mPop vs) s ρ st:=.arg2 (T:=fun vs=>call (.builtin "list.pop") vs) hv fun v w x y hx hy=>.ref (T:=fun x=>call (.builtin "list.pop") [x,y]) hx fun i D hD=>.int (T:=fun y=>call (.builtin "list.pop") [.ref D,y]) hy fun j t=>.of fun A Q E X hA hS hw=>by
  obtain⟨xs,q1,h1⟩:=wpM_getList.mp (wpM_bind.mp hw.1)
  obtain⟨rfl,h1⟩:=Rest.ite' h1
  cases xs with
  | nil=>exact h1.elim
  | cons x r =>
   obtain⟨hle,h1⟩:=Rest.ite' (show wpM (if r.length<lim then _ else stuck) st _ X from h1)
   obtain⟨hlt,h2⟩:=wpM_setOb.mp (wpM_bind.mp h1)
   obtain⟨items,n,ho,hxs⟩:=hS.inv.list q1 hD
   obtain⟨items⟩:=items
   obtain⟨y,ys,e,hx,hr⟩:=hxs
   have e:items=y::ys:=e
   subst e
   have hl:=hr.len
   refine call_meets PySem.F.slot_list_pop ⟨_,ho,rfl⟩ PySem.F.entry_list_pop (PySem.F.args_list_pop_2 _ _) (MeetsSeq.list_pop_at D _ n 0 t 0 y (by decide) ?_ rfl ?_) ⟨ho,?_⟩
   ·have:(0:Int)<((ys.length+1:Nat):Int):=Int.ofNat_lt.mpr (Nat.succ_pos _)
    show (if (decide ((0:Int)≤0)&&decide ((0:Int)<((ys.length+1:Nat):Int)))=true then some 0 else none)=some 0
    rw[decide_eq_true this];rfl
   ·show ys.length+1≤sizeLine
    rw[← hl];exact hle
   have k:∀ b o,b≠D→s.heap.get? b=some o→(s.heap.update D (Obj.mapSeq fun xs=>xs.eraseIdxIfInBounds 0)).get? b=some o:=fun b o hb q=>(Heap.get?_update_other _ _ (Ne.symm hb)).trans q
   have ho':=PySem.IsL.update (n:=n) ho (·.eraseIdxIfInBounds 0)
   have hm:D∈ρ:=List.mem_of_getElem? hD
   have eV:ExtV C s.heap ρ (s.heap.update D (Obj.mapSeq fun xs=>xs.eraseIdxIfInBounds 0)) ρ:=.put hm k
   have ex:Ext Nil s ρ { s with heap:=s.heap.update D (Obj.mapSeq fun xs=>xs.eraseIdxIfInBounds 0),toks:=s.toks } ρ:=Ext.put hm k ho'
   exact h2 _ _ ρ (hx.ext eV) ⟨hS.inv.put hD k ⟨_,_,ho',by simpa using hr.ext eV⟩,hS.frm.ext ex⟩ ex
end
end Mine
namespace Mine
set_option backward.match.sparseCases false
open PySem PyProof.Rows PySem.W
section
variable {C:Cx}{d:Nat}{env:Env}{sc:Scope}{ns:List Str}{K:Frag}{G:GI}{W:Wd}
noncomputable def Callable (K:Frag)(f:Value):Prop:=(∃ id,f=.builtin id)∨(∃ T,f=.type T)∨keepIn K f=true
theorem callWith_any {M:Model}{A:Around}{E:Value→Shared→Prop}{s:Shared}{pos:Pos}{f:Value}{first:List Value}{args:List (Bool×Sem Value)}{Q:Value→Shared→Prop}(hf:Callable K f)(hplain:args.any (·.1)=false)
  (h:wpAny M A (evalArgs f true args []) (fun a s₁=>K.In s₁.heap∧wpAny M A (call f (first++a.pos) a.kw) Q E s₁) E s):wpAny M A (callWith pos f first args []) Q E s:=by
 rcases hf with ⟨id,rfl⟩ | ⟨T,rfl⟩ | hk
 ·exact Calls.callWith_builtin hplain (wpAny_mono h (fun _ _ q=>q.2) fun _ _ q=>q)
 ·exact PyProof.Rows.callWith_type hplain (wpAny_mono h (fun _ _ q=>q.2) fun _ _ q=>q)
 ·exact callWith_of (by rw[hplain];rfl) (keeps_K hk) h
theorem Ok.inH (hO:Ok C K G W d){s:Shared}{ρ:List Addr}{st:St}(hS:State C env sc ns s ρ st):K.In s.heap:=hO.inK.keeps hS.inv.base
theorem snd_callAny (hK:K.In C.base){pos:Pos}{es:List Expr}{ms:List (M V)}{fv:Value}{first:List Value}{fs:List V}{g:List V→M V}(hf:Callable K fv)(ha:All2 (ArgR C d env sc ns) es ms){s:Shared}{ρ:List Addr}{st:St}(hfirst:VRs C s.heap ρ fs first)
  (h:∀ vs vals s ρ st,VRs C s.heap ρ vs vals→At C d env sc ns (VR C) Nil (call fv vals) (g vs) s ρ st) :
  At C d env sc ns (VR C) Nil (callWith pos fv first (backTo pos (starEach es env)) []) ((seqM ms).bind fun vs=>g (fs++vs)) s ρ st:=.of fun A Q E X hA hS hw =>
 callWith_any hf (args_plain ha) (evalArgs_any ha ((snd_args ha).then hA hS hw fun vs vals s₁ ρ₁ st₁ r₁ S₁ e₁ hw₁ =>
  ⟨hK.keeps S₁.inv.base,(h (fs++vs) (first++vals) s₁ ρ₁ st₁ ((hfirst.ext e₁.extN).append r₁)).go hA S₁ hw₁⟩))
noncomputable def PickOk (C:Cx)(K:Frag)(d:Nat)(env:Env)(sc:Scope)(ns:List Str)(x:Str)(pick:V→M (List V→M V)):Prop :=
 ∀ v ov s ρ st (Q':(List V→M V)→St→Prop) (X:Str→St→Prop),VR C s.heap ρ v ov→State C env sc ns s ρ st→wpM (pick v) st Q' X →
  ∃ f fv,Q' f st∧Callable K fv∧(∀ (A:Around) (Q:Value×List Value→Shared→Prop) (E:Value→Shared→Prop) (pl:Sem Bool),Q (fv,[ov]) s→wpAny (model C.prog C.w) A (getMethod ov x pl) Q E s) ∧
   ∀ vs vals s ρ st,VRs C s.heap ρ vs vals→At C d env sc ns (VR C) Nil (call fv vals) (f vs) s ρ st
theorem snd_methodCall (hK:K.In C.base){o:Expr}{x:Str}{ap pos:Pos}{es:List Expr}{m:M V}{ms:List (M V)}{pick:V→M (List V→M V)}(hs:∀ x,attributeBase o x env (eval o env)=eval o env)(hlen:es.length<29)(hline:(ap.endLine==pos.line)=true)(ho:SndE C d env sc ns o m)(ha:All2 (ArgR C d env sc ns) es ms)
  (h:PickOk C K d env sc ns x pick):SndE C d env sc ns (.Call (.Attribute o x ap) es [] pos) (methM pick m ms):=.of fun A s ρ st Q E X hA hS hw =>
 Call_meth hs (args_all ha) hlen hline (ho.then hA hS hw fun v ov s₁ ρ₁ st₁ r₁ S₁ e₁ hw₁ pl=>by
  obtain⟨f,fv,hq,hc,hg,hf⟩:=h v ov s₁ ρ₁ st₁ _ X r₁ S₁ (wpM_bind.mp hw₁.1)
  refine hg A _ E pl ?_
  exact (snd_callAny hK hc ha (VRs.one r₁) hf).go hA S₁ ⟨hq,hw₁.2⟩)
set_option maxRecDepth 100000 in
theorem pick_str {x:Str}{id:String}{f:List V→M V}(slot:Slot "str" x id) (hty:typeOf (.builtin id)=pure (.type "method_descriptor"))
  (hf:∀ vs vals s ρ st,VRs C s.heap ρ vs vals→At C d env sc ns (VR C) Nil (call (.builtin id) vals) (f vs) s ρ st):PickOk C K d env sc ns x (pickS f):=by
 intro v ov s ρ st Q' X hv hS hw
 cases v <;> first | exact hw.elim | skip
 obtain⟨t,rfl⟩:=hv
 refine⟨f,.builtin id,hw,.inl ⟨id,rfl⟩,fun A Q E pl hq=>?_,hf⟩
 have hT:=typeIs_str s ⟨List.toArray ‹List Nat›⟩ t
 refine getMethod_builtin (id:=id) hT PySem.F.plainAttrs_str slot hty (fun a q=>?_) hq
 cases q
theorem pick_list {x:Str}{id:String}{f:List V→M V}(slot:Slot "list" x id) (hty:typeOf (.builtin id)=pure (.type "method_descriptor"))
  (hf:∀ vs vals s ρ st,VRs C s.heap ρ vs vals→At C d env sc ns (VR C) Nil (call (.builtin id) vals) (f vs) s ρ st):PickOk C K d env sc ns x (pickL f):=by
 intro v ov s ρ st Q' X hv hS hw
 cases v <;> first | exact hw.elim | skip
 obtain⟨a,rfl,ha⟩:=hv
 obtain⟨xs,q1,h1⟩:=wpM_getList.mp (wpM_bind.mp hw)
 obtain⟨items,n,ho,_⟩:=hS.inv.list q1 ha
 exact⟨f,_,h1,.inl ⟨id,rfl⟩,fun A Q E pl hq=>getMethod_builtin ⟨_,ho,rfl⟩ PySem.F.plainAttrs_list slot hty (fun a' q=>by cases q;exact⟨_,ho,rfl⟩) hq,hf⟩
theorem pick_index:PickOk C K d env sc ns (nm "index") pickI:=by
 intro v ov s ρ st Q' X hv hS hw
 cases v <;> first | exact hw.elim | skip
 ·exact pick_str PySem.F.slot_str_index rfl (fun vs vals s ρ st hv=>at_index hv) (.str ‹_›) ov s ρ st Q' X hv hS hw
theorem ns_look {h:Heap}{ρ:List Addr}{x:Str}:∀ {fs:List (Str×V)} {es:List DictEntry},NsR C h ρ fs es→match fs.lookup x with
  | some v=>∃ val,getL x es=some (some val)∧VR C h ρ v val
  | none=>getL x es=some none
 | [],es,r=>by obtain rfl:=r;rfl
 | (y,v)::fs,es,r=>by
  obtain⟨e,es,t,rfl,hk,hv,hr⟩:=r
  have ih:=ns_look (x:=x) hr
  have hs:e.key.isStr x=(y==x):=by rw[hk];rfl
  have hrk:e.refKey=false:=by unfold DictEntry.refKey;rw[hk]
  rw[List.lookup_cons]
  cases q:y==x with
  | true =>
   have:(x==y)=true:=by rw[eq_of_beq q];exact beq_self_eq_true _
   rw[this]
   refine⟨e.val,?_,hv⟩
   unfold getL
   rw[List.find?_cons,hs,q]
  | false =>
   have:(x==y)=false:=by
    cases z:x==y with
    | false=>rfl
    | true=>rw[eq_of_beq z] at q;rw[beq_self_eq_true] at q;cases q
   rw[this]
   have e1:getL x (e::es)=getL x es:=by
    unfold getL
    rw[List.find?_cons,hs,q,List.any_cons,hrk,Bool.false_or]
   dsimp only
   rw[e1]
   exact ih
theorem Inv.inst {h:Heap}{ρ:List Addr}{obs:List Ob}(I:Inv C h ρ obs){r dn:Nat}{c:Str}{fs:List (Str×V)}{a:Addr}(ho:obs[r]?=some (.inst c dn))(hd:obs[dn]?=some (.ns fs))(ha:ρ[r]?=some a) :
  ∃ k dx es n,C.mg c=some (.ref k)∧ρ[dn]?=some dx∧InstAt h a { cls:=.ref k,dict:=some dx } k (some (dictOf es n))∧h.get? dx=some (dictOf es n)∧NsR C h ρ fs es:=by
 obtain⟨a',q1,da,k,q2,q3,q4⟩:=I.ob r _ ho
 obtain rfl:=some_eq ha q1
 obtain⟨dx,q5,ents,n,q6,q7⟩:=I.ob dn _ hd
 obtain rfl:=some_eq q2 q5
 exact⟨k,da,ents.toList,n,q3,q2,⟨q4,rfl,rfl,by simpa using q6⟩,by simpa using q6,q7⟩
theorem vr_inst {h:Heap}{ρ:List Addr}{c:Str}{nms:List Str}{vs:List V}{x:Value}(r:VR C h ρ (.finst c nms vs) x):∃ a k dx es n,x=.ref a∧C.mg c=some (.ref k)∧InstAt h a { cls:=.ref k,dict:=some dx } k (some (dictOf es n))∧NsR C h ρ (nms.zip vs) es:=by
 obtain⟨a,da,ents,rfl,⟨k,n,hk,ha,hd⟩,_,hks,hv⟩:=r
 exact⟨a,k,da,ents.toList,n,rfl,hk,⟨ha,rfl,rfl,by simpa using hd⟩,keys_ns hks hv⟩
theorem pick_own (hO:Ok C K G W d){x:Str}(key:Str→FnKey)(hkey:∀ c k f,C.mg c=some (.ref k)→W.has c x=true→findIn K (.ref k) x=some (some (.ref f))→FSnd C d f (W.cf (key c))):PickOk C K (d+1) env sc ns x (pickK key W x):=by
 intro v ov s ρ st Q' X hv hS hw
 have main:∀ {a k dx:Addr} {es:List DictEntry} {n:Nat} {c:Str} {fs:List (Str×V)},ov=.ref a→C.mg c=some (.ref k)→InstAt s.heap a { cls:=.ref k,dict:=some dx } k (some (dictOf es n))→NsR C s.heap ρ fs es→((fs.lookup x).isNone&&W.has c x)=true→Q' (W.cf (key c)) st →
   ∃ f fv,Q' f st∧Callable K fv∧(∀ (A:Around) (Q:Value×List Value→Shared→Prop) (E:Value→Shared→Prop) (pl:Sem Bool),Q (fv,[ov]) s→wpAny (model C.prog C.w) A (getMethod ov x pl) Q E s) ∧
    ∀ vs vals s ρ st,VRs C s.heap ρ vs vals→At C (d+1) env sc ns (VR C) Nil (call fv vals) (f vs) s ρ st:=fun {a k dx es n c fs} ha hk hI hn hl h2=>by
  subst ha
  rw[Bool.and_eq_true] at hl
  obtain⟨hg,f,hf,hfn,hkp,_⟩:=hO.meth c k x hk hl.2
  have hs:=hkey c k f hk hl.2 hf
  refine⟨_,.ref f,h2,.inr (.inr hkp),fun A Q E pl hq=>?_,fun vs vals s ρ st hv=>hs.at hv⟩
  have hnl:=ns_look (x:=x) hn
  rw[Option.isNone_iff_eq_none.mp hl.1] at hnl
  refine method_fn (hO.inH hS) hI (plainGet_of hg).1 (plainGet_of hg).2 hf (beq_iff_eq.mp hfn) ?_ hq
  show (lookIn x (dictOf es n)).map _=_
  rw[lookIn_dict,hnl];rfl
 cases v <;> first | exact hw.elim | skip
 ·obtain⟨a,k,dx,es,n,rfl,hk,hI,hn⟩:=vr_inst hv
  obtain⟨hl,h2⟩:=Rest.ite' hw
  exact main rfl hk hI hn hl h2
 obtain⟨a,rfl,ha⟩:=hv
 obtain⟨o,ho,h1⟩:=wpM_getOb.mp (wpM_bind.mp hw)
 cases o <;> first | exact h1.elim | skip
 rename_i c dn
 obtain⟨o2,ho2,h2⟩:=wpM_getOb.mp (wpM_bind.mp h1)
 cases o2 <;> first | exact h2.elim | skip
 rename_i fs
 obtain⟨hl,h2⟩:=Rest.ite' h2
 obtain⟨k,dx,es,n,hk,hdx,hI,_,hn⟩:=hS.inv.inst ho ho2 ha
 exact main rfl hk hI hn hl h2
end
end Mine
namespace Mine
set_option backward.match.sparseCases false
open PySem PyProof.Rows PySem.W
section
variable {C:Cx}{d:Nat}{env:Env}{sc:Scope}{ns:List Str}{K:Frag}{G:GI}{W:Wd}
theorem VR.handed {h:Heap}{ρ:List Addr}{v:V}{x:Value}(r:VR C h ρ v x):handedIn x=true:=by
 cases v with
 | none=>obtain rfl:=r;rfl
 | bool b=>obtain rfl:=r;rfl
 | int i=>obtain⟨t,rfl⟩:=r;rfl
 | str i=>obtain⟨t,rfl⟩:=r;rfl
 | tuple vs=>obtain⟨a,i,rfl,_⟩:=r;rfl
 | range lo hi=>obtain⟨a,t,u,k,rfl,_⟩:=r;rfl
 | set ns=>obtain⟨a,rfl,_⟩:=r;rfl
 | flist vs=>obtain⟨a,i,n,rfl,_⟩:=r;rfl
 | alist vs=>obtain⟨a,i,rfl,_⟩:=r;rfl
 | finst c ns vs=>obtain⟨a,da,en,rfl,_⟩:=r;rfl
 | fdict ks vs=>obtain⟨a,kv,rfl,_⟩:=r;rfl
 | exc c=>obtain⟨a,o,rfl,_⟩:=r;rfl
 | ref i=>obtain⟨a,rfl,_⟩:=r;rfl
 | own c=>obtain⟨a,rfl,_⟩:=r;rfl
 | type t=>obtain rfl:=r;rfl
theorem at_attr (hO:Ok C K G W d){e:Nat}{x:Str}{v:V}{ov:Value}{s:Shared}{ρ:List Addr}{st:St}(hv:VR C s.heap ρ v ov):At C e env sc ns (VR C) Nil (getAttr ov x true) (attrV W x v) s ρ st:=.of fun A Q E X hA hS hw=>by
 have key:∀ {a k dx:Addr} {es:List DictEntry} {n:Nat} {c:Str} {fs:List (Str×V)},ov=.ref a→C.mg c=some (.ref k)→InstAt s.heap a { cls:=.ref k,dict:=some dx } k (some (dictOf es n))→NsR C s.heap ρ fs es→W.fld c x=true→Rest C env sc ns (VR C) Nil Q E X (ofOpt (fs.lookup x)) s ρ st→wpAny (model C.prog C.w) A (getAttr ov x true) Q E s:=fun {a k dx es n c fs} ha hk hI hn hfl h2=>by
  subst ha
  obtain⟨v,hl,h3⟩:=wpM_ofOpt.mp h2.1
  obtain⟨hg,hh,⟨attr,hat,hng⟩,_⟩:=hO.fld c k x hk hfl
  have hnl:=ns_look (x:=x) hn
  rw[hl] at hnl
  obtain⟨val,q1,q2⟩:=hnl
  exact get_value (hO.inH hS) hI (plainGet_of hg).1 (findObj_own hh hat hng (by rw[lookIn_dict];exact q1)) q2.handed (h3 _ _ _ q2 (hS.toks _) (.toks _))
 cases v <;> first | exact hw.1.elim | skip
 ·obtain⟨a,k,dx,es,n,rfl,hk,hI,hn⟩:=vr_inst hv
  obtain⟨hfl,hw2⟩:=Rest.ite hw
  exact key rfl hk hI hn hfl hw2
 obtain⟨a,rfl,ha⟩:=hv
 obtain⟨o,ho,h1⟩:=wpM_getOb.mp (wpM_bind.mp hw.1)
 cases o <;> first | exact h1.elim | skip
 rename_i c dn
 obtain⟨hfl,hw2⟩:=Rest.ite (⟨h1,hw.2⟩:Rest C env sc ns (VR C) Nil Q E X _ s ρ st)
 obtain⟨o2,ho2,h2⟩:=wpM_getOb.mp (wpM_bind.mp hw2.1)
 cases o2 <;> first | exact h2.elim | skip
 rename_i fs
 obtain⟨k,dx,es,n,hk,hdx,hI,_,hn⟩:=hS.inv.inst ho ho2 ha
 exact key rfl hk hI hn hfl ⟨h2,hw.2⟩
theorem snd_attr (hO:Ok C K G W d){e:Nat}{o:Expr}{x:Str}{pos:Pos}{m:M V}(hs:∀ x,attributeBase o x env (eval o env)=eval o env)(ho:SndE C e env sc ns o m):SndE C e env sc ns (.Attribute o x pos) (attrM W m x):=.of fun A s ρ st Q E X hA hS hw=>by
 rw[arm_eval_Attribute,hs]
 refine wpAny_bind (ho.then hA hS hw fun v ov s₁ ρ₁ st₁ r₁ S₁ e₁ hw₁=>wpAny_bind (wpAny_standAt (wpAny_bind (wpAny_holding ?_))))
 refine (at_attr hO r₁) A _ E X hA S₁ (wpM_mono hw₁.1 (fun v' st' h val s' ρ' r' S' e'=>?_) fun _ _ h=>h) hw₁.2
 exact wpAny_bind (wpAny_letTemporaryGo (wpAny_pure (h val s' ρ' r' S' e')))
theorem ns_put {h:Heap}{ρ:List Addr}{x:Str}{v:V}{val key:Value}{t:Tok}{hsh:Int}(hkey:key=.str x t)(hv:VR C h ρ v val):∀ {fs:List (Str×V)} {es:List DictEntry},NsR C h ρ fs es→NsR C h ρ (setField x v fs) (PySem.W.putL x hsh key val es)
 | [],es,r=>by obtain rfl:=r;exact⟨_,_,t,rfl,hkey,hv,rfl⟩
 | (y,w)::fs,es,r=>by
  obtain⟨e,es,u,rfl,hk,hw,hr⟩:=r
  have hs:e.key.isStr x=(y==x):=by rw[hk];rfl
  unfold setField PySem.W.putL
  rw[hs]
  cases q:y==x with
  | true=>exact⟨_,_,u,rfl,by rw[← eq_of_beq q];exact hk,hv,hr⟩
  | false=>exact⟨_,_,u,rfl,hk,hw,ns_put hkey hv hr⟩
theorem ns_len {h:Heap}{ρ:List Addr}:∀ {fs:List (Str×V)} {es:List DictEntry},NsR C h ρ fs es→es.length=fs.length
 | [],es,r=>by obtain rfl:=r;rfl
 | _::fs,es,r=>by obtain⟨e,es,u,rfl,_,_,hr⟩:=r;simp[ns_len hr]
theorem setField_len (x:Str)(v:V):∀ fs:List (Str×V),(setField x v fs).length≤fs.length+1
 | []=>by simp[setField]
 | e::r=>by
  unfold setField
  split
  ·simp
  ·exact Nat.succ_le_succ (setField_len x v r)
theorem set_own {prog:Program}{w:World}{A:Around}{x k dx:Addr}{s:Shared}{R:Result→Shared→Prop}{ox od od':Obj}{name:Str}{tk:Tok}{v:Value}{es:List DictEntry}{n:Nat}(X:K.In s.heap)(I:InstAt s.heap x ox k (some od))(hd:ox.dict=some dx)(hp:plainOver K k=true)(ht:takerIn K k name=some none)(hh:(clsIn K k).any (·.hasDict)=true)
  (hod:s.heap.get? dx=some od) (hl:(lookIn name od).isSome=true) (e:Obj.putName name (PyData.keyHash w.params name) (.str name s.toks) v od=od') (e':od'.data=.dict es.toArray n) (hz:es.length≤1000)
  (h:∀ h',(∀ b,b≠dx→h'.get? b=s.heap.get? b)→h'.get? dx=some od'→R (.ok (.ret .none)) { s with heap:=h',toks:=s.toks+1 }):codeAny (model prog w) A (.call (.builtin "object.__setattr__") ⟨[.ref x,.str name tk,v],[]⟩) R s:=by
 refine osa_open X I hp ht fun b=>?_
 obtain⟨cd,hc,hd'⟩:=any_some hh
 have D':=Heap.get?_update_self (Obj.putName name (PyData.keyHash w.params name) (.str name s.toks) v) hod (by rw[e];obtain⟨_,_,dd,_⟩:=od';obtain rfl:=e';rfl)
 obtain⟨hx,hcl,hn,-⟩:=I
 obtain⟨oc,odi,oda,osl⟩:=ox
 dsimp only at hcl hd
 subst hcl hd
 refine wpAny_bind (wpAny_pure (wpAny_bind (wpAny_bind (wpAny_loadPart hx (wpAny_bind ((looks_clsIn X hc).here ?_))))))
 rw[hd']
 refine wpAny_pure (a:=some dx) (wpAny_bind (wpAny_pure (wpAny_bind ?_)))
 unfold nsSet
 refine wpAny_bind (wpAny_bind (wpAny_askSetting (wpAny_pure (wpAny_bind (wpAny_mkText (wpAny_bind (wpAny_loadPart hod ?_)))))))
 unfold lookIn at hl
 split at hl
 case h_2=>cases hl
 rename_i es₀ n₀ q
 rw[q]
 dsimp only
 have c:(!es₀.any (·.key.isStr name)&&es₀.any (·.refKey))=false:=by
  rw[← Array.any_toList,← Array.any_toList]
  split at hl
  ·rename_i en he
   rw[List.any_eq_true.mpr ⟨en,List.mem_of_find?_eq_some he,List.find?_some he⟩];rfl
  ·split at hl
   ·cases hl
   ·rename_i z;rw[Bool.not_eq_true] at z;rw[z,Bool.and_false]
 rw[aRefKeyMayBeTheName_at,c]
 refine wpAny_updatePart hod ?_
 rw[e] at D'
 exact wpAny_bind (wpAny_lookBehind D' (by rw[e'];exact pastItsLine_dict (by rw[List.size_toArray,sizeLine_eq];exact Nat.le_trans hz (by decide))) (wpAny_pure (h _ (fun b hb=>Heap.get?_update_other _ _ (Ne.symm hb)) D')))
theorem at_setattr (hO:Ok C K G W d){e:Nat}{x:Str}{o v:V}{ov val:Value}{s:Shared}{ρ:List Addr}{st:St}(ho:VR C s.heap ρ o ov)(hv:VR C s.heap ρ v val):At C e env sc ns Un (Own env) (setAttr ov x val) (setAttrV W o x v) s ρ st:=.of fun A Q E X hA hS hw=>by
 cases o <;> first | exact hw.1.elim | skip
 obtain⟨a,rfl,ha⟩:=ho
 obtain⟨o,ho,h1⟩:=wpM_getOb.mp (wpM_bind.mp hw.1)
 cases o <;> first | exact h1.elim | skip
 rename_i c dn
 obtain⟨hfl,hw2⟩:=Rest.ite (⟨h1,hw.2⟩:Rest C env sc ns Un (Own env) Q E X _ s ρ st)
 obtain⟨o2,ho2,h2⟩:=wpM_getOb.mp (wpM_bind.mp hw2.1)
 cases o2 <;> first | exact h2.elim | skip
 rename_i fs
 obtain⟨hlen,hw3⟩:=Rest.ite (⟨h2,hw.2⟩:Rest C env sc ns Un (Own env) Q E X _ s ρ st)
 obtain⟨hlt,hq⟩:=wpM_setOb.mp hw3.1
 obtain⟨k,dx,es,n,hk,hdx,hI,hod,hn⟩:=hS.inv.inst ho ho2 ha
 obtain⟨hg,hh,_,hsa,hpo,htk⟩:=hO.fld c k x hk hfl
 have hdm:dx∈ρ:=List.mem_of_getElem? hdx
 have hnl:=ns_look (x:=x) hn
 have hsome:(lookIn x (dictOf es n)).isSome=true:=by
  rw[lookIn_dict]
  cases q:fs.lookup x with
  | none=>rw[q] at hnl;rw[hnl];rfl
  | some v'=>rw[q] at hnl;obtain⟨val',q1,_⟩:=hnl;rw[q1];rfl
 have hput:=ns_put (hsh:=PyData.keyHash C.w.params x) (key:=.str x (s.toks+1)) rfl hv hn
 have hsz:(PySem.W.putL x (PyData.keyHash C.w.params x) (.str x (s.toks+1)) val es).length≤1000:=by
  rw[ns_len hput]
  have:=setField_len x v fs
  exact Nat.le_trans this (Nat.le_trans (Nat.succ_le_succ hlen) (by decide))
 refine set_plain (hO.inH hS) hI hsa (set_own (s:={ s with toks:=s.toks+1 }) (hO.inH (hS.toks _)) hI rfl hpo htk hh hod hsome (by rw[putName_dict]) rfl hsz fun h' k1 k2=>?_)
 show Q () { s with heap:=h',toks:=s.toks+1+1 }
 have keep:∀ b o,b≠dx→s.heap.get? b=some o→h'.get? b=some o:=fun b o q1 q2=>(k1 b q1).trans q2
 have ex:Ext Nil s ρ { s with heap:=h',toks:=s.toks+1+1 } ρ:=Ext.put hdm keep k2
 refine hq _ _ ρ trivial ⟨hS.inv.put hdx keep ⟨_,_,k2,?_⟩,hS.frm.ext ex⟩ ex.nil
 simpa using hput.ext (ExtV.put (C:=C) hdm keep)
end
end Mine
namespace Mine
set_option backward.match.sparseCases false
open PySem PyProof.Rows PySem.W
section
variable {C:Cx}{d:Nat}{env:Env}{sc:Scope}{ns:List Str}{K:Frag}{G:GI}{W:Wd}
noncomputable def compE:Expr→Bool
 | .ListComp ..=>true
 | .SetComp ..=>true
 | .DictComp ..=>true
 | _=>false
theorem swaps_plain {e:Expr}{t:Option Expr}{n:Nat}(h:compE e=false):swapsWith e t n env=pure false:=by
 cases e <;> first | rfl | cases h
theorem swaps_attr {e o:Expr}{x:Str}{p:Pos}{n:Nat}:swapsWith e (some (.Attribute o x p)) n env=pure false:=by
 cases e <;> rfl
theorem swaps_tup {e:Expr}{ts:List Expr}{k:Nat}{p:Pos}{n:Nat}:swapsWith e (some (.Tuple ts k p)) n env=pure false:=by
 cases e <;> rfl
theorem stores_tup {e:Expr}{ts:List Expr}{k:Nat}{p:Pos}(h:isTupT e=false):swappedStores [.Tuple ts k p] e env=pure none:=by
 cases e <;> first | rfl | cases h
theorem snd_assignAttr (hO:Ok C K G W d){e:Nat}{o v:Expr}{x:Str}{p pos:Pos}{m mo:M V}(hv:SndE C e env sc ns v m)(ho:SndE C e env sc ns o mo):SndX C e env sc ns (.Assign [.Attribute o x p] v pos) (setAttrM W mo x m):=.of fun A s ρ st Q E X hA hS hw =>
 plainObj_wpAny_Assign_Attribute (hv.then hA hS hw fun w val s₁ ρ₁ st₁ r₁ S₁ e₁ hw₁=>ho.then hA S₁ hw₁ fun ov oval s₂ ρ₂ st₂ r₂ S₂ e₂ hw₂ =>
  (at_setattr hO r₂ (r₁.ext e₂.extN)).thenS hA S₂ hw₂ fun _ _ s₃ ρ₃ st₃ _ S₃ e₃ hw₃=>hw₃.1 _ _ _ rfl S₃ (.refl ..)) swaps_attr
theorem snd_assignTuple (hE:EnvOk env sc){e:Nat}{v:Expr}{ts:List Expr}{k:Nat}{p pos:Pos}{m:M V}{tg:Tg}(ht:TgtR sc ns (.Tuple ts k p) tg)(hn:isTupT v=false)(hv:SndE C e env sc ns v m):SndX C e env sc ns (.Assign [.Tuple ts k p] v pos) (assignM tg m):=.of fun A s ρ st Q E X hA hS hw =>
 Assign_Tuple (hv.then hA hS hw fun w val s₁ ρ₁ st₁ r₁ S₁ e₁ hw₁ =>
  (at_asg hE (fun _ q=>q) ht r₁ fun _ _ _ _ q=>q.own).thenS hA S₁ hw₁ fun _ _ s₂ ρ₂ st₂ _ S₂ e₂ hw₂=>hw₂.1 _ _ _ rfl S₂ (.refl ..)) (swaps_tup (env:=env) (e:=v) (ts:=ts) (k:=k) (p:=p) (n:=pos.line)) (stores_tup hn)
theorem AOk.create {x:Aux}{A:Around}(h:AOk x (d+1) A)(k:Addr)(vals:List Value):AOk2 x d (A.under (.builtin "type.__call__" ⟨.ref k::vals,[]⟩)) where
 depth:=by
  show A.depth+(Code.builtin "type.__call__" ⟨.ref k::vals,[]⟩).weight+3*d+4≤990
  have e:(Code.builtin "type.__call__" ⟨.ref k::vals,[]⟩).weight=1:=rfl
  rw[e];exact Nat.le_trans (Nat.le_of_eq (congrArg (·+4) (Nat.add_right_comm ..))) (Nat.le_trans (Nat.le_succ _) h.depth)
 units:=by
  show A.units+(Code.builtin "type.__call__" ⟨.ref k::vals,[]⟩).cUnits+100*d+250≤9900
  have e:(Code.builtin "type.__call__" ⟨.ref k::vals,[]⟩).cUnits=1:=rfl
  rw[e];exact Nat.le_trans (Nat.le_of_eq (congrArg (·+250) (Nat.add_right_comm ..))) (Nat.le_trans (Nat.le_add_right _ 49) h.units)
 handled:=h.handled
 exc:=h.exc
 guards:=by
  show pushGuards (Code.builtin "type.__call__" ⟨.ref k::vals,[]⟩).guards A.guards=_
  rw[h.guards];rfl
 frames:=by
  show pushEnvs (Code.builtin "type.__call__" ⟨.ref k::vals,[]⟩).envs A.frames=_
  rw[h.frames];rfl
theorem wpM_newR {c:Str}{vs:List V}{st:St}{Q:V→St→Prop}{X:Str→St→Prop}(h:wpM (newR W c vs) st Q X) :
  wpM (W.cf (.meth c (nm "__init__")) (.ref (st.obs.length+1)::vs)) { st with obs:=st.obs++[.ns []]++[.inst c st.obs.length] } (fun r st'=>r=.none∧Q (.ref (st.obs.length+1)) st') X:=by
 unfold newR at h
 rw[wpM_bind,wpM_alloc] at h
 dsimp only at h
 rw[wpM_bind,wpM_alloc,wpM_bind] at h
 simp only[List.length_append,List.length_singleton] at h
 refine wpM_mono h (fun r st' q=>?_) fun _ _ q=>q
 cases r <;> first | exact q.elim | exact⟨rfl,q⟩
theorem new_raw (hO:Ok C K G W d){c:Str}{k:Addr}(hk:C.mg c=some (.ref k))(hi:W.has c (nm "__init__")=true) {vs:List V} {vals:List Value} {s:Shared} {ρ:List Addr} {st:St} (hv:VRs C s.heap ρ vs vals) {A:Around} {Q:Value→Shared→Prop} {E:Value→Shared→Prop} {X:Str→St→Prop} (hA:AOk C.aux (d+1) A) (hS:State C env sc ns s ρ st)
  (hw:wpM (newR W c vs) st (fun v st'=>∀ val s' ρ',VR C s'.heap ρ' v val→State C env sc ns s' ρ' st'→Ext Nil s ρ s' ρ'→Q val s') X) (hX:∀ c st' x s' ρ',X c st'→RaisedN C s ρ st c st' x s' ρ'→E x s'):wpAny (model C.prog C.w) A (call (.ref k) vals) Q E s:=by
 have h1:=wpM_newR hw
 obtain⟨hkp,hmk,f,hf,hfn,hs⟩:=hO.new c k hk hi
 have g1:=Grows.push s.heap emptyDict
 have hD:s.heap.get? s.heap.objs.size=none:=fresh_none
 obtain⟨S₁,e₁,r₁⟩:=hS.made (tk:=s.toks) (o:=.ns []) g1 hD ⟨#[],0,Heap.get?_push_size _ rfl,rfl⟩
 have g2:=Grows.push (s.heap.push emptyDict) (instObj k s.heap.objs.size)
 have hD2:(s.heap.push emptyDict).get? (s.heap.objs.size+1)=none:=Heap.get?_none_of_le (by rw[Heap.size_push];exact Nat.le_refl _)
 have hget:((s.heap.push emptyDict).push (instObj k s.heap.objs.size)).get? (s.heap.objs.size+1)=some (instObj k s.heap.objs.size):=by
  have:=Heap.get?_push_size (s.heap.push emptyDict) (o:=instObj k s.heap.objs.size) rfl
  rw[Heap.size_push] at this;exact this
 obtain⟨S₂,e₂,r₂⟩:=S₁.made (tk:=s.toks) (o:=.inst c st.obs.length) (D:=s.heap.objs.size+1) g2 hD2 ⟨s.heap.objs.size,k,by
  have hl:=hS.inv.len
  rw[← hl];simp,hk,hget⟩
 obtain⟨hh,gg,dd,tt,oo⟩:=s
 refine wpAny_call (make_core (makes_of (hO.inK.keeps hS.inv.base) hmk) (looks_findIn (hO.inK.keeps hS.inv.base) hf) (fun self=>bind_fn (hO.inK.keeps hS.inv.base) self (beq_iff_eq.mp hfn)) (.inl rfl) ?_)
 have hall:=e₁.trans e₂
 refine codeAny_mono (hs env sc ns (.ref (st.obs.length+1)::vs) (.ref (hh.objs.size+1)::vals) _ _ _ ?_ _ (fun r s'=>r=.none∧Q (.ref (hh.objs.size+1)) s') E X (hA.create k vals) S₂ (wpM_mono h1 (fun r st' q val s' ρ' hr hS' he=>?_) fun _ _ q=>q) fun c' st' x s' ρ' hx ⟨e,N,r1,r2,r3,r4,r5⟩=>hX c' st' x s' ρ' hx ⟨e,N,r1,r2,r3,hall.trans r4,r5.back fun _ q=>hall.was q⟩) fun r s' z=>?_
 ·refine⟨_,_,rfl,?_,(hv.ext e₁.extN).ext e₂.extN⟩
  simpa using r₂
 ·obtain⟨rfl,q⟩:=q
  refine⟨hr,q _ s' ρ' ?_ hS' (hall.trans he)⟩
  have r₃:=r₂.ext he.extN
  simpa using r₃
 ·rcases r with e | (v | _ | _ | _) <;> first | exact z | exact z.elim
theorem newR_ref {c:Str}{vs:List V}{st st':St}{v:V}(h:newR W c vs st=.ok v st'):v=.ref (st.obs.length+1):=by
 have h1:wpM (newR W c vs) st (fun v' _=>v'=v) (fun _ _=>False):=by unfold wpM;rw[h]
 have h2:=wpM_newR h1
 unfold wpM at h2
 split at h2
 ·exact h2.2.symm
 ·exact h2.elim
 ·exact h2.elim
theorem wpM_newF {c:Str}{vs:List V}{st:St}{Q:V→St→Prop}{X:Str→St→Prop}(hz:W.frz c=true)(h:wpM (newC W c vs) st Q X) :
  wpM (newR W c vs) st (fun r st'=>r=.ref (st.obs.length+1)∧∃ v o,frzI c st.obs.length st'.obs=some v∧keepL st.obs st'.obs=some o∧Q v { st with obs:=o }) (fun c' st'=>∃ o,keepL st.obs st'.obs=some o∧X c' { st with obs:=o }):=by
 unfold newC at h
 rw[if_pos hz] at h
 unfold wpM newF at h
 unfold wpM
 cases hr:newR W c vs st with
 | ok r st' =>
  rw[hr] at h
  dsimp only at h ⊢
  refine⟨newR_ref hr,?_⟩
  cases h1:frzI c st.obs.length st'.obs with
  | none=>rw[h1] at h;exact h.elim
  | some v =>
   cases h2:keepL st.obs st'.obs with
   | none=>rw[h1,h2] at h;exact h.elim
   | some o=>rw[h1,h2] at h;exact⟨v,o,rfl,rfl,h⟩
 | exc c' st' =>
  rw[hr] at h
  dsimp only at h ⊢
  cases h2:keepL st.obs st'.obs with
  | none=>rw[h2] at h;exact h.elim
  | some o=>rw[h2] at h;exact⟨o,rfl,h⟩
 | stuck=>rw[hr] at h;exact h
theorem frzI_some {c:Str}{n:Nat}{o:List Ob}{v:V}(h:frzI c n o=some v):∃ fs,o[n]?=some (.ns fs)∧o[n+1]?=some (.inst c n)∧ltVs n (fs.map (·.2))=true∧v=.finst c (fs.map (·.1)) (fs.map (·.2)):=by
 unfold frzI at h
 split at h
 ·rename_i fs c' d h1 h2
  split at h
  ·rename_i hc
   obtain⟨rfl,rfl,hl⟩:=hc
   obtain rfl:=Option.some.inj h
   exact⟨fs,h1,h2,hl,rfl⟩
  ·cases h
 ·cases h
theorem Ext.drop {S:Addr→Prop}{s s':Shared}{ρ ρ':List Addr}(x:Ext S s ρ s' ρ'):Ext S s ρ s' ρ:=⟨⟨[],by simp⟩,fun b hb=>.inl hb,x.keep,x.alive,x.gens,x.drawn,x.os⟩
theorem at_new (hO:Ok C K G W d){c:Str}{k:Addr}(hk:C.mg c=some (.ref k))(hi:W.has c (nm "__init__")=true) {vs:List V} {vals:List Value} {s:Shared} {ρ:List Addr} {st:St} (hv:VRs C s.heap ρ vs vals):At C (d+1) env sc ns (VR C) Nil (call (.ref k) vals) (newC W c vs) s ρ st:=.of fun A Q E X hA hS hw=>by
 cases hz:W.frz c with
 | false =>
  have e:newC W c vs=newR W c vs:=by unfold newC;rw[hz];rfl
  rw[e] at hw
  exact new_raw hO hk hi hv hA hS hw.1 fun c st' x s' ρ' q r=>hw.2 c st' x s' ρ' q (r.to hS)
 | true =>
  refine new_raw hO hk hi hv hA hS (wpM_mono (wpM_newF hz hw.1) (fun r st' h val s' ρ' hr hS' he=>?_) fun _ _ q=>q) fun c' st' x s' ρ' ⟨o,q1,q2⟩ ⟨e,N,r1,r2,r3,r4,r5⟩=>let ⟨z1,z2,_⟩:=exc_drop hS.inv r3 r4 q1;hw.2 _ _ _ _ _ q2 (RaisedN.to (st:=st) ⟨e,N,r1,rfl,z1,z2,r5⟩ hS)
  obtain⟨rfl,v,o,h1,h2,hq⟩:=h
  obtain⟨fs,o1,o2,hl,rfl⟩:=frzI_some h1
  obtain⟨t,rfl⟩:=he.pre
  have I:=hS'.inv
  have hx:=he.drop
  obtain⟨a,rfl,ha⟩:=hr
  obtain⟨a',ha',da,k',q1,q2,q3⟩:=I.ob _ _ o2
  obtain rfl:=some_eq ha ha'
  obtain⟨dx,q4,ents,n,q5,q6⟩:=I.ob _ _ o1
  obtain rfl:=some_eq q1 q4
  have hn:=hS.inv.len
  obtain⟨w1,w2⟩:=ns_keys q6
  refine hq _ s' ρ ?_ ⟨hS.inv.keeps I h2,hS.frm.ext hx⟩ hx
  exact⟨a,da,ents,rfl,⟨k',n,q2,q3,q5⟩,⟨I.above (by exact Nat.le_succ_of_le (Nat.le_of_eq hn)) ha,I.above (by exact Nat.le_of_eq hn) q1⟩,w1,w2.move .drop (by rw[hn];exact hl)⟩
end
end Mine
namespace Mine
set_option backward.match.sparseCases false
open PySem PyProof.Rows PySem.W
section
variable {C:Cx}{d:Nat}{env:Env}{sc:Scope}{ns:List Str}{K:Frag}{G:GI}{W:Wd}
theorem wpM_enumV {v:V}{st:St}{Q:Src→St→Prop}{X:Str→St→Prop}(h:wpM (enumV v) st Q X):(∃ xs,v=.flist xs∧Q ⟨enumFrom 0 xs,[]⟩ st)∨∃ r xs,v=.ref r∧st.obs[r]?=some (.list xs)∧Q ⟨enumFrom 0 xs,[(r,.list xs)]⟩ st:=by
 cases v <;> first | exact h.elim | skip
 ·exact .inl ⟨_,rfl,h⟩
 ·obtain⟨xs,h1,h2⟩:=wpM_getList.mp (wpM_bind.mp h)
  exact .inr ⟨_,xs,rfl,h1,h2⟩
theorem src_enum (hh:C.aux.hot=none)(hO:Ok C K G W d)(hE:EnvOk env sc){e:Nat}{t x:Expr}{p pos:Pos}{m:M V}(ht:isTupT t=true)(hb:isBuiltin G sc (nm "enumerate") "enumerate" = true) (hx:starE x=false) (h:SndE C e env sc ns x m) :
  SrcSnd C e env sc ns t (.Call (.Name (nm "enumerate") p) [x] [] pos) (m.bind enumV):=by
 intro A s₀ ρ₀ st₀ Q E X hA hS₀ hw hX
 cases t <;> first | cases ht | skip
 rename_i elts k0 tp
 simp only[isBuiltin,Bool.and_eq_true,Bool.not_eq_true'] at hb
 obtain⟨⟨⟨⟨_,hgl⟩,hf⟩,hc⟩,hk⟩:=hb
 obtain⟨h1,h2⟩:=hO.cx.blt (nm "enumerate") (.type "enumerate") (by decide +kernel) hf hc hk
 refine wpAny_Call_Name_kw (load_blt hO.cx hE hS₀ hgl h1 h2 ?_)
 have ha:All2 (ArgR C e env sc ns) [x] [m]:=⟨⟨hx,h⟩,trivial⟩
 show wpAny _ _ (callWith pos (.type "enumerate") [] (backTo pos (starEach [x] env)) []) _ _ _
 rw[star_cons hx]
 refine callWith_type1 (h A s₀ ρ₀ st₀ _ E X hA hS₀ (wpM_mono (wpM_bind.mp hw) (fun v st₁ hw₁ val s₁ ρ₁ r₁ S₁ e₁=>?_) fun _ _ h=>h) hX)
 have hv:=wpM_enumV hw₁
 clear hw₁
 have hn1:s₁.heap.get? s₁.heap.objs.size=none:=fresh_none
 have hn2:s₁.heap.get? (s₁.heap.objs.size+1)=none:=Heap.get?_none_of_le (Nat.le_succ _)
 have fin:∀ {items:List V} {chk:List (Nat×Ob)} {ks:List V} {kx:List Value} {P:Nat→Heap→Prop} {h':Heap},IterOk C e (.Tuple elts k0 tp) items chk (.ref (s₁.heap.objs.size+1)) [s₁.heap.objs.size+1,s₁.heap.objs.size] P ρ₁ ks kx→VRs C s₁.heap ρ₁ ks kx→P 0 h'→Grows s₁.heap h' →
   (∀ it s' ρ' fp P ks kx,IterOk C e (.Tuple elts k0 tp) items chk it fp P ρ' ks kx→VRs C s'.heap ρ' ks kx→P 0 s'.heap→(∀ b:Addr,b∈fp→b∉ρ'∧s₀.heap.get? b=none∧C.base.get? b=none)→State C env sc ns s' ρ' st₁→Ext Nil s₀ ρ₀ s' ρ'→Q it s')→Q (.ref (s₁.heap.objs.size+1)) { s₁ with heap:=h' }:=fun {items chk ks kx P h'} hI hK hP g h1=>by
  refine h1 _ { s₁ with heap:=h' } ρ₁ _ _ _ _ hI (hK.ext (Grows.extV g ρ₁)) hP (fun b hb=>?_) (S₁.grows g s₁.toks) (e₁.trans (Ext.grows (t:=s₁.toks) g))
  have hb':s₁.heap.get? b=none:=by
   rcases List.mem_cons.mp hb with rfl | hb
   ·exact hn2
   ·cases mem_one hb;exact hn1
  exact⟨S₁.notIn hb',e₁.was hb',S₁.notB hb'⟩
 have ne3:s₁.heap.objs.size+1≠s₁.heap.objs.size:=Nat.succ_ne_self _
 have lst:∀ {a:Addr} {items:Array Value},s₁.heap.IsList a items→a≠s₁.heap.objs.size∧a≠s₁.heap.objs.size+1:=fun {a items} ⟨o,ho,_⟩=>⟨Nat.ne_of_lt (Heap.lt_size ho),Nat.ne_of_lt (Nat.lt_succ_of_lt (Heap.lt_size ho))⟩
 rcases hv with ⟨xs,rfl,h1⟩ | ⟨r,xs,rfl,hxs,h1⟩
 ·have hk:∃ a,val=.ref a:=let ⟨a,_,_,q,_,_,_⟩:=r₁;⟨a,q⟩
  obtain⟨a,rfl⟩:=hk
  obtain⟨items,hl,hvs⟩:=vr_flist r₁
  exact call_enumerate_list hl fun h' he hit hsz g=>wpAny_pyIter_enum he (fin (iter_enum hh ne3 (lst hl).1 (lst hl).2 fun _ hK _ _=>vr_flist (vrs_head hK).1) (ks:=[.flist xs]) (kx:=[.ref a]) ⟨_,_,rfl,r₁,rfl⟩ ⟨⟨_,he⟩,hit⟩ g h1)
 ·obtain⟨a,rfl,ha⟩:=r₁
  obtain⟨items,hl,hvs⟩:=S₁.inv.isList hxs ha
  exact call_enumerate_list hl fun h' he hit hsz g=>wpAny_pyIter_enum he (fin (iter_enum hh ne3 (lst hl).1 (lst hl).2 fun hI _ hpre hc=>by
   obtain⟨t,rfl⟩:=hpre
   exact hI.isList (hc (r,.list xs) (.head _)) (by rw[List.getElem?_append_left (List.getElem?_eq_some_iff.mp ha).1];exact ha)) vS0.mpr' ⟨⟨_,he⟩,hit⟩ g h1)
theorem snd_glob (hO:Ok C K G W d)(hE:EnvOk env sc){e:Nat}{x:Str}{pos:Pos}{v:V}(hg:isGlob sc x=true)(h:dGlob G x=some v):SndE C e env sc ns (.Name x pos) (constM v):=.of fun A s ρ st Q E X hA hS hw=>by
 unfold dGlob at h
 split at h
 ·rename_i w hw'
  cases h
  obtain⟨val,q1,q2⟩:=hO.cx.const x v hw'
  exact load_own hO.cx hE hS hg q1 (hw.1 _ _ _ (q2 _ _) hS (.refl ..))
 ·rename_i hn
  split at h
  ·rename_i hc
   obtain rfl:=Option.some.inj h
   obtain⟨a,q⟩:=hO.cx.cls x hc
   exact load_own hO.cx hE hS hg q (hw.1 _ _ _ (by exact⟨a,rfl,q⟩) hS (.refl ..))
  ·rename_i hc
   split at h
   ·cases h
   ·rename_i hf
    obtain⟨t,ht,rfl⟩:=Option.map_eq_some_iff.mp h
    have hb:bltTab.lookup x=some (.type t):=by
     have hm:=lookup_mem ht
     simp only[typeNames,List.mem_cons,List.not_mem_nil,or_false,Prod.mk.injEq] at hm
     rcases hm with ⟨rfl,rfl⟩ | ⟨rfl,rfl⟩ | ⟨rfl,rfl⟩ | ⟨rfl,rfl⟩ | ⟨rfl,rfl⟩ | ⟨rfl,rfl⟩ | ⟨rfl,rfl⟩ <;> decide +kernel
    obtain⟨h1,h2⟩:=hO.cx.blt x (.type t) hb (by simpa using hf) (by simpa using hc) (by rw[hn];rfl)
    exact load_blt hO.cx hE hS hg h1 h2 (hw.1 _ _ _ rfl hS (.refl ..))
theorem at_isi (hK:K.In C.base){e:Nat}{vs:List V}{vals:List Value}{s:Shared}{ρ:List Addr}{st:St}(hv:VRs C s.heap ρ vs vals):At C e env sc ns (VR C) Nil (call (.builtin "isinstance") vals) (fIsi vs) s ρ st:=.arg2 (f:=isi2) (T:=fun vs=>call (.builtin "isinstance") vs) hv fun v w x y hx hy=>by
 exact at_isiV hx hy
noncomputable def BOk (C:Cx)(K:Frag)(env:Env)(sc:Scope)(ns:List Str)(p:Str×Value×(List V→M V)):Prop:=Callable K p.2.1∧∀ {e:Nat} vs vals s ρ st,VRs C s.heap ρ vs vals→At C e env sc ns (VR C) Nil (call p.2.1 vals) (p.2.2 vs) s ρ st
theorem BOk.b {x:Str}{id:String}{f:List V→M V}(h:∀ {e:Nat} vs vals s ρ st,VRs C s.heap ρ vs vals→At C e env sc ns (VR C) Nil (call (.builtin id) vals) (f vs) s ρ st):BOk C K env sc ns (x,.builtin id,f):=⟨.inl ⟨_,rfl⟩,h⟩
theorem BOk.t {x:Str}{id:String}{f:List V→M V}(h:∀ {e:Nat} vs vals s ρ st,VRs C s.heap ρ vs vals→At C e env sc ns (VR C) Nil (call (.type id) vals) (f vs) s ρ st):BOk C K env sc ns (x,.type id,f):=⟨.inr (.inl ⟨_,rfl⟩),h⟩
theorem all_cons {α:Type}{P:α→Prop}{a:α}{l:List α}(h:P a)(k:∀ x∈l,P x):∀ x∈a::l,P x:=List.forall_mem_cons.mpr ⟨h,k⟩
theorem all_nil {α:Type}{P:α→Prop}:∀ x∈([]:List α),P x:=fun _ h=>(nomatch h)
theorem bTab_ok (hh:C.aux.hot=none)(hK:K.In C.base):∀ p∈bTab,BOk C K env sc ns p :=
 all_cons (.b fun _ _ _ _ _ hv=>at_len hv) <| all_cons (.b fun _ _ _ _ _ hv=>at_isi hK hv) <| all_cons (.t fun _ _ _ _ _ hv=>at_list hh hv) <| all_cons (.t fun _ _ _ _ _ hv=>at_range hv) <|
 all_cons (.t fun _ _ _ _ _ hv=>at_tupleOf hv) <|
 all_nil
theorem bTab_blt:(bTab.all fun p=>bltTab.lookup p.1==some p.2.1)=true:=by decide +kernel
theorem at_isE (hO:Ok C K G W d){e:Nat}{vs:List V}{vals:List Value}{s:Shared}{ρ:List Addr}{st:St}(hv:VRs C s.heap ρ vs vals):At C e env sc ns (VR C) Nil (call (.builtin "isinstance") vals) (fIsE W vs) s ρ st:=.arg2 (T:=fun vs=>call (.builtin "isinstance") vs) hv fun v w x y h1 h2=>.of fun A Q E X hA hS hw=>by
 obtain⟨c,rfl,hw1⟩:=wpM_asExc.mp (wpM_bind.mp hw.1)
 have at':∀ {c:Str} {v:Value},W.exn c=true→VR C s.heap ρ (.exc c) v→∃ a k,v=.ref a∧C.mg c=some (.ref k)∧ExcCls C K c k∧ExcAt a k s.heap:=fun {c v} hc r=>by
  obtain⟨a,o,rfl,ho,_,hi⟩:=r
  obtain⟨k,O⟩:=hO.exc c hc
  rcases hi with ⟨_,k',h1,h2⟩ | ⟨rfl,_⟩
  ·have h3:=O.own.bound
   rw[h1] at h3
   cases h3
   exact⟨a,k,rfl,h1,O,o,ho,h2⟩
  ·exact (hO.dct hc).elim
 have X0:=hO.inK.keeps hS.inv.base
 cases w with
 | own d' =>
  obtain⟨hc,hq⟩:=Rest.ite' hw1
  obtain⟨a,k,rfl,hk,O,hat⟩:=at' hc.1 h1
  obtain⟨l,rfl,hl⟩:=h2
  obtain⟨l',O'⟩:=hO.exc d' hc.2
  have hl':=O'.own.bound
  rw[hl] at hl'
  cases hl'
  have hs:=hO.exs c d' k l hc.1 hc.2 hk hl
  refine kia_one (exc_kit (a:=a) O) X0 ⟨hS.inv.base,hat⟩ (b:=W.sub c d') ?_ (by intro q;cases q) fun tk=>hq _ _ _ rfl (hS.toks tk) (.toks tk)
  unfold kitOne kitCls
  split
  ·rename_i q
   have e:k=l:=Value.ref.inj (beq_iff_eq.mp q)
   subst e
   have:subIn K (.ref k) (.ref k)=some true:=exc_self O
   rw[this] at hs
   exact hs
  ·dsimp only
   rw[if_pos (by rw[O'.typ.1,O'.typ.2];rfl)]
   exact hs
 | type t =>
  obtain⟨⟨hc,rfl⟩,hq⟩:=Rest.ite' hw1
  obtain⟨a,k,rfl,hk,O,hat⟩:=at' hc h1
  subst h2
  have hs:=hO.exv c k hc hk
  refine kia_one (exc_kit (a:=a) O) X0 ⟨hS.inv.base,hat⟩ (b:=W.sub c (nm "ValueError")) ?_ (by intro q;cases q) fun tk=>hq _ _ _ rfl (hS.toks tk) (.toks tk)
  unfold kitOne kitCls
  rw[if_neg (fun q=>by cases beq_iff_eq.mp q)]
  dsimp only
  rw[if_pos (by decide +kernel)]
  exact hs
 | _=>exact hw1.elim
theorem snd_callName (hO:Ok C K G W d)(hE:EnvOk env sc){x:Str}{p pos:Pos}{es:List Expr}{ms:List (M V)}(ha:All2 (ArgR C (d+1) env sc ns) es ms):OP (dCall W G sc x ms) fun m=>SndE C (d+1) env sc ns (.Call (.Name x p) es [] pos) m :=
 have blt:∀ {fv:Value} {f:List V→M V},isGlob sc x=true→G.fns.contains x=false→G.clss.contains x=false→(G.consts.lookup x).isSome=false→bltTab.lookup x=some fv→Callable K fv→(∀ vs vals s ρ st,VRs C s.heap ρ vs vals→At C (d+1) env sc ns (VR C) Nil (call fv vals) (f vs) s ρ st)→SndE C (d+1) env sc ns (.Call (.Name x p) es [] pos) (appM f ms):=fun hg hf hc hk h1 h2 h3=>.of fun A s ρ st Q E X hA hS hw =>
  have h:=hO.cx.blt x _ h1 hf hc (by rw[Option.isNone_iff_eq_none];exact Option.not_isSome_iff_eq_none.mp (by rw[hk];decide))
  wpAny_Call_Name_kw (load_blt hO.cx hE hS hg h.1 h.2 ((snd_callAny (fs:=[]) hO.inK h2 ha vS0.mpr' h3).go hA hS hw))
 have own:∀ {a:Addr} {f:List V→M V},isGlob sc x=true→C.mg x=some (.ref a)→keepIn K (.ref a)=true→(∀ vs vals s ρ st,VRs C s.heap ρ vs vals→At C (d+1) env sc ns (VR C) Nil (call (.ref a) vals) (f vs) s ρ st)→SndE C (d+1) env sc ns (.Call (.Name x p) es [] pos) (appM f ms):=fun hg h1 h2 h3=>.of fun A s ρ st Q E X hA hS hw =>
  wpAny_Call_Name_kw (load_own hO.cx hE hS hg h1 ((snd_callAny (fs:=[]) hO.inK (.inr (.inr h2)) ha vS0.mpr' h3).go hA hS hw))
 .ite fun hg=>.ite2 (fun hf=>.some (let ⟨_,q1,q2,q3,_⟩:=hO.fn x hf;own hg q1 q2 fun _ _ _ _ _ hv=>q3.at hv)) fun hf =>
 .ite2 (fun hc=>.ite fun hi=>.some (let ⟨_,q⟩:=hO.cx.cls x hc;own hg q (hO.new x _ q hi).1 fun _ _ _ _ _ hv=>at_new hO q hi hv)) fun hc =>
 .ite2 (fun _=>.none) fun hk =>
 .ite2 (fun _=>.ite fun hx=>.some (blt hg hf hc hk (by rw[eq_of_beq hx];decide +kernel) (.inl ⟨_,rfl⟩) fun _ _ _ _ _ hv=>at_isE hO hv)) fun hh =>
 (OP.self (bfun x)).map fun f h=>have hm:=lookup_mem h;have q:=bTab_ok (env:=env) (sc:=sc) (ns:=ns) (hO.hot hh) hO.inK _ hm;blt hg hf hc hk (beq_iff_eq.mp (List.all_eq_true.mp bTab_blt _ hm)) q.1 q.2
theorem isB_inv {x:Str}{n:String}(h:isBuiltin G sc x n=true):x=nm n∧isGlob sc x=true∧G.fns.contains x=false∧G.clss.contains x=false∧(G.consts.lookup x).isNone=true:=by
 simp only[isBuiltin,Bool.and_eq_true,Bool.not_eq_true'] at h
 exact⟨eq_of_beq h.1.1.1.1,h.1.1.1.2,h.1.1.2,h.1.2,h.2⟩
theorem dCall_list {x:Str}{l:List (M V)}(hb:isBuiltin G sc x "list" = true):OP (dCall W G sc x l) fun m=>W.hot=false∧m=appM fList l:=by
 obtain⟨rfl,h1,h2,h3,h4⟩:=isB_inv hb
 unfold dCall
 rw[if_pos h1,if_neg (by rw[h2];decide),if_neg (by rw[h3];decide),if_neg (by rw[Option.isNone_iff_eq_none.mp h4];decide)]
 refine .ite2 (fun _=>?_) fun q=>.some ⟨q,rfl⟩
 rw[if_neg (by decide +kernel)]
 exact .none
theorem snd_callList (hh:C.aux.hot=none)(hO:Ok C K G W d)(hE:EnvOk env sc){x:Str}{p pos:Pos}{es:List Expr}{ms:List (M V)}(ha:All2 (ArgR C (d+1) env sc ns) es ms)(hb:isBuiltin G sc x "list" = true):SndF C (d+1) env sc ns (eval (.Call (.Name x p) es [] pos) env) (appM fList ms):=fun A s ρ st Q E X hA hS hw hX=>by
 obtain⟨rfl,h1,h2,h3,h4⟩:=isB_inv hb
 obtain⟨q1,q2⟩:=hO.cx.blt (nm "list") (.type "list") (by decide +kernel) h2 h3 h4
 refine wpAny_Call_Name_kw (load_blt hO.cx hE hS h1 q1 q2 (callWith_any (K:=K) (.inr (.inl ⟨_,rfl⟩)) (args_plain ha) (evalArgs_any ha ((snd_args ha) A s ρ st _ E X hA hS (wpM_mono (wpM_bind.mp hw) (fun vs st₁ h₁ vals s₁ ρ₁ r₁ S₁ e₁=>⟨hO.inK.keeps S₁.inv.base,?_⟩) fun _ _ q=>q) hX))))
 rw[List.nil_append]
 exact (at_listF hh r₁) A Q E X hA S₁ (wpM_mono h₁ (fun v st' hq vs D s' ρ' hv F=>hq vs D s' ρ' hv (F.from e₁)) fun _ _ q=>q)
theorem snd_callRaw (hO:Ok C K G W d)(hE:EnvOk env sc){x:Str}{p pos:Pos}{es:List Expr}{ms:List (M V)}(ha:All2 (ArgR C (d+1) env sc ns) es ms)(hg:isGlob sc x=true)(hf:G.fns.contains x=true):SndE C (d+1) env sc ns (.Call (.Name x p) es [] pos) (appM (W.cf (.fnR x)) ms):=.of fun A s ρ st Q E X hA hS hw=>by
 obtain⟨a,q1,q2,_,q3⟩:=hO.fn x hf
 exact wpAny_Call_Name_kw (load_own hO.cx hE hS hg q1 ((snd_callAny (fs:=[]) hO.inK (.inr (.inr q2)) ha vS0.mpr' fun vs vals s ρ st hv=>q3.at hv).go hA hS hw))
end
end Mine
namespace Mine
set_option backward.match.sparseCases false
open PySem PyProof.Rows PySem.W
noncomputable def Ev.to (e:Expr):Ev→Expr
 | .name x p=>.Name x p
 | .tup es k p=>.Tuple es k p
 | .att o x p=>.Attribute o x p
 | .sub o i p=>.Subscript o i p
 | .call f as ks p=>.Call f as ks p
 | .con c k p=>.Constant c k p
 | .dict ks vs p=>.Dict ks vs p
 | .un op x p=>.UnaryOp op x p
 | .other=>e
theorem ev_to (e:Expr):(ev e).to e=e:=by cases e <;> rfl
theorem ev_is {e:Expr}{v:Ev}(h:ev e=v):e=v.to e:=by rw[← h,ev_to]
theorem nameIs_ok (e:Expr):OP (nameIs e) fun x=>∃ p,e=.Name x p:=by
 unfold nameIs
 cases h:ev e with
 | name x p=>exact .some ⟨p,ev_is h⟩
 | _=>exact .none
theorem isTup_ok {e:Expr}(h:isTupT e=true):∃ es k p,e=.Tuple es k p:=by
 unfold isTupT at h
 cases q:ev e with
 | tup es k p=>exact⟨es,k,p,ev_is q⟩
 | _=>rw[q] at h;cases h
theorem one1_ok {α:Type}:∀ l:List α,OP (one1 l) fun t=>l=[t]
 | []=>.none
 | t::r=>.ite fun h=>.some (by rw[List.isEmpty_iff.mp h])
theorem nonNil_ok {α:Type}:∀ l:List α,OP (nonNil l) fun p=>l=p.1::p.2
 | []=>.none
 | _::_=>.some rfl
theorem tgs_ok {sc:Scope}{ns:List Str}:∀ (es:List Expr),OP (namesOfT es) fun xs=>tnames es=xs∧(xs.all (isVar sc)=true→OP (idxAll ns xs) fun is=>TgR sc ns es is)
 | []=>.some ⟨rfl,fun _=>.some trivial⟩
 | e::es=>(nameIs_ok e).bind fun x ⟨p,h⟩=>(tgs_ok es).map fun xs k=>by
  subst h
  refine⟨congrArg (x::·) k.1,fun q=>?_⟩
  rw[List.all_cons,Bool.and_eq_true] at q
  exact (OP.self _).bind fun i hi=>(k.2 q.2).map fun is hs=>⟨⟨x,p,rfl,q.1,hi⟩,hs⟩
theorem dTg_ok {sc:Scope}{ns:List Str}(t:Expr):OP (dTg sc ns t) fun tg=>TgtR sc ns t tg:=by
 unfold dTg
 cases h:ev t with
 | name x p=>rw[ev_is h];exact .ite fun hv=>(OP.self _).map fun i hi=>⟨hv,hi⟩
 | tup es k p=>rw[ev_is h];exact (tgs_ok es).bind fun xs k=>.ite fun hv=>(k.2 hv).map fun is hs=>hs
 | _=>exact .none
theorem tname_ok (t:Expr):OP (tgNames t) fun xs=>∀ x∈tname t,x∈xs:=by
 unfold tgNames
 cases h:ev t with
 | name x p=>rw[ev_is h];exact .some fun x hx=>hx
 | tup es k p=>rw[ev_is h];exact fun xs q x hx=>(tgs_ok (sc:=default) (ns:=[]) es xs q).1▸hx
 | _=>exact .none
noncomputable def isSetE:Expr→Bool
 | .Set ..=>true
 | _=>false
theorem set_plain' {e:Expr}(h:isSetE e=false)(env:Env):∀ x,foldedSetIterable e env x=pure x:=by
 intro x
 cases e <;> first | rfl | cases h
section
variable {C:Cx}{d:Nat}{env:Env}{sc:Scope}{ns:List Str}{K:Frag}{G:GI}{W:Wd}
theorem mTab_ok:∀ p∈mTab,PickOk C K (d+1) env sc ns p.1 p.2 :=
 all_cons (pick_list PySem.F.slot_list_append rfl fun vs vals s ρ st hv=>at_append hv) <| all_cons (pick_str PySem.F.slot_str_count rfl fun vs vals s ρ st hv=>at_count hv) <| all_cons (pick_str PySem.F.slot_str_join rfl fun vs vals s ρ st hv=>at_join hv) <| all_cons (pick_list PySem.F.slot_list_extend rfl fun vs vals s ρ st hv=>at_extend hv) <| all_cons (pick_list PySem.F.slot_list_pop rfl fun vs vals s ρ st hv=>at_pop hv) <| all_cons (pick_str PySem.F.slot_str_upper rfl fun vs vals s ρ st hv=>at_upper hv) <|
 all_cons pick_index <|
 all_nil
theorem pickO_ok (hO:Ok C K G W d)(x:Str):PickOk C K (d+1) env sc ns x (pickO W x)∧PickOk C K (d+1) env sc ns x (pickR W x):=by
 have key:∀ c k f,C.mg c=some (.ref k)→W.has c x=true→findIn K (.ref k) x=some (some (.ref f))→FSnd C d f (W.cf (.meth c x))∧FSnd C d f (W.cf (.methR c x)):=fun c k f h1 h2 h3=>by
  obtain⟨_,f',h4,_,_,h5⟩:=hO.meth c k x h1 h2
  rw[h3] at h4
  cases h4
  exact h5
 exact⟨pick_own hO _ fun c k f h1 h2 h3=>(key c k f h1 h2 h3).1,pick_own hO _ fun c k f h1 h2 h3=>(key c k f h1 h2 h3).2⟩
theorem pickM_ok (hO:Ok C K G W d)(x:Str):PickOk C K (d+1) env sc ns x (pickM W x):=by
 unfold pickM
 cases h:mTab.lookup x with
 | none=>exact (pickO_ok hO x).1
 | some f=>exact mTab_ok (x,f) (lookup_mem h)
noncomputable def OptR' (C:Cx)(d:Nat)(env:Env)(sc:Scope)(ns:List Str)(e:Option Expr)(m:Option (Option (M V))):Prop:=OP m (OptR C d env sc ns e)
noncomputable def ShOk (C:Cx)(d:Nat)(env:Env)(sc:Scope)(ns:List Str)(e:Expr):Sh→Prop
 | .other=>True
 | .name x=>∃ p,e=.Name x p
 | .att m x ap=>∃ o,e=.Attribute o x ap∧(∀ x,attributeBase o x env (eval o env)=eval o env∨m=none)∧OP m (SndE C d env sc ns o)
 | .slice l h st=>∃ lo hi p,e=.Slice lo hi st p∧OP l (OptR C d env sc ns lo)∧OP h (OptR C d env sc ns hi)
 | .call x l=>∃ p es pos,e=.Call (.Name x p) es [] pos∧OP l (All2 (ArgR C d env sc ns) es)
 | .meth m x l=>∃ o es ap pos,e=.Call (.Attribute o x ap) es [] pos∧(∀ x,attributeBase o x env (eval o env)=eval o env∨m=none)∧(es.length<29∧(ap.endLine==pos.line)=true)∧OP m (SndE C d env sc ns o)∧OP l (All2 (ArgR C d env sc ns) es)
structure DnOk (C:Cx)(d:Nat)(env:Env)(sc:Scope)(ns:List Str)(e:Expr)(D:Dn):Prop where
 v:OP D.v fun m=>ArgR C d env sc ns e m
 b:OP D.b (SndB C d env sc ns e)
 s:OP D.s fun m=>∀ t,C.aux.hot=none→isTupT t=true→SrcSnd C d env sc ns t e m
 f:D.fr=true→OP D.v (SndF C d env sc ns (eval e env))
 a:OP D.v fun m=>∀ own x p pos i,(own=true→D.fr=true)→EnvOk env sc→isVar sc x=true→idxLast ns x=some i→SndX C d env sc ns (.Assign [.Name x p] e pos) (assignM (.var i) (ownM own m))
 bs:D.bs=true→∀ x,attributeBase e x env (eval e env)=eval e env
 st:isSetE e=true→D.v=none∧D.s=none
 sh:ShOk C d env sc ns e D.sh
structure Pl (env:Env)(e:Expr):Prop where
 star:starE e=false
 set:isSetE e=false
 comp:compE e=false
theorem DnOk.none {e:Expr}{sh:Sh}(h:ShOk C d env sc ns e sh):DnOk C d env sc ns e (.none sh):=⟨.none,.none,.none,fun q=>(nomatch q),.none,fun q=>(nomatch q),fun _=>⟨rfl,rfl⟩,h⟩
theorem asg_of {e:Expr}{m:Option (M V)}{fr:Bool}(hc:compE e=false)(h:OP m (SndE C d env sc ns e))(hf:fr=true→OP m (SndF C d env sc ns (eval e env))):OP m fun m=>∀ own x p pos i,(own=true→fr=true)→EnvOk env sc→isVar sc x=true→idxLast ns x=some i→SndX C d env sc ns (.Assign [.Name x p] e pos) (assignM (.var i) (ownM own m)):=fun m q own x p pos i ho hE hx hi =>
 snd_assignName hE (match own,ho with | false,_=>h m q | true,ho=>(hf (ho rfl) m q).own) hx hi (swaps_plain hc)
theorem DnOk.of {e:Expr}{m:Option (M V)}{fr bs:Bool}{sh:Sh}(P:Pl env e)(he:isTrue e env (eval e env)=(do let v ← eval e env;standAt e.pos;holding [v] (truthy v)))(hb:bs=true→∀ x,attributeBase e x env (eval e env)=eval e env)(hsh:ShOk C d env sc ns e sh)(h:OP m (SndE C d env sc ns e))(hf:fr=true→OP m (SndF C d env sc ns (eval e env))):DnOk C d env sc ns e (.of m fr bs sh) :=
 ⟨fun m q=>⟨P.star,h m q⟩,OP.map h fun a ha=>sndB_value ha he,OP.map h fun a ha t hh _=>src_value hh ha,hf,asg_of P.comp h hf,hb,(fun q=>by exact bool_no q P.set),hsh⟩
theorem DnOk.of0 {e:Expr}{m:Option (M V)}(P:Pl env e)(he:isTrue e env (eval e env)=(do let v ← eval e env;standAt e.pos;holding [v] (truthy v)))(hb:∀ x,attributeBase e x env (eval e env)=eval e env)(h:OP m (SndE C d env sc ns e)):DnOk C d env sc ns e (.of m) :=
 .of P he (fun _=>hb) trivial h fun q=>(nomatch q)
theorem DnOk.set {e:Expr}{D:Dn}(h:DnOk C d env sc ns e D){m:M V}(q:D.v=some m):isSetE e=false:=by
 cases z:isSetE e with
 | false=>rfl
 | true=>exact no_eq q ((h.st z).1)
theorem allV_args:∀ {es:List Expr} {Ds:List Dn},All2 (DnOk C d env sc ns) es Ds→OP (allV Ds) fun l=>All2 (ArgR C d env sc ns) es l∧es.any isSetE=false
 | [],[],_=>.some ⟨trivial,rfl⟩
 | e::es,D::Ds,h=>OP.bind (OP.self D.v) fun m q=>(allV_args h.2).map fun l k=>⟨⟨h.1.v m q,k.1⟩,by rw[List.any_cons,h.1.set q,k.2];rfl⟩
 | [],_::_,h=>h.elim
 | _::_,[],h=>h.elim
theorem args_E:∀ {es:List Expr} {l:List (M V)},All2 (ArgR C d env sc ns) es l→All2 (SndE C d env sc ns) es l
 | [],[],_=>trivial
 | _::_,_::_,h=>⟨h.1.2,args_E h.2⟩
 | [],_::_,h=>h.elim
 | _::_,[],h=>h.elim
theorem allB_ok:∀ {es:List Expr} {Ds:List Dn},All2 (DnOk C d env sc ns) es Ds→OP (allB Ds) fun l=>All2 (SndB C d env sc ns) es l
 | [],[],_=>.some trivial
 | e::es,D::Ds,h=>h.1.b.bind fun m q=>(allB_ok h.2).map fun l k=>⟨q,k⟩
 | [],_::_,h=>h.elim
 | _::_,[],h=>h.elim
theorem zip_ok:∀ {ops:List CmpOp} {es:List Expr} {ms:List (M V)},All2 (ArgR C d env sc ns) es ms→OP (zipOps ops ms) fun r=>ChainR C d env sc ns ops es r
 | [],es,ms,ha=>.ite fun h=>.some (by
  cases List.isEmpty_iff.mp h
  cases es with
  | nil=>exact trivial
  | cons _ _=>exact ha.elim)
 | o::ops,es,ms,ha=>(nonNil_ok ms).bind fun p h=>by
  subst h
  cases es with
  | nil=>exact ha.elim
  | cons e es=>exact (zip_ok ha.2).map fun r k=>⟨rfl,ha.1.2,k⟩
theorem marks_one {o:CmpOp}{e:Expr}(h:isSetE e=false):behindInMarks o e=false:=by
 cases e <;> first | rfl | cases h
theorem marks_ok:∀ {ops:List CmpOp} {es:List Expr},es.any isSetE=false→lastMarks ops es=false
 | [],[],_=>rfl
 | [],_::_,_=>rfl
 | [o],[],_=>rfl
 | [o],[e],h=>marks_one (by simpa using h)
 | [o],e::e'::es,h=>rfl
 | o::o'::ops,[],_=>rfl
 | o::o'::ops,[e],_=>marks_ok (ops:=o'::ops) (es:=[]) rfl
 | o::o'::ops,e::e'::es,h=>marks_ok (ops:=o'::ops) (es:=e'::es) (by rw[List.any_cons,Bool.or_eq_false_iff] at h;exact h.2)
theorem src_ok {hot:Bool}{t it:Expr}{D:Dn}(hh:hot=false→C.aux.hot=none)(h:DnOk C d env sc ns it D):OP (srcH hot (isTupT t) D) fun s=>SrcSnd C d env sc ns t it s∧isSetE it=false :=
 .ite2 (fun _=>OP.map (OP.self D.v) fun m q=>⟨src_flist (h.v m q).2,h.set q⟩) fun hc=>.ite2 (fun ht=>fun s q=>⟨h.s s q t (hh hc) ht,by
  cases z:isSetE it with
  | false=>rfl
  | true=>exact no_eq q ((h.st z).2)⟩) fun _=>OP.map (OP.self D.v) fun m q=>⟨src_value (hh hc) (h.v m q).2,h.set q⟩
end
end Mine
namespace Mine
set_option backward.match.sparseCases false
open PySem PyProof.Rows PySem.W
section
variable {C:Cx}{d:Nat}{K:Frag}{G:GI}{W:Wd}
noncomputable def DnA (C:Cx)(G:GI)(W:Wd)(d:Nat)(e:Expr):Prop:=∀ f env sc ns,EnvOk env sc→DnOk (C.at f) (d+1) env sc ns e (dn W G sc ns e)
noncomputable def DnsA (C:Cx)(G:GI)(W:Wd)(d:Nat)(es:List Expr):Prop:=∀ f env sc ns,EnvOk env sc→All2 (DnOk (C.at f) (d+1) env sc ns) es (dns W G sc ns es)
theorem DnA.none {e:Expr}(h:∀ sc ns,dn W G sc ns e=.none):DnA C G W d e:=fun f env sc ns hE=>by rw[h];exact .none trivial
theorem dk_const {c:Const}{k:Nat}{p:Pos}:DnA C G W d (.Constant c k p):=fun f env sc ns hE=>.of0 ⟨rfl,rfl,rfl⟩ rfl (fun _=>rfl) ((OP.self _).map fun v h=>snd_const h)
theorem dk_name (hO:∀ f,Ok (C.at f) K G W d){x:Str}{p:Pos}:DnA C G W d (.Name x p):=fun f env sc ns hE=>.of ⟨rfl,rfl,rfl⟩ rfl (fun _ _=>rfl) ⟨p,rfl⟩
 (.ite2 (fun hg=>(OP.self _).map fun v h=>snd_glob (hO f) hE hg h) fun _=>.ite fun hv=>(OP.self _).map fun i h=>snd_var hE hv h) fun q=>(nomatch q)
theorem DnOk.test {env:Env}{sc:Scope}{ns:List Str}{e:Expr}{v:Option (M V)}{b:Option (M Bool)}(P:Pl env e)(hb:∀ x,attributeBase e x env (eval e env)=eval e env)(h1:OP v (SndE C d env sc ns e))(h2:OP b (SndB C d env sc ns e)):DnOk C d env sc ns e ⟨v,b,Option.none,false,true,.other⟩ :=
 ⟨fun m q=>⟨P.star,h1 m q⟩,h2,.none,fun q=>(nomatch q),asg_of P.comp h1 fun q=>(nomatch q),fun _=>hb,(fun q=>by rw[P.set] at q;cases q),trivial⟩
theorem ne_nil {es:List Expr}(h:es.isEmpty=false):es≠[]:=fun q=>by rw[q] at h;cases h
theorem dk_bool {op:BoolOp}{es:List Expr}{p:Pos}(I:DnsA C G W d es):DnA C G W d (.BoolOp op es p):=fun f env sc ns hE=>by
 have ih:=I f env sc ns hE
 cases op with
 | And=>exact .test ⟨rfl,rfl,rfl⟩ (fun _=>rfl) (.ite2 (fun _=>.none) fun h=>(allV_args ih).map fun l k=>snd_and (ne_nil h) (args_E k.1)) ((allB_ok ih).map fun l k=>sndB_and k)
 | Or=>exact .test ⟨rfl,rfl,rfl⟩ (fun _=>rfl) (.ite2 (fun _=>.none) fun h=>(allV_args ih).map fun l k=>snd_or (ne_nil h) (args_E k.1)) ((allB_ok ih).map fun l k=>sndB_or k)
theorem snd_mulF {env:Env}{sc:Scope}{ns:List Str}{l r:Expr}{pos:Pos}{a b:M V}(hl:SndF C d env sc ns (eval l env) a)(hr:SndE C d env sc ns r b):SndF C d env sc ns (eval (.BinOp l .Mult r pos) env) (binM .Mult a b):=fun A s ρ st Q E X hA hS hw hX=>by
 refine wpAny_BinOp (hl A s ρ st _ E X hA hS (wpM_mono (wpM_bind.mp hw) (fun x st₁ h₁ vs D s₁ ρ₁ hv F=>?_) fun _ _ q=>q) hX)
 subst hv
 obtain⟨S₁,r₁⟩:=F.val hS.frm.off
 refine hr A s₁ ρ₁ st₁ _ E X hA S₁ (wpM_mono (wpM_bind.mp h₁) (fun y st₂ h₂ vy s₂ ρ₂ r₂ S₂ e₂=>?_) fun _ _ q=>q) fun c st' x s' ρ' q r=>hX c st' x s' ρ' q (r.trans F.ext fun _ z=>z.elim)
 obtain⟨i,rfl,h3⟩:=wpM_asInt.mp (wpM_bind.mp (show wpM ((asInt y).bind fun i=>mulL vs i) st₂ _ _ from h₂))
 obtain⟨u,rfl⟩:=r₂
 obtain⟨hl',h4⟩:=Rest.ite' h3
 exact mul_any (r₁.ext e₂.extN) hl' fun h' D' items g hD ho hv=>h4 _ D' _ ρ₂ rfl ((S₂.fresh (tk:=s₂.toks) g hD ho hv).from (F.ext.trans e₂))
theorem snd_addF {env:Env}{sc:Scope}{ns:List Str}{l r:Expr}{pos:Pos}{a b:M V}(hl:SndF C d env sc ns (eval l env) a)(hr:SndE C d env sc ns r b):SndF C d env sc ns (eval (.BinOp l .Add r pos) env) (binM .Add a b):=fun A s ρ st Q E X hA hS hw hX=>by
 refine wpAny_BinOp (hl A s ρ st _ E X hA hS (wpM_mono (wpM_bind.mp hw) (fun x st₁ h₁ vs D s₁ ρ₁ hv F=>?_) fun _ _ q=>q) hX)
 subst hv
 obtain⟨S₁,r₁⟩:=F.val hS.frm.off
 refine hr A s₁ ρ₁ st₁ _ E X hA S₁ (wpM_mono (wpM_bind.mp h₁) (fun y st₂ h₂ vy s₂ ρ₂ r₂ S₂ e₂=>?_) fun _ _ q=>q) fun c st' x s' ρ' q r=>hX c st' x s' ρ' q (r.trans F.ext fun _ z=>z.elim)
 exact concat_any (x:=.flist vs) S₂.inv (r₁.ext e₂.extN) r₂ h₂ fun h' D' items zs hq g hD ho hv=>hq _ D' _ ρ₂ rfl ((S₂.fresh (tk:=s₂.toks) g hD ho hv).from (F.ext.trans e₂))
theorem fresh_bin {env:Env}{sc:Scope}{ns:List Str}{l r:Expr}{op:Operator}{pos:Pos}{a b:M V}(h:addMul op=true)(hl:SndF C d env sc ns (eval l env) a)(hr:SndE C d env sc ns r b):SndF C d env sc ns (eval (.BinOp l op r pos) env) (binM op a b):=by
 cases op <;> first
  | (cases h;done)
  | exact snd_addF hl hr
  | exact snd_mulF hl hr
theorem dk_bin {l r:Expr}{op:Operator}{p:Pos}(I:DnA C G W d l)(J:DnA C G W d r):DnA C G W d (.BinOp l op r p):=fun f env sc ns hE =>
 have ihr:=(J f env sc ns hE).v
 .of ⟨rfl,rfl,rfl⟩ rfl (fun _ _=>rfl) trivial ((I f env sc ns hE).v.bind fun a ha=>ihr.map fun b hb=>snd_bin ha.2 hb.2 fun x y vx vy s ρ st q1 q2=>at_bin q1 q2)
  fun q=>have q:=Bool.and_eq_true_iff.mp q;((I f env sc ns hE).f q.1).bind fun a ha=>ihr.map fun b hb=>fresh_bin q.2 ha hb.2
theorem dk_un {op:UnaryOp}{x:Expr}{p:Pos}(I:DnA C G W d x):DnA C G W d (.UnaryOp op x p):=fun f env sc ns hE=>by
 have ih:=I f env sc ns hE
 cases op with
 | Not=>exact .test ⟨rfl,rfl,rfl⟩ (fun _=>rfl) (ih.v.map fun a ha=>snd_not ha.2) (ih.b.map fun a ha=>sndB_not ha)
 | USub=>exact .of0 ⟨rfl,rfl,rfl⟩ rfl (fun _=>rfl) (ih.v.map fun a ha=>snd_neg ha.2)
 | Invert=>exact .none trivial
 | UAdd=>exact .none trivial
theorem dk_ife {t a b:Expr}{p:Pos}(I:DnA C G W d t)(J:DnA C G W d a)(L:DnA C G W d b):DnA C G W d (.IfExp t a b p):=fun f env sc ns hE =>
 .test ⟨rfl,rfl,rfl⟩ (fun _=>rfl) ((I f env sc ns hE).b.bind fun mt h1=>(J f env sc ns hE).v.bind fun ma h2=>(L f env sc ns hE).v.map fun mb h3=>snd_ife h1 h2.2 h3.2) .none
theorem dk_list {es:List Expr}{p:Pos}(I:DnsA C G W d es):DnA C G W d (.List es p):=fun f env sc ns hE =>
 have key:=OP.ite (c:=decide (es.length≤64)) fun _=>(allV_args (I f env sc ns hE)).map (f:=listM) (P:=SndF (C.at f) (d+1) env sc ns (eval (.List es p) env)) fun l k=>snd_list k.1
 .of ⟨rfl,rfl,rfl⟩ rfl (fun _ _=>rfl) trivial (fun m q=>(key m q).val) fun _=>key
theorem dk_tup {es:List Expr}{k:Nat}{p:Pos}(I:DnsA C G W d es):DnA C G W d (.Tuple es k p):=fun f env sc ns hE=>.of0 ⟨rfl,rfl,rfl⟩ rfl (fun _=>rfl)
 (.ite fun _=>(allV_args (I f env sc ns hE)).map fun l k=>snd_tuple k.1)
structure GenOk (C:Cx)(G:GI)(W:Wd)(d:Nat)(env:Env)(sc:Scope)(ns:List Str)(cs:Scope)(g:GenD)(it:Expr)(ifs:List Expr):Prop where
 it:DnOk C d env sc ns it g.it
 len:g.n=ifs.length
 ifs:∀ f xs cenv,EnvOk cenv cs→All2 (DnOk (C.at f) d cenv cs (ns++xs)) ifs (g.ifs xs)
noncomputable def DgA (C:Cx)(G:GI)(W:Wd)(d:Nat)(gens:List Comprehension):Prop:=∀ f env sc ns cs,EnvOk env sc→OP (dnG W G sc ns cs gens) fun g=>∃ it ifs,gens=[⟨g.t,it,ifs,0⟩]∧GenOk (C.at f) G W (d+1) env sc ns cs g it ifs
noncomputable def DcA (C:Cx)(G:GI)(W:Wd)(d:Nat)(g:Comprehension):Prop:=∀ f env sc ns cs,EnvOk env sc→OP (dnC W G sc ns cs g) fun D=>∃ it ifs,g=⟨D.t,it,ifs,0⟩∧GenOk (C.at f) G W (d+1) env sc ns cs D it ifs
theorem dg_cons {g:Comprehension}{r:List Comprehension}(I:DcA C G W d g):DgA C G W d (g::r):=fun f env sc ns cs hE=>.ite fun h=>fun D q=>let ⟨it,ifs,h1,h2⟩:=I f env sc ns cs hE D q;⟨it,ifs,by rw[h1,List.isEmpty_iff.mp h],h2⟩
theorem dc_mk {t it:Expr}{ifs:List Expr}{a:Int}(I:DnA C G W d it)(J:DnsA C G W d ifs):DcA C G W d ⟨t,it,ifs,a⟩:=fun f env sc ns cs hE=>.ite fun h=>.some ⟨it,ifs,by rw[beq_iff_eq.mp h],I f env sc ns hE,rfl,fun g xs cenv hc=>J g cenv _ _ hc⟩
theorem dk_comp (hO:∀ f,Ok (C.at f) K G W d){elt:Expr}{gens:List Comprehension}{cs:Scope}{p:Pos}(I:DgA C G W d gens)(L:DnA C G W d elt):DnA C G W d (.ListComp elt gens cs p):=fun f env sc ns hE=>by
 have key:OP (dComp W sc ns cs (dnG W G sc ns cs gens) fun xs=>dn W G cs (ns++xs) elt) fun m=>SndF (C.at f) (d+1) env sc ns (eval (.ListComp elt gens cs p) env) m∧∀ own x q pos i,isVar sc x=true→idxLast ns x=some i→SndX (C.at f) (d+1) env sc ns (.Assign [.Name x q] (.ListComp elt gens cs p) pos) (assignM (.var i) (ownM own m)) :=
  (I f env sc ns cs hE).bind fun g ⟨it,ifs,hg,k⟩=>(tname_ok g.t).bind fun xs hxs=>.ite fun q=>by
   rw[Bool.and_eq_true,decide_eq_true_eq,k.len] at q
   subst hg
   refine (src_ok (hO f).hot k.it).bind fun s hs=>(dTg_ok g.t).bind fun tg ht=>(OP.self (allB (g.ifs xs))).bind fun mc hc=>(OP.self (dn W G cs (ns++xs) elt).v).map fun me he=>?_
   have h1:=comp_good q.1
   have h2:=set_plain' hs.2 env
   have h3:∀ g' cenv,EnvOk cenv cs→All2 (SndB ((C.at f).at g') (d+1) cenv cs (ns++xs)) ifs mc:=fun g' cenv z=>allB_ok (k.ifs g' xs cenv z) mc hc
   have h4:∀ g' cenv,EnvOk cenv cs→SndE ((C.at f).at g') (d+1) cenv cs (ns++xs) elt me:=fun g' cenv z=>((L g' cenv cs (ns++xs) z).v me he).2
   exact⟨snd_comp hE h1 ht hxs hs.1 h2 q.2 h3 h4,fun own x p' pos i hx hi=>snd_assignComp hE h1 hx hi ht hxs hs.1 h2 q.2 h3 h4 own⟩
 have hv:OP (dComp W sc ns cs (dnG W G sc ns cs gens) fun xs=>dn W G cs (ns++xs) elt) (SndE (C.at f) (d+1) env sc ns (.ListComp elt gens cs p)):=fun m q=>(key m q).1.val
 exact⟨fun m q=>⟨rfl,hv m q⟩,OP.map hv fun a ha=>sndB_value ha rfl,OP.map hv fun a ha t hh _=>src_value hh ha,fun _ m q=>(key m q).1,fun m q own x p pos i _ _ hx hi=>(key m q).2 own x p pos i hx hi,fun _ _=>rfl,fun q=>(nomatch q),trivial⟩
theorem dk_cmp (hO:∀ f,Ok (C.at f) K G W d){l:Expr}{ops:List CmpOp}{cs:List Expr}{p:Pos}(I:DnA C G W d l)(J:DnsA C G W d cs):DnA C G W d (.Compare l ops cs p):=fun f env sc ns hE =>
 have key:OP (dCmp (dn W G sc ns l) ops (dns W G sc ns cs)) fun m=>SndB (C.at f) (d+1) env sc ns (.Compare l ops cs p) m∧SndE (C.at f) (d+1) env sc ns (.Compare l ops cs p) (boolV m) :=
  (I f env sc ns hE).v.bind fun a ha=>(allV_args (J f env sc ns hE)).bind fun bs hb=>(zip_ok hb.1).bind fun r hr=>(nonNil_ok r).map fun q hq=>by
   subst hq
   exact⟨sndB_cmp (cmp_snd) ha.2 hr (List.cons_ne_nil _ _) (marks_ok hb.2),snd_cmp (cmp_snd) ha.2 hr (List.cons_ne_nil _ _) (marks_ok hb.2)⟩
 .test ⟨rfl,rfl,rfl⟩ (fun _=>rfl) (OP.map key fun m k=>k.2) fun m q=>(key m q).1
theorem dk_calls (hO:∀ f,Ok (C.at f) K G W d){fn:Expr}{as:List Expr}{ks:List Keyword}{p:Pos}(I:DnA C G W d fn)(J:DnsA C G W d as):DnA C G W d (.Call fn as ks p):=fun f env sc ns hE=>by
 have ih:=J f env sc ns hE
 have hs:=(I f env sc ns hE).sh
 show DnOk _ _ _ _ _ _ (dCalls W G sc (allV (dns W G sc ns as)) ks.isEmpty as.length p (dn W G sc ns fn).sh)
 cases q:(dn W G sc ns fn).sh with
 | att m x ap =>
  rw[q] at hs
  obtain⟨o,rfl,hb,ho⟩:=hs
  show DnOk _ _ _ _ _ _ (if ks.isEmpty&&((ap.endLine==p.line)&&decide (as.length<29)) then .of (m.bind fun m=>(allV (dns W G sc ns as)).map fun l=>methM (pickM W x) m l) false true (.meth m x (allV (dns W G sc ns as))) else .none)
  cases hc:ks.isEmpty&&((ap.endLine==p.line)&&decide (as.length<29)) with
  | false=>exact .none trivial
  | true =>
   rw[Bool.and_eq_true,Bool.and_eq_true,decide_eq_true_eq] at hc
   cases List.isEmpty_iff.mp hc.1
   exact .of ⟨rfl,rfl,rfl⟩ rfl (fun _ _=>rfl) ⟨o,as,ap,p,rfl,hb,⟨hc.2.2,hc.2.1⟩,ho,fun l q=>(allV_args ih l q).1⟩ (OP.bind (OP.self m) fun mo hm=>(allV_args ih).map fun l k=>snd_methodCall (hO f).inK (fun x=>(hb x).resolve_right (by rw[hm];exact Option.some_ne_none _)) hc.2.2 hc.2.1 (ho mo hm) k.1 (pickM_ok (hO f) x)) fun q=>(nomatch q)
 | name x =>
  rw[q] at hs
  obtain⟨np,rfl⟩:=hs
  cases ks with
  | cons _ _=>exact .none trivial
  | nil =>
   show DnOk _ _ _ _ _ _ (if isBuiltin G sc x "enumerate" then ⟨Option.none,Option.none,((allV (dns W G sc ns as)).bind one1).map fun m=>m.bind enumV,false,false,.other⟩ else .of ((allV (dns W G sc ns as)).bind (dCall W G sc x)) (isBuiltin G sc x "list") (decide (0<as.length)) (.call x (allV (dns W G sc ns as))))
   cases hb:isBuiltin G sc x "enumerate" with
   | true =>
    refine⟨.none,.none,?_,fun q=>(nomatch q),.none,fun q=>(nomatch q),fun q=>(nomatch q),trivial⟩
    exact OP.map (A:=fun m=>All2 (ArgR (C.at f) (d+1) env sc ns) as [m]) ((allV_args ih).bind fun l k=>(one1_ok l).bind' fun m h=>h▸k.1) fun m k t hh ht=>by
     cases as with
     | nil=>exact k.elim
     | cons a r =>
      cases r with
      | cons _ _=>exact k.2.elim
      | nil =>
       have hx:=(isB_inv hb).1
       subst hx
       exact src_enum hh (hO f) hE ht hb k.1.1 k.1.2
   | false=>exact .of ⟨rfl,rfl,rfl⟩ rfl (fun h x=>by cases as with | nil=>cases h | cons _ _=>rfl) ⟨np,as,p,rfl,fun l q=>(allV_args ih l q).1⟩ ((allV_args ih).bind fun l k=>snd_callName (hO f) hE k.1) fun q=>(allV_args ih).bind fun l k=>OP.bind' (dCall_list q) fun m h=>h.2▸snd_callList ((hO f).hot h.1) (hO f) hE k.1 q
 | _=>exact .none trivial
theorem dk_attr (hO:∀ f,Ok (C.at f) K G W d){o:Expr}{x:Str}{p:Pos}(I:DnA C G W d o):DnA C G W d (.Attribute o x p):=fun f env sc ns hE =>
 have ih:=I f env sc ns hE
 .of ⟨rfl,rfl,rfl⟩ rfl (fun _ _=>rfl) ⟨o,rfl,fun x=>by
  cases hb:(dn W G sc ns o).bs with
  | true=>exact .inl (ih.bs hb x)
  | false=>exact .inr rfl,.ite fun _=>fun m q=>(ih.v m q).2⟩ (.ite fun hb=>ih.v.map fun a ha=>snd_attr (hO f) (ih.bs hb) ha.2) fun q=>(nomatch q)
theorem dk_edict {ks:List (Option Expr)}{vs:List Expr}{p:Pos}:DnA C G W d (.Dict ks vs p):=fun f env sc ns hE=>.of0 ⟨rfl,rfl,rfl⟩ rfl (fun _=>rfl) (.ite fun q=>.some (by
 rw[Bool.and_eq_true] at q
 cases List.isEmpty_iff.mp q.1
 cases List.isEmpty_iff.mp q.2
 exact snd_edict))
theorem rev_ok {st:Option Expr}(h:revE st=true):∃ k q q',st=some (.UnaryOp .USub (.Constant (.int 1) k q) q'):=by
 cases st with
 | none=>cases h
 | some e =>
  have h:(ev e).neg=true:=h
  cases q:ev e with
  | un op x p =>
   rw[q] at h
   have h:=Bool.and_eq_true_iff.mp (show (negU op&&(ev x).one)=true from h)
   have h2:=h.2
   cases z:ev x with
   | con c k p' =>
    rw[z] at h2
    have e0:op=.USub:=by
     have h1:=h.1
     cases op <;> first | rfl | (cases h1;done)
    have e1:c=.int 1:=by
     cases c with
     | int i=>rw[beq_iff_eq.mp (show (i==1)=true from h2)]
     | _=>cases h2
    subst e0
    subst e1
    exact⟨k,p',p,by rw[ev_is q,ev_is z];rfl⟩
   | _=>rw[z] at h2;cases h2
  | _=>rw[q] at h;cases h
theorem dk_sub {o i:Expr}{p:Pos}(I:DnA C G W d o)(J:DnA C G W d i):DnA C G W d (.Subscript o i p):=fun f env sc ns hE=>by
 have ih:=(I f env sc ns hE).v
 have jh:=J f env sc ns hE
 have hs:=jh.sh
 show DnOk _ _ _ _ _ _ (.of (dSub (dn W G sc ns o).v (dn W G sc ns i) (dn W G sc ns i).sh))
 refine .of0 ⟨rfl,rfl,rfl⟩ rfl (fun _=>rfl) ?_
 have plain:OP ((dn W G sc ns o).v.bind fun m=>(dn W G sc ns i).v.map fun k=>subM m k) (SndE (C.at f) (d+1) env sc ns (.Subscript o i p)):=ih.bind fun m hm=>OP.map (OP.self _) fun k hk=>snd_sub (by
  cases i <;> first | rfl | exact (nomatch hk)) hm.2 (jh.v k hk).2
 cases q:(dn W G sc ns i).sh with
 | slice l h st =>
  rw[q] at hs
  obtain⟨lo,hi,sp,rfl,hl,hh⟩:=hs
  show OP (dSl _ l h st) _
  unfold dSl
  refine .ite2 (fun hr=>ih.bind fun m hm=>hl.bind fun ml hml=>hh.bind fun mh hmh=>.ite fun hz=>.some ?_) fun _=>?_
  ·obtain⟨k,q1,q2,rfl⟩:=rev_ok hr
   cases ml <;> cases mh <;> first | cases hz | skip
   cases lo <;> cases hi <;> first | exact hml.elim | exact hmh.elim | exact snd_rev hm.2
  exact .ite fun hn=>by
   rw[Option.isNone_iff_eq_none] at hn
   subst hn
   exact ih.bind fun m hm=>hl.bind fun ml hml=>hh.map fun mh hmh=>snd_slice hm.2 hml hmh
 | _=>exact plain
theorem dk_slice {l u st:Option Expr}{q:Pos}(I:∀ x,l=some x→DnA C G W d x)(J:∀ x,u=some x→DnA C G W d x):DnA C G W d (.Slice l u st q):=fun f env sc ns hE =>
 have key:∀ e:Option Expr,(∀ x,e=some x→DnA C G W d x)→OP (dnO W G sc ns e) (OptR (C.at f) (d+1) env sc ns e):=fun e h=>match e,h with
  | none,_=>.some trivial
  | some x,h=>OP.map ((h x rfl) f env sc ns hE).v fun m k=>k.2
 .none ⟨l,u,q,rfl,key l I,key u J⟩
mutual
theorem dn_all (hO:∀ f,Ok (C.at f) K G W d):∀ e:Expr,DnA C G W d e
 | .Constant ..=>dk_const
 | .Name ..=>dk_name hO
 | .BoolOp _ es _=>dk_bool (dns_all hO es)
 | .BinOp l _ r _=>dk_bin (dn_all hO l) (dn_all hO r)
 | .UnaryOp _ x _=>dk_un (dn_all hO x)
 | .IfExp t a b _=>dk_ife (dn_all hO t) (dn_all hO a) (dn_all hO b)
 | .List es _=>dk_list (dns_all hO es)
 | .Tuple es _ _=>dk_tup (dns_all hO es)
 | .ListComp elt gens _ _=>dk_comp hO (dng_all hO gens) (dn_all hO elt)
 | .Compare l _ cs _=>dk_cmp hO (dn_all hO l) (dns_all hO cs)
 | .Call fn as _ _=>dk_calls hO (dn_all hO fn) (dns_all hO as)
 | .Attribute o _ _=>dk_attr hO (dn_all hO o)
 | .Subscript o i _=>dk_sub (dn_all hO o) (dn_all hO i)
 | .Slice l u _ _=>dk_slice (dnO_all hO l) (dnO_all hO u)
 | .Dict ..=>dk_edict
 | .NamedExpr ..=>.none fun _ _=>rfl
 | .Lambda ..=>.none fun _ _=>rfl
 | .Set ..=>.none fun _ _=>rfl
 | .SetComp ..=>.none fun _ _=>rfl
 | .DictComp ..=>.none fun _ _=>rfl
 | .GeneratorExp ..=>.none fun _ _=>rfl
 | .Await ..=>.none fun _ _=>rfl
 | .Yield ..=>.none fun _ _=>rfl
 | .YieldFrom ..=>.none fun _ _=>rfl
 | .FormattedValue ..=>.none fun _ _=>rfl
 | .JoinedStr ..=>.none fun _ _=>rfl
 | .Starred ..=>.none fun _ _=>rfl
termination_by structural e=>e
theorem dnO_all (hO:∀ f,Ok (C.at f) K G W d):∀ (e:Option Expr) (x:Expr),e=some x→DnA C G W d x
 | none,x,h=>(nomatch h)
 | some e,x,h=>(Option.some.inj h)▸dn_all hO e
termination_by structural e=>e
theorem dns_all (hO:∀ f,Ok (C.at f) K G W d):∀ es:List Expr,DnsA C G W d es
 | []=>fun _ _ _ _ _=>trivial
 | e::es=>fun f env sc ns hE=>⟨dn_all hO e f env sc ns hE,dns_all hO es f env sc ns hE⟩
termination_by structural es=>es
theorem dng_all (hO:∀ f,Ok (C.at f) K G W d):∀ gs:List Comprehension,DgA C G W d gs
 | []=>fun _ _ _ _ _ _=>.none
 | g::_=>dg_cons (dnc_all hO g)
termination_by structural gs=>gs
theorem dnc_all (hO:∀ f,Ok (C.at f) K G W d):∀ g:Comprehension,DcA C G W d g
 | ⟨_,it,ifs,_⟩=>dc_mk (dn_all hO it) (dns_all hO ifs)
termination_by structural g=>g
end
end
end Mine
namespace Mine
set_option backward.match.sparseCases false
open PySem PyProof.Rows PySem.W
section
variable {C:Cx}{d:Nat}{env:Env}{sc:Scope}{ns:List Str}
theorem del_frm {M:Model}{A:Around}{a:Addr}{x:Str}{m:Str→Option Value}{s:Shared}{Q:Bool→Shared→Prop}{E:Value→Shared→Prop}(hn:s.heap.Ns a m)(k:wpAny M A (nsDel a x) Q E s) :
  wpAny M A (nsDel a x) (fun u s'=>Q u s'∧∀ o,s.heap.get? a=some o→isFrm true o→∃ o',s'.heap.get? a=some o'∧isFrm true o') E s:=by
 intro Γ p hΓ
 have k:=k Γ p hΓ
 obtain⟨o,es,ep,ho,hd,hk,hm⟩:=hn
 have hany:es.any (·.refKey)=false:=by
  rw[Array.any_eq_false'];intro e he;obtain⟨n,t,h⟩:=hk e he;simp[DictEntry.refKey,h]
 have hhas:nsHas x o=pure (es.any (·.key.isStr x)):=by
  rw[nsHas_eq];unfold nsHasByArray;rw[hd]
  show (if (es.any fun y=>y.key.isStr x)=true then _ else _)=_
  generalize (es.any fun y=>y.key.isStr x)=b
  cases b <;> simp[hany]
 unfold nsDel at k ⊢
 simp only[Sem.wp_bind'] at k ⊢
 rw[Sem.wp_loadPart_of M Γ _ p s (o:=o) _ ho] at k ⊢
 rw[hhas] at k ⊢
 simp only[Sem.wp_pure'] at k ⊢
 cases q:es.any (·.key.isStr x) with
 | false =>
  rw[q] at k
  simp only[Bool.false_eq_true,if_false,Sem.wp_pure'] at k ⊢
  exact⟨k,fun o₁ h1 hf=>⟨o₁,h1,hf⟩⟩
 | true =>
  rw[q] at k
  simp only[if_true,Sem.wp_bind',Sem.wp_cmd_updatePart,Sem.wp_pure'] at k ⊢
  obtain⟨k1,k2⟩:=k
  refine⟨k1,k2,fun o₁ h1 hf=>?_⟩
  rw[ho] at h1
  cases h1
  obtain⟨c,d',dt,sl⟩:=o
  subst hd
  cases hi:es.findIdx? (·.key.isStr x) with
  | some i=>exact⟨_,Heap.get?_update_self _ ho (by simp only[Obj.dropName_eq,Obj.dropNameByArray,hi];rfl),by simp only[Obj.dropName_eq,Obj.dropNameByArray,hi];exact⟨hf.1,_,_,rfl⟩⟩
  | none=>exact⟨_,Heap.get?_update_self _ ho (by simp only[Obj.dropName_eq,Obj.dropNameByArray,hi];rfl),by simp only[Obj.dropName_eq,Obj.dropNameByArray,hi];exact⟨hf.1,_,_,rfl⟩⟩
theorem wpM_clrVar {i:Nat}{st:St}{Q:Unit→St→Prop}{X:Str→St→Prop}:wpM (clrVar i) st Q X↔i<st.vars.length∧Q () { st with vars:=st.vars.set i none }:=by
 unfold wpM clrVar
 by_cases h:i<st.vars.length <;> simp[h]
theorem at_clear (hE:EnvOk env sc){x:Str}{i:Nat}{pos:Pos}{s:Shared}{ρ:List Addr}{st:St}(hk:sc.names.lookup x=some .local)(hi:idxLast ns x=some i) :
  At C d env sc ns Un (Own env) (do bindName env x .none;unbindBehindTheSuite env x pos) (clrVar i) s ρ st:=.of fun A Q E X hA hS hw=>by
 have hx:isVar sc x=true:=by unfold isVar;rw[hk]
 have k:=hE.lo x hk
 obtain⟨hlt,hw1⟩:=wpM_clrVar.mp hw.1
 refine wpAny_bind (wpAny_bindName ?_)
 refine (at_store (C:=C) (d:=d) (S:=Own env) hE hx hi (v:=.none) (val:=.none) rfl fun _ q=>q.own) A _ E (fun _ _=>False) hA hS (wpM_setVar.mpr ⟨hlt,fun _ s₁ ρ₁ _ S₁ e₁=>?_⟩) fun _ _ _ _ _ h _=>h.elim
 obtain⟨m,hm⟩:=S₁.frm.loc
 have hp:(env.scope.kind==.class || (env.scope.kind==.module&&env.locals != env.globals))=false:=by rw[hE.kind];rfl
 have hmx:(m x).isSome=true:=by
  have hget:(st.vars.set i (some V.none))[i]?=some (some V.none):=by rw[List.getElem?_set];simp[hlt]
  obtain⟨val,hl,_⟩:=S₁.frm.vals x i .none hx hi hget
  rcases hl with ⟨_,m',hm',hmy⟩ | ⟨k',_⟩
  ·obtain⟨o1,e1,_,ho1,hd1,_,hf1⟩:=hm
   obtain⟨o2,e2,_,ho2,hd2,_,hf2⟩:=hm'
   rw[ho1] at ho2;cases ho2
   rw[hd1] at hd2;cases hd2
   rw[← hf1,hf2,hmy];rfl
  ·rw[k] at k';cases k'
 unfold unbindBehindTheSuite
 refine wpAny_onRaise ?_
 unfold unbindName
 refine wpAny_bind (wpAny_point (wpAny_bind ?_))
 unfold deleteName
 simp only[k,hp]
 rw[if_neg (by decide)]
 refine wpAny_bind (wpAny_mono (del_frm hm (wpAny_nsDel_keeps (Q:=fun b s'=>b=(m x).isSome∧∃ h' v,s'={ s₁ with heap:=h' }∧h'.Ns env.locals (fun y=>if y=x then v else m y)∧Heap.SameBut env.locals s₁.heap h') hm fun h' v z1 z2=>⟨rfl,h',v,rfl,z1,z2⟩)) (fun b s' z=>?_) fun _ _ q=>q)
 obtain⟨⟨rfl,h',v,rfl,hn',hs⟩,hfr⟩:=z
 rw[hmx]
 simp only[Bool.not_true,Bool.false_eq_true,if_false]
 refine wpAny_pure (wpAny_point ?_)
 obtain⟨o',_,_,ho',_⟩:=id hn'
 have h5:∀ y:Str,env.kindOf y=some .cell→∃ c v₀,env.cells.lookup y=some c∧h'.IsCell c v₀:=fun y hy=>by
  obtain⟨c,v₀,q1,⟨oc,q2,q3⟩,_⟩:=S₁.frm.cell y hy
  have hcl:c≠env.locals:=fun q=>by
   subst q
   obtain⟨ol,_,_,hol,hld,_⟩:=hm
   rw[q2] at hol;cases hol;rw[q3] at hld;cases hld
  exact⟨c,v₀,q1,oc,(hs.2 c hcl).trans q2,q3⟩
 have h6:∀ (y:Str) (j:Nat) (u:V),isVar sc y=true→idxLast ns y=some j→(st.vars.set i none)[j]?=some (some u)→∃ val,Loads h' env y val∧VR C s₁.heap ρ₁ u val:=fun y j u h1 h2 h3=>by
  by_cases hy:y=x
  ·subst hy
   rw[hi] at h2;cases h2
   rw[List.getElem?_set] at h3
   simp[hlt] at h3
  ·have hji:j≠i:=fun q=>by
    subst q
    have:=idxLast_get h2
    rw[idxLast_get hi] at this;cases this;exact hy rfl
   rw[List.getElem?_set_ne (Ne.symm hji)] at h3
   obtain⟨val',hl,hv⟩:=S₁.frm.vals y j u h1 h2 (by rw[List.getElem?_set_ne (Ne.symm hji)];exact h3)
   refine⟨val',?_,hv⟩
   rcases hl with ⟨k',m',hm',hmy⟩ | ⟨k',c,q1,oc,q2,q3⟩
   ·have hmm:m y=m' y:=by
     obtain⟨o1,e1,_,ho1,hd1,_,hf1⟩:=hm
     obtain⟨o2,e2,_,ho2,hd2,_,hf2⟩:=hm'
     rw[ho1] at ho2;cases ho2
     rw[hd1] at hd2;cases hd2
     rw[← hf1,← hf2]
    exact .inl ⟨k',_,hn',by simp[hy,hmm,hmy]⟩
   ·have hcl:c≠env.locals:=fun q=>by
     subst q
     obtain⟨ol,_,_,hol,hld,_⟩:=hm
     rw[q2] at hol;cases hol;rw[q3] at hld;cases hld
    exact .inr ⟨k',c,q1,oc,(hs.2 c hcl).trans q2,q3⟩
 obtain⟨S',e'⟩:=S₁.own (S:=Own env) (t:=s₁.toks) (vars':=st.vars.set i none) (.inl rfl) (.inl rfl) hs ho' S₁.frm.locB S₁.frm.locN (by simp[hS.frm.len]) ⟨_,hn'⟩ h5 h6 fun o h1 h2=>by
  obtain⟨o2,q1,q2⟩:=hfr o h1 h2
  rw[ho'] at q1;cases q1;exact q2
 exact hw1 _ _ _ trivial S' (e₁.trans e')
end
end Mine
namespace Mine
set_option backward.match.sparseCases false
open PySem PyProof.Rows PySem.W
section
variable {C:Cx}{d:Nat}{env:Env}{sc:Scope}{ns:List Str}{K:Frag}{G:GI}{W:Wd}
theorem State.pass {s:Shared}{ρ:List Addr}{st:St}{N N':Addr→Prop}{h':Heap}(hS:State (C.hide N) env sc ns s ρ st)(q1:∀ b,N' b→N b∨s.heap.get? b=none)(q2:∀ b o,s.heap.get? b=some o→¬ N b→KeepF C ρ o h' b)
  (q3:∀ b,N' b→∃ o,h'.get? b=some o) (hnew:∀ b,N b→C.base.get? b=none∧¬ C.off b) (ho:∀ b,Own env b→C.off b) (hNF:∀ b,isFA C b→¬ N b):State (C.hide N') env sc ns { s with heap:=h' } ρ st:=by
 have I:=pass_inv (C₂:=C) ⟨C.off,C.aux,rfl⟩ (fun _ q=>q) hS.inv q1 q2 q3 hnew
 have F:=hS.frm
 have mv:Mv ρ.length (C.hide N) s.heap ρ (C.hide N') h' ρ:=⟨⟨_,_,rfl⟩,fun _ _ _ q=>q,fun b o h1 h2 h3 =>
  have n:¬ N b:=fun q=>h2.2 (.inr q)
  ⟨(q2 b o h1 n).o.val (isVal_cls h3),h2.1,fun q=>q.elim (fun z=>h2.2 (.inl z)) fun z=>(q1 b z).elim n fun z=>by exact no_eq h1 z⟩⟩
 have own:∀ b,Own env b→¬ N b:=fun b q z=>(hnew b z).2 (ho b q)
 have cells:∀ (y:Str) (c:Addr) (v:Option Value),env.kindOf y=some .cell→env.cells.lookup y=some c→s.heap.IsCell c v→h'.IsCell c v:=fun y c v hy hc ⟨oc,h1,h2⟩ =>
  let ⟨o₁,g1,_,g2,_⟩:=(q2 c oc h1 (own c (.inr ⟨y,hy,hc⟩))).o.data;⟨o₁,g1,g2.trans h2⟩
 have nsK:∀ {m},s.heap.Ns env.locals m→h'.Ns env.locals m:=fun ⟨o,es,ep,h1,h2,h3⟩ =>
  let ⟨o₁,g1,_,g2,_⟩:=(q2 _ o h1 (own _ (.inl rfl))).o.data;⟨o₁,es,ep,g1,g2.trans h2,h3⟩
 refine⟨I,F.len,F.loc.imp fun m hm=>nsK hm,fun b q=>.inl (ho b q),F.locN,F.locB,fun x hx=>?_,F.inj,fun x i v h1 h2 h3=>?_,F.frs.to rfl rfl (fun b o fa hb hn hf hbb=>hf.keep (q2 b o hb (hNF b fa)).o) fun _ _ _ _ q _=>q⟩
 ·obtain⟨c,v₀,z1,z2,z3⟩:=F.cell x hx
  exact⟨c,v₀,z1,cells x c v₀ hx z1 z2,z3⟩
 ·obtain⟨val,hl,hv⟩:=F.vals x i v h1 h2 h3
  refine⟨val,?_,hv.move mv hv.lt⟩
  rcases hl with ⟨k,m,hm,hx⟩ | ⟨k,c,z1,z2⟩
  ·exact .inl ⟨k,m,nsK hm,hx⟩
  ·exact .inr ⟨k,c,z1,cells x c _ k z1 z2⟩
theorem Ext.pass {S:Addr→Prop}{s s':Shared}{ρ ρ':List Addr}{N:Addr→Prop}{h':Heap}(x:Ext S s ρ s' ρ')(q2:∀ b o,s'.heap.get? b=some o→¬ N b→KeepF C ρ' o h' b)(hnew:∀ b,N b→s.heap.get? b=none):Ext S s ρ { s' with heap:=h' } ρ':=by
 have nN:∀ {b o},s.heap.get? b=some o→¬ N b:=fun {b o} hb q=>by exact no_eq hb (hnew b q)
 refine⟨x.pre,x.fresh,fun b o hb hn hS=>(x.keep b o hb hn hS).trans fun o' ho'=>(q2 b o' ho' (nN hb)).o,fun b o hb=>?_,x.gens,x.drawn,x.os⟩
 obtain⟨o',h1⟩:=x.alive b o hb
 obtain⟨o'',h2,_⟩:=(q2 b o' h1 (nN hb)).o.data
 exact⟨o'',h2⟩
theorem State.aux {s:Shared}{ρ:List Addr}{st:St}{x y:Aux}{f:Addr→Prop}(hx:y.frs=x.frs)(hh:∀ e,y.hot=some e→HotAt C s.heap ρ e)(hS:State (C.at f x) env sc ns s ρ st):State (C.at f y) env sc ns s ρ st∧Mv ρ.length (C.at f x) s.heap ρ (C.at f y) s.heap ρ:=by
 have mv:Mv ρ.length (C.at f x) s.heap ρ (C.at f y) s.heap ρ:=⟨⟨f,y,rfl⟩,fun _ _ _ q=>q,fun b o hb hf _=>⟨hb,hf⟩⟩
 have I:=hS.inv
 have F:=hS.frm
 exact⟨⟨⟨I.base,I.len,I.nodup,I.sys,I.new,I.hid,fun i o ho=>let ⟨a,h1,h2⟩:=I.ob i o ho;⟨a,h1,h2.move mv h2.lt rfl⟩⟩,
  F.len,F.loc,F.off,F.locN,F.locB,F.cell,F.inj,fun x i v h1 h2 h3=>let ⟨val,hl,hv⟩:=F.vals x i v h1 h2 h3;⟨val,hl,hv.move mv hv.lt⟩,⟨fun env he=>F.frs.fr env (hx▸he),hh⟩⟩,mv⟩
theorem wpM_tryM {b:M Flow}{ok:Str→Bool}{suite:Str→M Flow}{st:St}{Q:Flow→St→Prop}{X:Str→St→Prop}(h:wpM (tryM b ok suite) st Q X):wpM b st Q fun c st'=>ok c=true∧wpM (suite c) st' Q fun _ _=>False:=by
 unfold wpM tryM at h
 unfold wpM
 cases hb:b st with
 | ok f s=>rw[hb] at h;exact h
 | stuck=>rw[hb] at h;exact h
 | exc c s =>
  rw[hb] at h
  dsimp only at h ⊢
  cases hc:ok c with
  | false=>rw[hc] at h;exact h.elim
  | true=>rw[hc] at h;exact⟨rfl,wpM_noX (X:=X) h⟩
theorem snd_raise (hh:C.aux.hot=none)(hO:Ok C K G W d)(hE:EnvOk env sc){e:Nat}{c:Str}{x:Str}{np cp ap pos:Pos}{k0:Nat}(hg:isGlob sc c=true)(hc:W.exn c=true) :
  SndX C e env sc ns (.Raise (some (.Call (.Name c np) [.Constant (.str x) k0 ap] [] cp)) none pos) (raiseM c):=.of fun A s ρ st Q E X hA hS hw=>by
 obtain⟨k,O⟩:=hO.exc c hc
 obtain⟨bm,N,na,q,bs,hdct,sn,sub,ab,col,dd,k0',k1,k2,k3,k5,mN,hC,hN,hq,T⟩:=O.own.obj
 have ha:All2 (ArgR C e env sc ns) [.Constant (.str x) k0 ap] [constM (.str x.cps.toList)]:=⟨⟨rfl,snd_const rfl⟩,trivial⟩
 refine wpAny_Raise_call_subU F.excBase_ValueError (bmB:=bmV) (by decide +kernel) F.excBase_ValueError (T.tail.hasType (by decide +kernel)) (hA.handled hh) rfl (hq _ (.head _)) (C:=k) (mN:=mN) (nm:=na) (q:=q) (N:=N) (bs:=bs) (hdct:=hdct) (sn:=sn) (sub:=sub) (ab:=ab) (col:=col) (dd:=dd) (k0:=k0') (k1:=k1) (k2:=k2) (k3:=k3) (k5:=k5)
  (load_own hO.cx hE hS hg O.own.bound ⟨rfl,evalArgs_any ha ((snd_args ha) A s ρ st _ E X hA hS ?_ hw.2)⟩)
 refine (show wpM (seqM [constM (.str x.cps.toList)]) st _ X from fun vals s' ρ' r S₁ e₁=>?_)
 have hlen:vals.length=1:=by rw[← r.len];rfl
 refine⟨rfl,by show vals.length≤_;rw[hlen];decide,S₁.inv.base _ _ hC,hN.keeps S₁.inv.base,(T.keeps S₁.inv.base).tail,fun h' e' hm=>?_⟩
 obtain⟨t,g1,g2,g3⟩:=hm.there
 have g:Grows s'.heap h':=hm.keeps
 have hN':∀ b,b=e'→s'.heap.get? b=none:=fun b q=>q▸hm.new
 exact hw.2 c st _ _ ρ' hw.1 ⟨e',(·=e'),rfl,⟨S₁.inv.hide g fun b q=>⟨hN' b q,q▸⟨_,g1⟩⟩,S₁.frm.hide g hN'⟩,(e₁.nil.trans (Ext.grows (t:=s'.toks) g)),
  ⟨fun b q=>⟨e₁.was (hN' b q),S₁.inv.notOff (hN' b q)⟩,rfl,k,_,_,.ref t,O.own.bound,g1,rfl,rfl,⟨rfl,rfl⟩,.inl rfl⟩⟩
theorem set_flight {M:Model}{A:Around}{E:Value→Shared→Prop}{Q:Unit→Shared→Prop}{h₀:Heap}{s:Shared}{N:Addr→Prop}{c:Str}{e:Addr}(f:Fly C h₀ s.heap N c e)
  (hQ:∀ h',(∀ b,¬ N b→h'.get? b=s.heap.get? b)→(∀ b o,s.heap.get? b=some o→∃ o',h'.get? b=some o')→Fly C h₀ h' N c e→Q () { s with heap:=h' }):wpAny M A (setFlight (.ref e) none) Q E s:=by
 have f':=f
 obtain⟨hnew,hit,k,o,vs,a0,hk,ho,hcl,hd,hv0,htr⟩:=f'
 rcases htr with h1 | ⟨T,oT,ts,h1,hTe,hT,hdT,h3,hNT⟩
 ·unfold setFlight
  refine wpAny_bind (wpAny_field ho hd h1 ?_)
  rw[if_neg (by decide)]
  exact wpAny_pure (hQ s.heap (fun _ _=>rfl) (fun _ o q=>⟨o,q⟩) f)
 ·have hsz:=(Array.getElem?_eq_some_iff.mp h3).1
  have hd₃:=Obj.data_mapFields hdT (·.setIfInBounds 3 Value.none)
  have hT':=Heap.get?_update_self (Obj.mapFields (·.setIfInBounds 3 Value.none)) hT (Obj.isFreed_of_fields hd₃)
  have other:∀ b,b≠T→(s.heap.update T (Obj.mapFields (·.setIfInBounds 3 Value.none))).get? b=s.heap.get? b:=fun b hb=>Heap.get?_update_other _ _ (Ne.symm hb)
  refine wpAny_setFlight_none ho hd h1 hT hdT hsz (hQ _ (fun b hb=>other b fun q=>hb (q▸hNT)) (fun b o' q=>?_) ⟨hnew,hit,k,o,vs,a0,hk,(other e (Ne.symm hTe)).trans ho,hcl,hd,hv0,.inr ⟨T,_,_,h1,hTe,hT',hd₃,by simp[hsz],hNT⟩⟩)
  by_cases z:b=T
  ·subst z;exact⟨_,hT'⟩
  ·exact⟨o',(other b z).trans q⟩
theorem AOk.mark {x:Aux}{d:Nat}{A:Around}(h:AOk x d A)(e:Addr):AOk ⟨x.frs,some e⟩ d (A.mark (some (.ref e))):=⟨h.depth,h.units,fun q=>(nomatch q),fun e' q=>by cases q;rfl,h.guards,h.frames⟩
end
end Mine
namespace Mine
set_option backward.match.sparseCases false
open PySem PyProof.Rows PySem.W
section
variable {C:Cx}{d:Nat}{env:Env}{sc:Scope}{ns:List Str}{K:Frag}{G:GI}{W:Wd}
theorem Fly.caught {s:Shared}{h₀:Heap}{ρ:List Addr}{st:St}{N:Addr→Prop}{c:Str}{e:Addr}(f:Fly C h₀ s.heap N c e)(hd:c≠nm "dict") (hS:State (C.hide N) env sc ns s ρ st) (hb:∀ b o,C.base.get? b=some o→∃ o',h₀.get? b=some o') (ho:∀ b,Own env b→C.off b) (hNF:∀ b,isFA C b→¬ N b) :
  State C env sc ns s ρ st∧VR C s.heap ρ (.exc c) (.ref e)∧HotAt C s.heap ρ e:=by
 have nr:∀ b,N b→b∉ρ:=fun b q z=>(hS.inv.new b z).2 (.inr q)
 have nb:∀ b,N b→C.base.get? b=none:=fun b q=>by
  cases z:C.base.get? b with
  | none=>rfl
  | some o=>obtain⟨o',q'⟩:=hb b o z;exact no_eq q' ((f.new b q).1)
 refine⟨(hS.leave (h':=s.heap) (fun b o _ q=>q) (fun b q=>⟨nr b q,nb b q,(f.new b q).2⟩) ho hNF).1,?_⟩
 obtain⟨k,o,vs,a0,h1,h2,h3,h4,h5,_⟩:=f.obj
 exact⟨⟨e,o,rfl,h2,⟨nr e f.it,(f.new e f.it).2⟩,.inl ⟨hd,k,h1,h3⟩⟩,o,h2,⟨k,vs,h3,h4,h5.2⟩,nr e f.it,nb e f.it⟩
theorem snd_try_core (hO:∀ f,Ok (C.at f) K G W d)(hE:EnvOk env sc){l:List Env}(hT:C.aux.frs=env::l){e:Nat}{b:List Stmt}{mb:M Flow}(hb:SndXs C e env sc ns b mb){k:Str}{np hp pos:Pos}{n:Option Str}{su:List Stmt}(hg:isGlob sc k=true)(hk:W.exn k=true)
  {ok:Str→Bool} (hok:∀ c,ok c=true→W.exn c=true∧W.sub c k=true) {ms:Str→M Flow}
  (hfin:∀ (A:Around) (s:Shared) (ρ:List Addr) (Q:PySem.Flow→Shared→Prop) (E:Value→Shared→Prop) (c:Str) (x:Addr) (ρ₃:List Addr) (st₃:St) (s₂:Shared),AOk C.aux e A →
   wpM (ms c) st₃ (fun v st'=>∀ val s' ρ',FlR C s'.heap ρ' v val→State C env sc ns s' ρ' st'→Ext (Own env) s ρ s' ρ'→Q val s') (fun _ _=>False) →
   (∀ (P:Unit→Shared→Prop) (E':Value→Shared→Prop),(∀ s₃,State C env sc ns s₃ ρ₃ st₃→VR C s₃.heap ρ₃ (.exc c) (.ref x)→HotAt C s₃.heap ρ₃ x→Ext (Own env) s ρ s₃ ρ₃→P () s₃)→wpAny (model C.prog C.w) (A.mark (some (.ref x))) (setFlight (.ref x) none) P E' s₂) →
   codeAny (model C.prog C.w) (A.mark (some (.ref x))) (.handlers (.ref x) [.ExceptHandler none n su hp] env) (fun r s₂=>match r with
     | .ok f=>(match n with
      | none=>Q f s₂
      | some n=>wpAny (model C.prog C.w) A (do bindName env n .none;unbindBehindTheSuite env n hp) (fun _ s₃=>Q f s₃) E s₂)
     | .error y=>cameBackBy (model C.prog C.w) A env E y s₂) s₂) :
  SndX C e env sc ns (.Try b [.ExceptHandler (some (.Name k np)) n su hp] [] [] pos) (tryM mb ok ms):=.of fun A s ρ st Q E X hA hS hw=>by
 have hw1:=wpM_tryM hw.1
 have ho:=hS.frm.off
 refine wpAny_Try_except (hb A s ρ st _ _ _ hA hS (wpM_mono hw1 (fun v st₁ hq val s₁ ρ₁ r₁ S₁ e₁=>?_) fun _ _ hx=>hx) fun c st' x s' ρ' hx r=>?_)
 ·have hq':=hq val s₁ ρ₁ r₁ S₁ e₁
  cases v with
  | next=>obtain rfl:=r₁;exact wpAny_execs_nil hq'
  | ret v=>obtain⟨x,rfl,_⟩:=r₁;exact hq'
 ·obtain⟨hc,hw2⟩:=hx
  obtain⟨e₀,N,rfl,S',e',f⟩:=r
  obtain⟨hc1,hc2⟩:=hok c hc
  have hNF:∀ N':Addr→Prop,(∀ b,N' b→s.heap.get? b=none)→∀ b,isFA C b→¬ N' b:=fun N' hN' b fa z=>by
   obtain⟨o,q,_⟩:=hS.frm.frs.fa fa
   exact no_eq q (hN' b z)
  have hbase:∀ b o,C.base.get? b=some o→∃ o',s.heap.get? b=some o':=fun b o q=>⟨o,hS.inv.base b o q⟩
  have nb:∀ {N':Addr→Prop},(∀ b,N' b→s.heap.get? b=none∧¬ C.off b)→∀ b,N' b→C.base.get? b=none∧¬ C.off b:=fun {N'} hN' b q=>⟨hS.inv.notB (hN' b q).1,(hN' b q).2⟩
  refine land_fly (C:=C) (ρ:=ρ') hA.frames hT S'.frm.frs f (fun b q=>e'.was q) (fun a q=>S'.inv.hid a (.inl q)) fun h' N' q1 q2 q3 q4=>?_
  have S₁:=S'.pass q1 q2 q3 (nb f.new) ho (hNF N fun b q=>(f.new b q).1)
  have e₁:=e'.pass q2 fun b q=>(f.new b q).1
  obtain⟨kc,oe,vs,a0,g1,g2,g3,_⟩:=q4.obj
  obtain⟨kc',Oc⟩:=hO C.off |>.exc c hc1
  obtain⟨kk,Ok'⟩:=hO C.off |>.exc k hk
  have X0:K.In h':=(hO C.off).inK.keeps S₁.inv.base
  have hsub:=(hO C.off).exs c k kc kk hc1 hk g1 Ok'.own.bound
  rw[hc2] at hsub
  refine wpAny_handleBy_cons (codeAny_handlers_test ?_) (by intro q;cases q)
  refine load_own (C:=C.hide N') (hO _).cx hE S₁ hg Ok'.own.bound ?_
  refine exc_matches X0 g2 g3 Ok'.typ Ok'.base hsub ?_
  /- it is let go of -/
  have fin:∀ h'',(∀ b,¬ N' b→h''.get? b=h'.get? b)→(∀ b o,h'.get? b=some o→∃ o',h''.get? b=some o')→Fly C s.heap h'' N' c e₀→State C env sc ns { s' with heap:=h'' } ρ' st'∧VR C h'' ρ' (.exc c) (.ref e₀)∧HotAt C h'' ρ' e₀∧Ext (Own env) s ρ { s' with heap:=h'' } ρ':=fun h'' z1 z2 f'=>by
   have S₂:State (C.hide N') env sc ns { s' with heap:=h'' } ρ' st':=S₁.pass (N:=N') (N':=N') (fun b q=>.inl q) (fun b o q n=>.inl ((z1 b n).trans q)) (fun b q=>let ⟨o,z⟩:=S₁.inv.hid b (.inr q);z2 b o z) (nb q4.new) ho (hNF N' fun b q=>(q4.new b q).1)
   obtain⟨S₃,r,hx⟩:=f'.caught (fun z=>(hO C.off).dct (by rw[← z];exact hc1)) S₂ hbase ho (hNF N' fun b q=>(q4.new b q).1)
   exact⟨S₃,r,hx,e₁.pass (C:=C) (N:=N') (fun b o q n=>.inl ((z1 b n).trans q)) fun b q=>(q4.new b q).1⟩
  exact hfin A s ρ Q E c e₀ ρ' st' _ hA hw2 fun P E' hP=>set_flight q4 fun h'' z1 z2 f'=>let ⟨a1,a2,a4,a3⟩:=fin h'' z1 z2 f';hP _ a1 a2 a4 a3
noncomputable abbrev Cx.heat (C:Cx)(x:Addr):Cx:=C.at C.off ⟨C.aux.frs,some x⟩
theorem flow_cold {x:Addr}{h:Heap}{ρ:List Addr}{v:Mine.Flow}{val:PySem.Flow}(mv:Mv ρ.length (C.heat x) h ρ C h ρ)(r:FlR (C.heat x) h ρ v val):FlR C h ρ v val:=by
 cases v with
 | next=>exact r
 | ret v=>obtain⟨x,h1,h2⟩:=r;exact⟨x,h1,h2.move mv h2.lt⟩
theorem State.cold {x:Addr}(hh:C.aux.hot=none){s:Shared}{ρ:List Addr}{st:St}(hS:State (C.heat x) env sc ns s ρ st):State C env sc ns s ρ st∧Mv ρ.length (C.heat x) s.heap ρ C s.heap ρ:=State.aux (C:=C) (f:=C.off) (x:=⟨C.aux.frs,some x⟩) (y:=C.aux) rfl (fun e q=>no_eq q hh) hS
theorem State.hot {x:Addr}{s:Shared}{ρ:List Addr}{st:St}(hx:HotAt C s.heap ρ x)(hS:State C env sc ns s ρ st):State (C.heat x) env sc ns s ρ st∧Mv ρ.length C s.heap ρ (C.heat x) s.heap ρ:=State.aux (C:=C) (f:=C.off) (x:=C.aux) (y:=⟨C.aux.frs,some x⟩) rfl (fun e q=>Option.some.inj q▸hx) hS
theorem snd_try0 (hh:C.aux.hot=none)(hO:∀ f,Ok (C.at f) K G W d)(hE:EnvOk env sc){l:List Env}(hT:C.aux.frs=env::l){e:Nat}{b:List Stmt}{mb:M Flow}(hb:SndXs C e env sc ns b mb){k:Str}{np hp pos:Pos}{s₀:Stmt}{su:List Stmt}(hg:isGlob sc k=true)(hk:W.exn k=true)
  {ok:Str→Bool} (hok:∀ c,ok c=true→W.exn c=true∧W.sub c k=true) {m:M Flow} (hs:∀ x,SndXs (C.heat x) e env sc ns (s₀::su) m) :
  SndX C e env sc ns (.Try b [.ExceptHandler (some (.Name k np)) none (s₀::su) hp] [] [] pos) (tryM mb ok fun _=>m) :=
 snd_try_core hO hE hT hb hg hk hok fun A s ρ Q E c x ρ₃ st₃ s₂ hA hw hfl=>by
  refine codeAny_handlers_suite (hfl _ _ fun s₃ S₃ r₃ x₃ e₃=>?_)
  refine hs x (A.mark _) s₃ ρ₃ st₃ _ _ (fun _ _=>False) (hA.mark _) (S₃.hot x₃).1 (wpM_mono hw (fun v st' hq val s' ρ' hf S' e'=>?_) fun _ _ q=>q) fun _ _ _ _ _ h _=>h.elim
  exact hq val s' ρ' (flow_cold (S'.cold hh).2 hf) (S'.cold hh).1 (e₃.trans e')
theorem snd_try1 (hh:C.aux.hot=none)(hO:∀ f,Ok (C.at f) K G W d)(hE:EnvOk env sc){l:List Env}(hT:C.aux.frs=env::l){e:Nat}{b:List Stmt}{mb:M Flow}(hb:SndXs C e env sc ns b mb){k:Str}{np hp pos:Pos}{x:Str}{i:Nat}{s₀:Stmt}{su:List Stmt}(hg:isGlob sc k=true)(hk:W.exn k=true)
  (hx:sc.names.lookup x=some .local) (hi:idxLast ns x=some i) {ok:Str→Bool} (hok:∀ c,ok c=true→W.exn c=true∧W.sub c k=true) {m:M Flow} (hs:∀ x,SndXs (C.heat x) e env sc ns (s₀::su) m) :
  SndX C e env sc ns (.Try b [.ExceptHandler (some (.Name k np)) (some x) (s₀::su) hp] [] [] pos) (tryM mb ok (asM i m)) :=
 snd_try_core hO hE hT hb hg hk hok fun A s ρ Q E c y ρ₃ st₃ s₂ hA hw hfl=>by
  refine codeAny_handlers_suite_as (hfl _ _ fun s₃ S₃ r₃ x₃ e₃=>?_)
  obtain⟨hlt,hw1⟩:=wpM_setVar.mp (wpM_bind.mp hw)
  have hv:isVar sc x=true:=by unfold isVar;rw[hx]
  have mv:=(S₃.hot x₃).2
  refine (at_store (C:=C.heat y) (d:=e) (S:=Own env) hE hv hi (r₃.move mv r₃.lt) fun _ q=>q.own) (A.mark _) _ _ (fun _ _=>False) (hA.mark _) (S₃.hot x₃).1 (wpM_setVar.mpr ⟨hlt,fun _ s₄ ρ₄ _ S₄ e₄=>?_⟩) fun _ _ _ _ _ h _=>h.elim
  refine hs y (A.mark _) s₄ ρ₄ _ _ _ (fun _ _=>False) (hA.mark _) S₄ (wpM_mono (wpM_bind.mp hw1) (fun v st' hq val s' ρ' hf S' e'=>?_) fun _ _ q=>q) fun _ _ _ _ _ h _=>h.elim
  have S₅:=(S'.cold hh).1
  refine (at_clear (C:=C) (d:=e) hE hx hi) A _ E (fun _ _=>False) hA S₅ (wpM_mono (wpM_bind.mp hq) (fun _ st₆ h₆ _ s₆ ρ₆ _ S₆ e₆=>?_) fun _ _ q=>q) fun _ _ _ _ _ h _=>h.elim
  refine wpM_pure.mp h₆ val s₆ ρ₆ ?_ S₆ (((e₃.trans e₄).trans e').trans e₆)
  have hf':=flow_cold (S'.cold hh).2 hf
  cases v with
  | next=>exact hf'
  | ret v=>obtain⟨z,h1,h2⟩:=hf';exact⟨z,h1,h2.ext (e₆.extV fun b q=>own_aside S₅.frm b q)⟩
end
end Mine
namespace Mine
set_option backward.match.sparseCases false
open PySem PyProof.Rows PySem.W
section
variable {C:Cx}{d:Nat}{K:Frag}{G:GI}{W:Wd}
theorem OP.or {α:Type}{o o':Option α}{P:α→Prop}(h:OP o P)(h':OP o' P):OP (o.or o') P:=by
 cases o with
 | none=>exact h'
 | some a=>exact h
theorem for_ok (hw:W.hot=false)(hO:∀ f,Ok (C.at f) K G W d){f:Addr→Prop}{env:Env}{sc:Scope}{ns:List Str}(hE:EnvOk env sc){t it:Expr}:OP (dFor W G sc ns (isTupT t) it) fun s=>SrcZ (C.at f) (d+1) env sc ns t it s∧isSetE it=false:=by
 have ih:=dn_all hO it f env sc ns hE
 exact OP.bind' (src_ok (hot:=false) (fun _=>(hO f).hot hw) ih) fun s k=>⟨k.1.z,k.2⟩
theorem own_ok (hO:∀ f,Ok (C.at f) K G W d){f:Addr→Prop}{env:Env}{mu:List Str}{sc:Scope}{ns:List Str}(hE:EnvOk env sc){t e:Expr}:OP (dOwn W G mu sc t (dn W G sc ns e).sh) fun m=>SndE (C.at f) (d+1) env sc ns e m∧compE e=false:=by
 have hs:=(dn_all hO e f env sc ns hE).sh
 cases q:(dn W G sc ns e).sh with
 | call x l =>
  rw[q] at hs
  obtain⟨p,es,pos,rfl,hl⟩:=hs
  exact .ite fun h=>have h:=Bool.and_eq_true_iff.mp h;hl.bind fun l k =>
   .ite fun _=>.some ⟨snd_callRaw (hO f) hE k h.1 h.2,rfl⟩
 | meth m x l =>
  rw[q] at hs
  obtain⟨o,es,ap,pos,rfl,hb,hl,hm,ha⟩:=hs
  exact OP.bind (OP.self (nameIs t)) fun y _=>.ite fun _=>OP.bind (OP.self m) fun mo q=>ha.map fun l k=>⟨snd_methodCall (hO f).inK (fun x=>(hb x).resolve_right (by rw[q];exact Option.some_ne_none _)) hl.1 hl.2 (hm mo q) k (pickO_ok (hO f) x).2,rfl⟩
 | _=>exact .none
structure ValOk (C:Cx)(d:Nat)(env:Env)(sc:Scope)(ns:List Str)(e:Expr)(m:M V):Prop where
 v:SndE C d env sc ns e m
 a:∀ x p pos i,isVar sc x=true→idxLast ns x=some i→SndX C d env sc ns (.Assign [.Name x p] e pos) (assignM (.var i) m)
theorem val_ok (hO:∀ f,Ok (C.at f) K G W d){f:Addr→Prop}{env:Env}{mu:List Str}{sc:Scope}{ns:List Str}(hE:EnvOk env sc){t e:Expr}:OP (dVal W G mu sc ns t e) (ValOk (C.at f) (d+1) env sc ns e):=by
 have new:∀ m,SndE (C.at f) (d+1) env sc ns e m∧compE e=false→ValOk (C.at f) (d+1) env sc ns e m:=fun m k=>⟨k.1,fun x p pos i hx hi=>snd_assignName hE k.1 hx hi (swaps_plain k.2)⟩
 have ih:=dn_all hO e f env sc ns hE
 refine .or ((own_ok hO hE).bind' new) (OP.map (OP.self _) fun m q=>⟨?_,fun x p pos i hx hi=>ih.a m q _ x p pos i (fun z=>(Bool.and_eq_true_iff.mp z).1) hE hx hi⟩)
 cases z:(dn W G sc ns e).fr&&ownT mu G.muf t with
 | false=>exact (ih.v m q).2
 | true=>exact (ih.f (Bool.and_eq_true_iff.mp z).1 m q).own
theorem tgv_ok {sc:Scope}{ns:List Str}{t:Expr}{v:Ev}(h:ev t=v):OP (dTgv sc ns v) fun tg=>TgtR sc ns t tg:=by subst h;exact dTg_ok t
theorem tg_name {env:Env}{sc:Scope}{ns:List Str}{x:Str}{p pos:Pos}{e:Expr}{m:M V}{tg:Tg}(h:TgtR sc ns (.Name x p) tg)(k:∀ x p pos i,isVar sc x=true→idxLast ns x=some i→SndX C d env sc ns (.Assign [.Name x p] e pos) (assignM (.var i) m)):SndX C d env sc ns (.Assign [.Name x p] e pos) (assignM tg m):=by
 cases tg with
 | var i=>exact k x p pos i h.1 h.2
 | tup is=>exact h.elim
theorem asg_ok (hw:W.hot=false)(hO:∀ f,Ok (C.at f) K G W d){f:Addr→Prop}{env:Env}{sc:Scope}{ns:List Str}(hE:EnvOk env sc){t e:Expr}{pos:Pos}{m:M V}(h:ValOk (C.at f) (d+1) env sc ns e m):OP (dAsg W G sc ns (isTupT e) m (ev t)) fun m'=>SndX (C.at f) (d+1) env sc ns (.Assign [t] e pos) m':=by
 cases q:ev t with
 | att o x p=>rw[ev_is q];exact OP.map ((dn_all hO o f env sc ns hE).v) fun mo ho=>snd_assignAttr (hO f) h.v ho.2
 | name x p =>
  have k:=tgv_ok (sc:=sc) (ns:=ns) q
  rw[ev_is q] at k ⊢
  exact OP.map k fun tg ht=>tg_name ht h.a
 | tup ts k p =>
  have k:=tgv_ok (sc:=sc) (ns:=ns) q
  rw[ev_is q] at k ⊢
  exact .ite2 (fun _=>.none) fun ht=>OP.map k fun tg hg=>snd_assignTuple hE hg ht h.v
 | _=>exact .none
theorem exn_ok (e:Expr):OP (ev e).exn fun c=>∃ np cp ap k0 x,e=.Call (.Name c np) [.Constant (.str x) k0 ap] [] cp:=by
 cases q:ev e with
 | call fn as ks p =>
  exact .ite fun hk=>(one1_ok as).bind fun a ha=>.ite fun hs=>(nameIs_ok fn).bind' fun c hc=>by
   obtain⟨np,rfl⟩:=hc
   cases List.isEmpty_iff.mp hk
   subst ha
   cases z:ev a with
   | con c' k0 ap =>
    rw[z] at hs
    cases c' with
    | str x=>exact⟨np,p,ap,k0,x,by rw[ev_is q,ev_is z];rfl⟩
    | _=>cases hs
   | _=>rw[z] at hs;cases hs
 | _=>exact .none
theorem raise_ok (hw:W.hot=false)(hO:∀ f,Ok (C.at f) K G W d){f:Addr→Prop}{env:Env}{sc:Scope}{ns:List Str}(hE:EnvOk env sc){e:Option Expr}{pos:Pos}:OP (dRaise W sc e) fun m=>SndX (C.at f) (d+1) env sc ns (.Raise e none pos) m :=
 OP.bind (OP.self e) fun e' he=>(exn_ok e').bind fun c hc=>.ite fun q=>.some (by
  obtain⟨np,cp,ap,k0,x,rfl⟩:=hc
  subst he
  have q:=Bool.and_eq_true_iff.mp q
  exact snd_raise ((hO f).hot hw) (hO f) hE q.1 q.2)
theorem CxOk.aux {C:Cx}{G:GI}{x:Aux}(h:CxOk C G):CxOk (C.at C.off x) G:=⟨h.g,h.b,h.lim,h.sys,h.blt,fun y v q=>let ⟨val,q1,q2⟩:=h.const y v q;⟨val,q1,fun hh ρ=>(q2 hh ρ).move (n:=ρ.length) ⟨⟨C.off,x,rfl⟩,fun _ _ _ q=>q,fun b o hb hf _=>⟨hb,hf⟩⟩ (q2 hh ρ).lt⟩,h.cls⟩
theorem no_call {C:Cx}{d:Nat}{a:Addr}:FSnd C d a (fun _=>stuck):=fun env sc ns vs vals s ρ st hv A Q E X hA hS hw hX=>hw.elim
theorem Ok.heat (h:Ok C K G W d)(e:Addr):Ok (C.heat e) K G W.heat d where
 cx:=h.cx.aux
 inK:=h.inK
 fn:=fun x q=>let ⟨a,q1,q2,_⟩:=h.fn x q;⟨a,q1,q2,h.ch x a e q q1,no_call⟩
 meth:=fun c k x q1 q2=>let ⟨z1,f,z2,z3,z4,_⟩:=h.meth c k x q1 q2;⟨z1,f,z2,z3,z4,no_call,no_call⟩
 fld:=h.fld
 new:=fun c k q1 q2=>let ⟨z1,z2,f,z3,z4,_⟩:=h.new c k q1 q2;⟨z1,z2,f,z3,z4,no_call⟩
 hot:=fun q=>Bool.noConfusion q
 ch:=fun x a e _ _=>no_call
 exc:=fun c q=>let ⟨k,O⟩:=h.exc c q;⟨k,O.own,O.cls,O.mro,O.base,O.self,O.typ⟩
 dct:=h.dct
 exs:=h.exs
 exv:=h.exv
noncomputable def Sv.to (s:Stmt)(pos:Pos):Sv→Stmt
 | .asg ts e=>.Assign ts e pos
 | .ret e=>.Return e pos
 | _=>s
theorem sv_to (s:Stmt):∃ pos,(sv s).to s pos=s:=by
 cases s with
 | Assign ts e pos=>exact⟨pos,rfl⟩
 | Return e pos=>exact⟨pos,rfl⟩
 | FunctionDef name args body decs ret tps scope doc bind pos=>exact⟨pos,by
   show Sv.to _ _ (if _ then _ else _)=_
   split <;> rfl⟩
 | _=>exact⟨default,rfl⟩
theorem sim_ok (hO:∀ f,Ok (C.at f) K G W d){f:Addr→Prop}{env:Env}{sc:Scope}{ns:List Str}(hE:EnvOk env sc){s:Stmt}:OP (dSim W G sc ns (sv s)) fun m=>SndX (C.at f) (d+1) env sc ns s m:=by
 obtain⟨pos,hs⟩:=sv_to s
 cases q:sv s with
 | ret e =>
  rw[q] at hs
  have hs:Stmt.Return e pos=s:=hs
  subst hs
  exact OP.bind (OP.self e) fun e' he=>by subst he;exact OP.map (dn_all hO e' f env sc ns hE).v fun m hm=>snd_return hm.2
 | asg ts e =>
  rw[q] at hs
  have hs:Stmt.Assign ts e pos=s:=hs
  subst hs
  exact (one1_ok ts).bind fun t ht=>OP.bind (OP.self _) fun m hm=>(nameIs_ok t).bind fun x hx=>by
   obtain⟨p,rfl⟩:=hx
   subst ht
   exact OP.map (dTg_ok _) fun tg hg=>tg_name hg fun x p pos i hx hi=>(dn_all hO e f env sc ns hE).a m hm false x p pos i (fun z=>(nomatch z)) hE hx hi
 | _=>exact .none
theorem sims_ok (hO:∀ f,Ok (C.at f) K G W d){f:Addr→Prop}{env:Env}{sc:Scope}{ns:List Str}(hE:EnvOk env sc):∀ {ss:List Stmt},OP (dSims W G sc ns ss) fun ms=>All2 (SndX (C.at f) (d+1) env sc ns) ss ms
 | []=>.some trivial
 | s::r=>(sim_ok hO hE).bind fun m h1=>(sims_ok hO hE).map fun l h2=>⟨h1,h2⟩
theorem hand_ok (hw:W.hot=false)(hO:∀ f,Ok (C.at f) K G W d){f:Addr→Prop}{env:Env}{sc:Scope}{ns:List Str}(hE:EnvOk env sc){l:List Env}(hT:C.aux.frs=env::l){b:List Stmt}{pos:Pos}{mb:M Flow}(hb:SndXs (C.at f) (d+1) env sc ns b mb):∀ h:ExceptHandler,OP (dHand1 W G sc ns mb h) fun m=>SndX (C.at f) (d+1) env sc ns (.Try b [h] [] [] pos) m
 | .ExceptHandler t n suite hp=>OP.bind (OP.self t) fun t' ht=>(nameIs_ok t').bind fun k hk=>.ite fun q=>by
  obtain⟨np,rfl⟩:=hk
  subst ht
  have q:=Bool.and_eq_true_iff.mp q
  have q2:=Bool.and_eq_true_iff.mp q.2
  cases suite with
  | nil=>exact (nomatch q2.2)
  | cons s₀ su =>
   have hok:∀ c,(W.exn c&&W.sub c k)=true→W.exn c=true∧W.sub c k=true:=fun c z=>Bool.and_eq_true_iff.mp z
   refine OP.bind (OP.self _) fun ls h1=>?_
   have hsu:∀ x,SndXs ((C.at f).heat x) (d+1) env sc ns (s₀::su) (seqS ls):=fun x=>snd_seq (sims_ok (C:=C.heat x) (W:=W.heat) (fun g=>(hO g).heat x) (f:=f) hE ls h1)
   cases n with
   | none=>exact .some (snd_try0 (C:=C.at f) ((hO f).hot hw) (fun g=>hO g) hE hT hb q.1 q2.1 hok hsu)
   | some x=>exact .ite fun hx=>OP.map (OP.self _) fun i hi=>snd_try1 (C:=C.at f) ((hO f).hot hw) (fun g=>hO g) hE hT hb q.1 q2.1 (eq_of_beq hx) hi hok hsu
noncomputable def DsA (C:Cx)(G:GI)(W:Wd)(d:Nat)(s:Stmt):Prop:=∀ f env mu sc ns,EnvOk env sc→(∃ l,C.aux.frs=env::l)→OP (dS W G mu sc ns s) (SndX (C.at f) (d+1) env sc ns s)
noncomputable def DssA (C:Cx)(G:GI)(W:Wd)(d:Nat)(ss:List Stmt):Prop:=∀ f env mu sc ns,EnvOk env sc→(∃ l,C.aux.frs=env::l)→OP (dSs W G mu sc ns ss) fun ms=>All2 (SndX (C.at f) (d+1) env sc ns) ss ms
theorem ds_none {s:Stmt}(h:∀ mu sc ns,dS W G mu sc ns s=none):DsA C G W d s:=fun f env mu sc ns hE hT=>by rw[h];exact .none
theorem ds_expr (hO:∀ f,Ok (C.at f) K G W d){e:Expr}{pos:Pos}:DsA C G W d (.Expr e pos):=fun f env mu sc ns hE hT=>.ite fun hc=>OP.map (dn_all hO e f env sc ns hE).v fun m hm=>snd_expr hE hm.2 (by
 cases q:ev e with
 | call fn as ks p=>rw[ev_is q];rfl
 | _=>rw[q] at hc;cases hc)
theorem ds_ret (hO:∀ f,Ok (C.at f) K G W d){e:Option Expr}{pos:Pos}:DsA C G W d (.Return e pos):=fun f env mu sc ns hE hT=>OP.bind (OP.self e) fun e' he=>by
 subst he
 have ih:=dn_all hO e' f env sc ns hE
 refine OP.map (OP.self _) fun m q=>snd_return ?_
 cases z:(dn W G sc ns e').fr&&mu.contains (nm "return") with
 | false=>exact (ih.v m q).2
 | true=>exact (ih.f (Bool.and_eq_true_iff.mp z).1 m q).own
theorem ds_asg (hw:W.hot=false)(hO:∀ f,Ok (C.at f) K G W d){ts:List Expr}{e:Expr}{pos:Pos}:DsA C G W d (.Assign ts e pos):=fun f env mu sc ns hE hT=>(one1_ok ts).bind fun t ht=>by subst ht;exact (val_ok hO hE).bind fun m hm=>asg_ok hw hO hE hm
theorem ds_if (hO:∀ f,Ok (C.at f) K G W d){t:Expr}{b o:List Stmt}{pos:Pos}(I:DssA C G W d b)(J:DssA C G W d o):DsA C G W d (.If t b o pos):=fun f env mu sc ns hE hT =>
 OP.bind (dn_all hO t f env sc ns hE).b fun mt h1=>(I f env mu sc ns hE hT).bind fun mb h2=>(J f env mu sc ns hE hT).map fun mo h3=>snd_if h1 (snd_seq h2) (snd_seq h3)
theorem ds_for (hw:W.hot=false)(hO:∀ f,Ok (C.at f) K G W d){t it:Expr}{b o:List Stmt}{pos:Pos}(I:DssA C G W d b):DsA C G W d (.For t it b o pos):=fun f env mu sc ns hE hT=>.ite fun hc=>by
 cases List.isEmpty_iff.mp hc
 exact (dTg_ok t).bind fun tg h1=>(for_ok hw hO hE).bind fun s h2=>OP.map (OP.self _) fun mb h3=>snd_for hE h1 h2.1 (fun g=>snd_seq (I g env mu sc ns hE hT mb h3)) (set_plain' h2.2 env)
theorem ds_try (hw:W.hot=false)(hO:∀ f,Ok (C.at f) K G W d){b o fb:List Stmt}{hs:List ExceptHandler}{pos:Pos}(I:DssA C G W d b):DsA C G W d (.Try b hs o fb pos):=fun f env mu sc ns hE hT=>.ite fun hc=>by
 have hc:=Bool.and_eq_true_iff.mp hc
 cases List.isEmpty_iff.mp hc.1
 cases List.isEmpty_iff.mp hc.2
 exact (I f env mu sc ns hE hT).bind fun mb h1=>(one1_ok hs).bind fun h hh=>by subst hh;exact let ⟨l,hl⟩:=hT;hand_ok hw hO hE hl (snd_seq h1) h
theorem get_ok {C:Cx}{d:Nat}{env:Env}{sc:Scope}{ns:List Str}{s:Stmt}{o:Option (M Flow)}(h:OP o (SndX C d env sc ns s)):SndX C d env sc ns s (o.getD stuck):=by
 cases o with
 | none=>exact .of fun A s ρ st Q E X hA hS hw=>hw.1.elim
 | some m=>exact h m rfl
mutual
theorem dS_all (hw:W.hot=false)(hO:∀ f,Ok (C.at f) K G W d):∀ s:Stmt,DsA C G W d s
 | .Expr ..=>ds_expr hO
 | .Pass ..=>fun _ _ _ _ _ _ _=>.some snd_pass
 | .Return ..=>ds_ret hO
 | .Assign ..=>ds_asg hw hO
 | .If _ b o _=>ds_if hO (dSs_all hw hO b) (dSs_all hw hO o)
 | .While ..=>ds_none fun _ _ _=>rfl
 | .For _ _ b _ _=>ds_for hw hO (dSs_all hw hO b)
 | .Raise _ f _=>fun _ _ _ _ _ hE _=>.ite fun h=>by cases f with | none=>exact raise_ok hw hO hE | some _=>cases h
 | .Try b _ _ _ _=>ds_try hw hO (dSs_all hw hO b)
 | .FunctionDef ..=>ds_none fun _ _ _=>rfl
 | .AsyncFunctionDef ..=>ds_none fun _ _ _=>rfl
 | .ClassDef ..=>ds_none fun _ _ _=>rfl
 | .Delete ..=>ds_none fun _ _ _=>rfl
 | .TypeAlias ..=>ds_none fun _ _ _=>rfl
 | .AugAssign ..=>ds_none fun _ _ _=>rfl
 | .AnnAssign ..=>ds_none fun _ _ _=>rfl
 | .AsyncFor ..=>ds_none fun _ _ _=>rfl
 | .With ..=>ds_none fun _ _ _=>rfl
 | .AsyncWith ..=>ds_none fun _ _ _=>rfl
 | .Match ..=>ds_none fun _ _ _=>rfl
 | .TryStar ..=>ds_none fun _ _ _=>rfl
 | .Assert ..=>ds_none fun _ _ _=>rfl
 | .Import ..=>ds_none fun _ _ _=>rfl
 | .ImportFrom ..=>ds_none fun _ _ _=>rfl
 | .Global ..=>ds_none fun _ _ _=>rfl
 | .Nonlocal ..=>ds_none fun _ _ _=>rfl
 | .Break ..=>ds_none fun _ _ _=>rfl
 | .Continue ..=>ds_none fun _ _ _=>rfl
termination_by structural s=>s
theorem dSs_all (hw:W.hot=false)(hO:∀ f,Ok (C.at f) K G W d):∀ ss:List Stmt,DssA C G W d ss
 | []=>fun _ _ _ _ _ _ _=>.some trivial
 | s::r=>fun f env mu sc ns hE hT=>(dSs_all hw hO r f env mu sc ns hE hT).map fun l h2=>⟨get_ok (dS_all hw hO s f env mu sc ns hE hT),h2⟩
termination_by structural ss=>ss
end
theorem dSs_ok (hw:W.hot=false)(hO:∀ f,Ok (C.at f) K G W d){f:Addr→Prop}{env:Env}{mu:List Str}{sc:Scope}{ns:List Str}(hE:EnvOk env sc)(hT:∃ l,C.aux.frs=env::l)(ss:List Stmt){ms:List (M Flow)}(h:dSs W G mu sc ns ss=some ms):All2 (SndX (C.at f) (d+1) env sc ns) ss ms:=dSs_all hw hO ss f env mu sc ns hE hT ms h
end
end Mine
namespace Mine
set_option backward.match.sparseCases false
open PySem PyProof.Rows PySem.W
theorem mg_of {K:Frag}{h:Heap}{mg:Str→Option Value}(hK:K.In h)(hg:h.Ns mainGlobals mg){x:Str}{r:Option Value}(e:nsIn K mainGlobals x=some r):mg x=r:=by
 unfold nsIn at e
 split at e
 ·rename_i c d es n sl ho
  obtain⟨o,es',ep,h1,h2,h3,h4⟩:=hg
  have h5:=hK _ _ ho
  obtain rfl:=some_eq h1 h5
  cases h2
  rw[← h4 x]
  unfold nsFind findBy
  rw[← Array.find?_toList]
  split at e
  ·rename_i en he;obtain rfl:=Option.some.inj e;rw[he];rfl
  ·rename_i he
   rw[he]
   split at e
   ·cases e
   ·obtain rfl:=Option.some.inj e;rfl
 ·cases e
theorem elim_ok {α:Type}{o:Option α}{f:α→Bool}(h:o.elim false f=true):∃ a,o=some a∧f a=true:=by
 cases o with
 | none=>cases h
 | some a=>exact⟨a,rfl,h⟩
theorem refIn_some {o:Option (Option Value)}{a:Addr}(h:refIn o=some a):o=some (some (.ref a)):=by
 unfold refIn at h
 split at h
 ·obtain rfl:=Option.some.inj h;rfl
 ·cases h
theorem gAddr_some {K:Frag}{x:Str}{a:Addr}(h:gAddr K x=some a):nsIn K mainGlobals x=some (some (.ref a)):=refIn_some h
theorem mAddr_some {K:Frag}{k:Addr}{x:Str}{a:Addr}(h:mAddr K k x=some a):findIn K (.ref k) x=some (some (.ref a)):=refIn_some h
theorem adr_base {K:Frag}(k:FnKey):adr K k.base=adr K k:=by cases k <;> rfl
theorem map_eq_mem {α β:Type}{f g:α→β}:∀ {l:List α},l.map f=l.map g→∀ x∈l,f x=g x
 | [],_,_,h=>(nomatch h)
 | y::l,e,x,h=>by
  simp only[List.map_cons,List.cons.injEq] at e
  cases h with
  | head=>exact e.1
  | tail _ h=>exact map_eq_mem e.2 x h
theorem fnV_some {K:Frag}{a:Option Addr}{fd:FuncData}(h:fnV K a=some fd):∃ b o,a=some b∧K.lookup b=some o∧o.data=.func fd:=by
 unfold fnV at h
 split at h
 ·rename_i b
  split at h
  ·rename_i c d fd' sl q
   obtain rfl:=Option.some.inj h
   exact⟨b,_,rfl,q,rfl⟩
  ·cases h
 ·cases h
theorem code_ok {K:Frag}{h:Heap}(hK:K.In h){cd:Value}{q:Str}(e:codeB K cd q=true):h.CodeRec cd q:=by
 cases cd <;> first | cases e | skip
 rename_i c
 unfold codeB at e
 dsimp only at e
 split at e
 ·rename_i ho
  split at e
  ·rename_i y t hv
   refine⟨c,_,_,t,rfl,hK _ _ ho,rfl,?_⟩
   rw[hv,eq_of_beq e]
  ·cases e
 ·cases e
theorem isNone_ok {v:Value}(h:isNoneV v=true):v=.none:=by
 cases v <;> first | rfl | cases h
theorem fn_ok {C:Cx}{K:Frag}(hK:K.In C.base){f:FnD}(hs:fnShape K f=wantShape f)(hb:fnB K f=true):∃ a,adr K f.key=some a∧FnOk C f a∧FnGood f:=by
 unfold fnShape wantShape at hs
 obtain⟨fd,h1,h2⟩:=Option.map_eq_some_iff.mp hs
 obtain⟨a,o,h3,h4,h5⟩:=fnV_some h1
 unfold fnB fnH at hb
 rw[h1] at hb
 simp only[Bool.and_eq_true,beq_iff_eq,List.isEmpty_iff,Option.isNone_iff_eq_none] at hb
 obtain⟨hok,⟨⟨⟨⟨⟨⟨⟨⟨⟨⟨⟨b1,b2⟩,b3⟩,b4⟩,b5⟩,b6⟩,b7⟩,b8⟩,b9⟩,b10⟩,b11⟩,b12⟩⟩:=hb
 simp only[Prod.mk.injEq] at h2
 refine⟨a,h3,⟨o,fd,fd.params.args,hK _ _ h4,h5,h2.1,h2.2,b1,b2,b3,code_ok hK b4,?_,b11,isNone_ok b12⟩,FnD.good hok⟩
 rcases hp:fd.params with ⟨c1,c2,c3,c4,c5,c6,c7⟩
 rw[hp] at b5 b6 b7 b8 b9 b10
 simp only at b5 b6 b7 b8 b9 b10 ⊢
 rw[b5,b6,b7,b8,b9,b10]
theorem FnKey.beq_eq {a b:FnKey}(h:a.beq b=true):a=b:=by
 cases a with
 | fn x=>cases b <;> first | cases h | (rw[eq_of_beq (show (_==_)=true from h)])
 | meth a b' =>
  cases b <;> first | cases h | skip
  rename_i c d
  have h':(a==c&&b'==d)=true:=h
  rw[Bool.and_eq_true] at h'
  rw[eq_of_beq h'.1,eq_of_beq h'.2]
 | fnR x=>cases h
 | methR c m=>cases h
theorem intIs_ok {b:Int}{x:Option (Option Value)}(h:intIs b x=true):∃ t,x=some (some (.int b t)):=by
 unfold intIs at h
 split at h
 ·rename_i c t;exact⟨t,by rw[eq_of_beq h]⟩
 ·cases h
theorem strIs_ok {b:List Nat}{x:Option (Option Value)}(h:strIs b x=true):∃ t,x=some (some (.str ⟨b.toArray⟩ t)):=by
 unfold strIs at h
 split at h
 ·rename_i c t;exact⟨t,by rw[eq_of_beq h]⟩
 ·cases h
structure TopOk (K:Frag)(p:List Stmt):Prop where
 shape:(fnsOf p).map (fnShape K)=(fnsOf p).map wantShape
 fns:(fnsOf p).all (fnB K)=true
 keys:(fnsOf p).all (keyB K)=true
 consts:(giOf p).consts.all (constB K)=true
 clss:(giOf p).clss.all (fun x=>(gAddr K x).isSome)=true
 blt:bltTab.all (bltB K (giOf p))=true
 sys:(K.lookup sysModules).isSome=true
 exc:excB K p=true
theorem blt_boot:(bltTab.all fun q=>bootBuiltins q.1==some q.2&&!(q.1==("__name__" : Str)))=true:=by decide +kernel
noncomputable def FnAt (C:Cx)(p:List Stmt)(a:Addr)(key:FnKey):Prop:=∀ f,(fnsOf p).find? (fun f=>f.key.beq key.base)=some f→FnOk C f a∧FnGood f
section
variable {C:Cx}{K:Frag}{p:List Stmt}
theorem TopOk.fnAt (T:TopOk K p)(hK:K.In C.base){key:FnKey}{a:Addr}(ha:adr K key=some a):FnAt C p a key:=fun f hf=>by
 have hm:=List.mem_of_find?_eq_some hf
 have hk:=FnKey.beq_eq (List.find?_some (p:=fun f:FnD=>f.key.beq key.base) hf)
 obtain⟨b,h1,h2,h3⟩:=fn_ok hK (map_eq_mem T.shape f hm) (List.all_eq_true.mp T.fns f hm)
 rw[hk,adr_base,ha] at h1
 obtain rfl:=Option.some.inj h1
 exact⟨h2,h3⟩
theorem cxOk (T:TopOk K p)(hK:K.In C.base)(hg:C.base.Ns mainGlobals C.mg)(hb:C.base.Ns builtinsNs C.mb)(hl:C.base.NoLimit)(hbt:∀ x:Str,x ≠ "__name__" → C.mb x=bootBuiltins x):CxOk C (giOf p) where
 g:=hg
 b:=hb
 lim:=hl
 sys:=by obtain⟨o,ho⟩:=Option.isSome_iff_exists.mp T.sys;exact⟨o,hK _ _ ho⟩
 blt:=fun x v h1 h2 h3 h4=>by
  have hm:=lookup_mem h1
  have q:=List.all_eq_true.mp T.blt _ hm
  have q2:=List.all_eq_true.mp blt_boot _ hm
  simp only[bltB,Bool.or_eq_true,h2,h3,Bool.false_eq_true,false_or,beq_iff_eq] at q
  simp only[Bool.and_eq_true,beq_iff_eq,Bool.not_eq_true',beq_eq_false_iff_ne,ne_eq] at q2
  refine⟨?_,(hbt x q2.2).trans q2.1⟩
  rcases q with q | q
  ·rw[Option.isNone_iff_eq_none.mp h4] at q;cases q
  ·exact mg_of hK hg q
 const:=fun x v h=>by
  have q:=List.all_eq_true.mp T.consts _ (lookup_mem h)
  unfold constB at q
  dsimp only at q
  cases v <;> first | cases q | skip
  ·obtain⟨t,e⟩:=intIs_ok q
   exact⟨_,mg_of hK hg e,fun _ _=>by exact⟨t,rfl⟩⟩
  ·obtain⟨t,e⟩:=strIs_ok q
   exact⟨_,mg_of hK hg e,fun _ _=>by exact⟨t,rfl⟩⟩
 cls:=fun x h=>by
  have q:=List.all_eq_true.mp T.clss x (by simpa using h)
  obtain⟨a,ha⟩:=Option.isSome_iff_exists.mp q
  exact⟨a,mg_of hK hg (gAddr_some ha)⟩
theorem exns_mem {c:Str}(h:exnOf p c=true):c∈exns p:=by
 have h':=h
 unfold exnOf at h'
 rw[Bool.and_eq_true] at h'
 exact List.mem_filter.mpr ⟨by simpa using h'.1,h⟩
theorem TopOk.exc1 (T:TopOk K p){c:Str}(h:exnOf p c=true):Mine.exc1 K p c=true∧∀ d,exnOf p d=true→exc2 K p c d=true:=by
 have q:=T.exc
 unfold excB at q
 rw[Bool.and_eq_true] at q
 have q2:=List.all_eq_true.mp q.1 c (exns_mem h)
 rw[Bool.and_eq_true] at q2
 exact⟨q2.1,fun d hd=>List.all_eq_true.mp q2.2 d (exns_mem hd)⟩
noncomputable def OwnsAt (C:Cx)(p:List Stmt):Prop:=∀ c,exnOf p c=true→∃ k,OwnClsQ c k bmV "ValueError.__new__" C.mg C.base
theorem excCls (T:TopOk K p)(hK:K.In C.base)(hg:C.base.Ns mainGlobals C.mg)(hx:OwnsAt C p){c:Str}(h:exnOf p c=true):∃ k,ExcCls C K c k∧subIn K (.ref k) (.type "ValueError")=some (subOf (basesOf p) 6 c (nm "ValueError")):=by
 obtain⟨k,O⟩:=hx c h
 have q:=(T.exc1 h).1
 unfold Mine.exc1 at q
 split at q
 case h_2=>cases q
 rename_i k' hk'
 have e:=mg_of hK hg (gAddr_some hk')
 rw[O.bound] at e
 cases e
 simp only[Bool.and_eq_true,beq_iff_eq] at q
 obtain⟨⟨⟨⟨⟨⟨q1,q2⟩,q3⟩,q4⟩,q5⟩,q6⟩,q7⟩:=q
 exact⟨k,⟨O,q1,q2,q3,q4,q5,q6⟩,q7⟩
theorem has_mem {c x:Str}(h:hasOf p c x=true):∃ f∈fnsOf p,f.key=.meth c x:=by
 unfold hasOf at h
 obtain⟨f,h1,h2⟩:=List.any_eq_true.mp h
 exact⟨f,h1,FnKey.beq_eq h2⟩
theorem fns_mem {x:Str}(h:(giOf p).fns.contains x=true):∃ f∈fnsOf p,f.key=.fn x:=by
 have h':x∈(giOf p).fns:=by simpa using h
 obtain⟨f,h1,h2⟩:=List.mem_filterMap.mp (show x∈List.filterMap _ (fnsOf p) from h')
 refine⟨f,h1,?_⟩
 split at h2
 ·rename_i y hy;obtain rfl:=Option.some.inj h2;exact hy
 ·cases h2
theorem fld_mem {c x:Str}(h:fldOf p c x=true):∃ f∈fnsOf p,∃ m,f.key=.meth c m∧x∈fieldsIn f.body:=by
 unfold fldOf at h
 obtain⟨f,h1,h2⟩:=List.any_eq_true.mp h
 split at h2
 ·rename_i c' m hk
  simp only[Bool.and_eq_true,List.contains_iff_mem] at h2
  exact⟨f,h1,m,by rw[hk,eq_of_beq h2.1],h2.2⟩
 ·cases h2
noncomputable abbrev FK (C:Cx)(d:Nat)(a:Addr)(_:FnKey)(g:List V→M V):Prop:=FSnd C d a g
theorem stuck_snd (C:Cx)(d:Nat)(a:Addr)(key:FnKey):FK C d a key (fun _=>stuck):=fun env sc ns vs vals s ρ st hv A Q E X hA hS hw hX=>hw.elim
theorem FnAt.at {f:Addr→Prop}{x:Aux}{a:Addr}{key:FnKey}(h:FnAt C p a key):FnAt (C.at f x) p a key:=fun g hg=>⟨⟨(h g hg).1.fn⟩,(h g hg).2⟩
theorem FnAt.back {f:Addr→Prop}{x:Aux}{a:Addr}{key:FnKey}(h:FnAt (C.at f x) p a key):FnAt C p a key:=fun g hg=>⟨⟨(h g hg).1.fn⟩,(h g hg).2⟩
theorem FK.of_fn (hl:C.base.NoLimit){d:Nat}{a:Addr}{key:FnKey}(hO:∀ f x,x.hot=none→Ok (C.at f x) K (giOf p) (wdOf p (cfOf p d) (chOf p d)) d)(h:FnAt C p a key)(f:Addr→Prop)(x:Aux)(hx:x.hot=none):FK (C.at f x) (d+1) a key (cfOf p (d+1) key):=by
 unfold cfOf
 split
 ·rename_i g hf
  obtain⟨h1,h2⟩:=h.at (f:=f) (x:=x) g hf
  unfold FnD.sem
  split
  ·rename_i l hl'
   exact call_snd hl h1 h2 fun env f' hE=>snd_seq (dSs_ok (C:=C.at f ⟨env::x.frs,x.hot⟩) rfl (fun f''=>hO f'' ⟨env::x.frs,x.hot⟩ hx) (f:=f') hE ⟨_,rfl⟩ g.body hl')
  ·exact fun env sc ns vs vals s ρ st hv A Q E X hA hS hw hX=>hw.elim
 ·exact stuck_snd (C.at f x) _ _ _
theorem key_meth (T:TopOk K p)(hK:K.In C.base)(hg:C.base.Ns mainGlobals C.mg){c m:Str}{k:Addr}{f:FnD}(hm:f∈fnsOf p)(hk:f.key=.meth c m)(hc:C.mg c=some (.ref k)):gAddr K c=some k∧plainGet K k m=true∧∃ a,mAddr K k m=some a∧(isFn K (.ref a)=true∧keepIn K (.ref a)=true)∧(!(m==nm "__init__") || (keepIn K (.ref k)&&makesIn K k))=true∧(fieldsIn f.body).all (fldB K k)=true:=by
 have q:=List.all_eq_true.mp T.keys f hm
 unfold keyB at q
 rw[hk] at q
 obtain⟨k',hk',q⟩:=elim_ok q
 have e:=(mg_of hK hg (gAddr_some hk')).symm.trans hc
 cases e
 simp only[Bool.and_eq_true] at q
 obtain⟨a,ha,z⟩:=elim_ok q.1.1.2
 exact⟨hk',q.1.1.1,a,ha,Bool.and_eq_true_iff.mp z,q.1.2,q.2⟩
theorem ok_of (T:TopOk K p)(hK:K.In C.base){hot:Bool}(hx:hot=false→C.aux.hot=none)
  (ho:OwnsAt C p)
  (cx:CxOk C (giOf p)) {d:Nat} {cf:FnKey→List V→M V} {ch:Str→List V→M V} (hf:∀ key a,FnAt C p a key→FK C d a key (cf key)) (hc:∀ x a e,FnAt C p a (.fn x)→FSnd (C.at C.off ⟨C.aux.frs,some e⟩) d a (ch x)):Ok C K (giOf p) (wdOf p cf ch hot) d where
 cx:=cx
 inK:=hK
 fn:=fun x h=>by
  obtain⟨f,hm,hk⟩:=fns_mem h
  have q:=List.all_eq_true.mp T.keys f hm
  unfold keyB at q
  rw[hk] at q
  obtain⟨a,ha,q⟩:=elim_ok q
  exact⟨a,mg_of hK cx.g (gAddr_some ha),q,hf (.fn x) _ (T.fnAt hK (key:=.fn x) ha),hf (.fnR x) _ (T.fnAt hK (key:=.fnR x) ha)⟩
 meth:=fun c k x hc h=>by
  obtain⟨f,hm,hk⟩:=has_mem h
  obtain⟨hk',q1,a,ha,q2,_⟩:=key_meth T hK cx.g hm hk hc
  exact⟨q1,a,mAddr_some ha,q2.1,q2.2,hf (.meth c x) _ (T.fnAt hK (key:=.meth c x) (by show (gAddr K c).bind _=_;rw[hk'];exact ha)),hf (.methR c x) _ (T.fnAt hK (key:=.methR c x) (by show (gAddr K c).bind _=_;rw[hk'];exact ha))⟩
 fld:=fun c k x hc h=>by
  obtain⟨f,hm,m,hk,hx⟩:=fld_mem h
  obtain⟨_,_,_,_,_,_,q⟩:=key_meth T hK cx.g hm hk hc
  have q4:=List.all_eq_true.mp q x hx
  unfold fldB at q4
  simp only[Bool.and_eq_true,beq_iff_eq] at q4
  obtain⟨⟨⟨⟨⟨b1,b2⟩,b3⟩,b4⟩,b5⟩,b6⟩:=q4
  exact⟨b1,b2,elim_ok b3,b4,b5,b6⟩
 new:=fun c k hc h=>by
  obtain⟨f,hm,hk⟩:=has_mem h
  obtain⟨hk',_,a,ha,q2,q3,_⟩:=key_meth T hK cx.g hm hk hc
  rw[beq_self_eq_true,Bool.not_true,Bool.false_or,Bool.and_eq_true] at q3
  exact⟨q3.1,q3.2,a,mAddr_some ha,q2.1,hf (.meth c (nm "__init__")) _ (T.fnAt hK (key:=.meth c (nm "__init__")) (by show (gAddr K c).bind _=_;rw[hk'];exact ha))⟩
 hot:=hx
 ch:=fun x a e h q=>by
  obtain⟨f,hm,hk⟩:=fns_mem h
  have z:=List.all_eq_true.mp T.keys f hm
  unfold keyB at z
  rw[hk] at z
  obtain⟨a',ha,_⟩:=elim_ok z
  have z2:=mg_of hK cx.g (gAddr_some ha)
  rw[q] at z2
  cases z2
  exact hc x a e (T.fnAt hK (key:=.fn x) ha)
 exc:=fun c q=>let ⟨k,O,_⟩:=excCls T hK cx.g ho q;⟨k,O⟩
 dct:=fun q=>by
  have z:=T.exc
  unfold excB at z
  rw[Bool.and_eq_true] at z
  have q':exnOf p (nm "dict")=true:=q
  rw[q'] at z
  exact Bool.noConfusion z.2
 exs:=fun c d k l h1 h2 h3 h4=>by
  have q:=(T.exc1 h1).2 d h2
  obtain⟨k',e1,q⟩:=elim_ok q
  obtain⟨l',e2,q⟩:=elim_ok q
  have z1:=mg_of hK cx.g (gAddr_some e1)
  have z2:=mg_of hK cx.g (gAddr_some e2)
  rw[h3] at z1
  rw[h4] at z2
  cases z1
  cases z2
  exact beq_iff_eq.mp q
 exv:=fun c k h1 h2=>by
  obtain⟨k',O,q⟩:=excCls T hK cx.g ho h1
  have z:=O.own.bound
  rw[h2] at z
  cases z
  exact q
theorem hot_ok (T:TopOk K p)(hK:K.In C.base)(ho:OwnsAt C p)(cx:∀ f x,CxOk (C.at f x) (giOf p)):∀ d f y x a,FnAt C p a (.fn x)→FSnd (C.at f y) d a (chOf p d x)
 | 0,f,y,x,a,_=>no_call
 | d+1,f,y,x,a,h=>by
  show FSnd (C.at f y) (d+1) a (match (fnsOf p).find? (fun f=>f.key.beq (.fn x)) with
   | some f=>f.hot (wdH p) (giOf p)
   | none=>fun _=>stuck)
  split
  ·rename_i g hf
   obtain⟨h1,h2⟩:=h.at (f:=f) (x:=y) g hf
   unfold FnD.hot
   split
   ·rename_i l hl
    exact call_snd (cx C.off C.aux).lim h1 h2 fun env f' hE=>snd_seq (sims_ok (C:=C.at f ⟨env::y.frs,y.hot⟩) (W:=wdH p) (d:=d) (fun f''=>ok_of (C:=C.at f'' ⟨env::y.frs,y.hot⟩) (hot:=true) T hK (fun q=>Bool.noConfusion q) ho (cx f'' ⟨env::y.frs,y.hot⟩) (fun _ _ _=>no_call) fun _ _ _ _=>no_call) (f:=f') hE l hl)
   ·exact no_call
  ·exact no_call
theorem all_ok (T:TopOk K p)(hK:K.In C.base)
  (ho:OwnsAt C p)
  (cx:∀ f x,CxOk (C.at f x) (giOf p)):∀ d,(∀ f x key a,x.hot=none→FnAt C p a key→FK (C.at f x) d a key (cfOf p d key))
 | 0,f,x,key,a,_,_=>stuck_snd (C.at f x) 0 a key
 | d+1,f,x,key,a,hx,h=>.of_fn (cx C.off C.aux).lim (fun g y hy=>ok_of (C:=C.at g y) T hK (fun _=>hy) ho (cx g y) (fun key a h=>all_ok T hK ho cx d g y key a hy (FnAt.back h)) fun x a e h=>hot_ok T hK ho cx d _ _ x a (FnAt.back h)) h f x hx
end
end Mine
namespace Mine
set_option backward.match.sparseCases false
open PySem PyProof.Rows PySem.W
theorem inv_start (C:Cx)(hs:∃ o,C.base.get? sysModules=some o)(h:∀ a,¬ C.off a):Inv C C.base [] [] :=
 ⟨fun _ _ e=>e,rfl,List.nodup_nil,hs,fun a ha=>(nomatch ha),fun a q=>absurd q (h a),fun i o ho=>by simp at ho⟩
theorem run_law {C:Cx}{K:Frag}{p:List Stmt}(T:TopOk K p)(hK:K.In C.base)(haux:C.aux=⟨[],none⟩)
  (ho:OwnsAt C p)
  (cx:∀ f x,CxOk (C.at f x) (giOf p)) (hoff:∀ a,¬ C.off a) {d:Nat} {x:Str} {a:Addr} (hfa:FnAt C p a (.fn x)) {s:Shared} (hs:s.heap=C.base) {vs:List V} {vals:List Value} (hv:VRs C s.heap [] vs vals)
  {v:V} {obs':List Ob} (hrun:cfOf p (d+1) (.fn x) vs ⟨[],[]⟩=.ok v ⟨[],obs'⟩) {A:Around} (hA:AOk2 C.aux (d+1) A) {Q:Value→Shared→Prop} {E:Value→Shared→Prop}
  (hQ:∀ val s' ρ',VR C s'.heap ρ' v val→Inv C s'.heap ρ' obs'→Ext Nil s [] s' ρ'→Q val s'):codeAny (model C.prog C.w) A (.call (.ref a) ⟨vals,[]⟩) (Back Q E) s:=by
 have hO:∀ f x,x.hot=none→Ok (C.at f x) K (giOf p) (wdOf p (cfOf p d) (chOf p d)) d:=fun f x hx=>ok_of (C:=C.at f x) T hK (fun _=>hx) ho (cx f x) (fun key a h=>all_ok T hK ho cx d f x key a hx (FnAt.back h)) fun x a e h=>hot_ok T hK ho cx d _ _ x a (FnAt.back h)
 have e:cfOf p (d+1) (.fn x)=(match (fnsOf p).find? (fun f=>f.key.beq (.fn x)) with
  | some f=>f.sem (wdOf p (cfOf p d) (chOf p d)) (giOf p) false
  | none=>fun _=>stuck):=rfl
 rw[e] at hrun
 cases hf:(fnsOf p).find? (fun f=>f.key.beq (.fn x)) with
 | none=>rw[hf] at hrun;cases hrun
 | some f =>
  rw[hf] at hrun
  obtain⟨h1,h2⟩:=hfa f hf
  have e2:f.sem (wdOf p (cfOf p d) (chOf p d)) (giOf p) false=(match dSs (wdOf p (cfOf p d) (chOf p d)) (giOf p) (f.mu (giOf p) false) f.scope (slotsOf f.scope) f.body with
   | some l=>runFn f.key.raw f.params.length (slotsOf f.scope).length (seqS l)
   | none=>fun _=>stuck):=rfl
  dsimp only at hrun
  rw[e2] at hrun
  cases hl:dSs (wdOf p (cfOf p d) (chOf p d)) (giOf p) (f.mu (giOf p) false) f.scope (slotsOf f.scope) f.body with
  | none=>rw[hl] at hrun;cases hrun
  | some l =>
   rw[hl] at hrun
   dsimp only at hrun
   have hh:C.aux.hot=none:=by rw[haux]
   refine call_gen (Φ:=fun s ρ st=>Inv C s.heap ρ st.obs) (fun _ _ _ h=>h) (fun s ρ st h=>⟨fun env he=>(by rw[haux] at he;cases he),fun e he=>(by rw[haux] at he;cases he)⟩) (fun s ρ st s' ρ' obs' h e I=>I) (cx C.off C.aux).lim h1 h2 (fun env g hE=>snd_seq (dSs_ok (C:=C.at C.off ⟨env::C.aux.frs,C.aux.hot⟩) rfl (fun f''=>hO f'' ⟨env::C.aux.frs,C.aux.hot⟩ hh) (f:=g) hE ⟨_,rfl⟩ f.body hl)) (raw:=f.key.raw) default vs vals s [] ⟨[],[]⟩ hv A Q E (fun _ _=>False) hA ?_ ?_ (fun _ _ _ _ _ _ h _ _ _=>h.elim)
   ·show Inv C s.heap [] []
    rw[hs];exact inv_start C (cx C.off C.aux).sys hoff
   ·unfold wpM
    rw[hrun]
    exact fun val s' ρ' r I e=>hQ val s' ρ' r I e
theorem ints_vr {C:Cx}{h:Heap}{ρ:List Addr}:∀ {vs:List Value} {xs:List Int},IntsAre vs xs→VRs C h ρ (xs.map .int) vs
 | _,_,.nil=>by simp only[List.map,vS0,vS1]
 | _,_,.cons n t r=>by
  simp only[List.map,vS0,vS1]
  exact⟨_,_,rfl,⟨t,rfl⟩,ints_vr r⟩
theorem script_vr {C:Cx}(hoff:∀ a,¬ C.off a){L:Addr}{vs:List Value}{xs:List Int}{h:Heap}(hL:h.IsList L vs.toArray)(hi:IntsAre vs xs):VRs C h [] [.alist (xs.map .int)] [.ref L]:=by
 exact⟨_,_,rfl,⟨L,_,rfl,hL,⟨by simp,hoff L⟩,by simpa using ints_vr hi⟩,rfl⟩
theorem weight_int {i:Int}:PyData.weight (.int i)≤i.natAbs.log2+1∧i.natAbs.log2≤PyData.weight (.int i):=by
 unfold PyData.weight
 by_cases h:i=0
 ·subst h;simp
 ·have:(i==0)=false:=by simpa using h
  rw[this];simp
theorem weight_mem:∀ {xs:List Int} {x:Int},x∈xs→PyData.weight (.int x)≤PyData.weightAll (xs.map .int)
 | y::xs,x,h=>by
  simp only[List.map,PyData.weightAll]
  cases h with
  | head=>exact Nat.le_trans (Nat.le_succ _) (Nat.le_add_right _ _)
  | tail _ h=>exact Nat.le_trans (weight_mem h) (Nat.le_add_left _ _)
theorem lay_log {xs:List Int}(h:(PyData.list (xs.map .int)).layable0=true):∀ x∈xs,x.natAbs.log2<1048577:=by
 intro x hx
 unfold PyData.layable0 at h
 rw[Bool.and_eq_true,decide_eq_true_eq] at h
 have h1:=weight_mem hx
 have h2:=(weight_int (i:=x)).2
 exact Nat.lt_succ_of_le (Nat.le_trans h2 (Nat.le_trans h1 h.2))
theorem caller_ok {d:Nat}(h:d≤60):AOk2 ⟨[],none⟩ d callerA:=⟨by show 1+claimMargin+3*d+4≤990;exact Nat.le_trans (Nat.add_le_add_right (Nat.add_le_add_left (Nat.mul_le_mul_left 3 h) _) 4) (by decide),Nat.le_trans (Nat.add_le_add_right (Nat.add_le_add_left (Nat.mul_le_mul_left 100 h) 4) 250) (by decide),fun _=>rfl,fun _ q=>(nomatch q),rfl,rfl⟩
theorem close_law {p:List Stmt}{K:Frag}(hT:TopOk K p)(hadr:(gAddr K (nm "law")).isSome=true) {w:World} {s₁:Shared} {mg mb:Str→Option Value} {loose:List Str} {view:Program} {mean:ExcName→Option Value} {fa L:Addr} {vs:List Value} {xs:List Int} (KX:K.In s₁.heap) (T:Top view loose mean mg mb s₁.heap) (hmg:mg (nm "law")=some (.ref fa)) (hg:s₁.gens=#[])
  (hsp:∀ c,exnOf p c=true→specOf view c=some ("ValueError.__new__", bmV))
  (hL:s₁.heap.IsList L vs.toArray) (hI:IntsAre vs xs) {d:Nat} (hd:d≤50) (hrun:∃ obs',cfOf p (d+1) (.fn (nm "law")) [.alist (xs.map .int)] ⟨[],[]⟩=.ok (.bool true) ⟨[],obs'⟩) {prog:Program} {Z:Result→Shared→Prop}
  (hZ:∀ s',(∀ b o,s₁.heap.get? b=some o→s'.heap.get? b=some o)→s'.os=s₁.os→s'.gens=#[]→Z (.ok (.ret (.bool true))) s') :
  codeAny (model prog w) callerA (.call (.ref fa) ⟨[.ref L],[]⟩) Z s₁:=by
 let C:Cx:=⟨prog,w,s₁.heap,mg,mb,fun _=>False,⟨[],none⟩⟩
 have cx:∀ f x,CxOk (C.at f x) (giOf p):=fun f x=>cxOk (C:=C.at f x) hT KX T.g T.b T.nolimit T.builtins
 obtain⟨a,ha⟩:=Option.isSome_iff_exists.mp hadr
 have e:=mg_of KX T.g (gAddr_some ha)
 rw[hmg] at e
 cases e
 obtain⟨obs',hrun⟩:=hrun
 refine codeAny_mono (run_law (C:=C) hT KX rfl
  (fun c q=>let ⟨k,O,_⟩:=T.ownAt (hsp c q);⟨k,O⟩)
  cx (fun _ q=>q) (d:=d) (hT.fnAt KX (key:=.fn (nm "law")) ha) (s:=s₁) rfl (script_vr (C:=C) (fun _ q=>q) hL hI) hrun (caller_ok (Nat.le_trans (Nat.succ_le_succ hd) (by decide))) (Q:=fun v s'=>Z (.ok (.ret v)) s') (E:=fun _ _=>False) fun val s' ρ' hv I e=>?_) fun r s' z=>?_
 ·subst hv
  exact hZ s' I.base e.os (e.gens.trans hg)
 ·rcases r with e | (v | _ | _ | _) <;> first | exact z | exact z.elim
theorem fragAll_in (h:Heap):(fragAll h).In h:=by
 intro a o e
 have hm:=lookup_mem e
 unfold fragAll at hm
 obtain⟨⟨x,i⟩,h1,h2⟩:=List.mem_filterMap.mp (List.mem_reverse.mp hm)
 dsimp only at h2
 split at h2
 ·cases h2
 ·rename_i hf
  cases h2
  have h3:=List.mk_mem_zipIdx_iff_getElem?.mp h1
  rw[Array.getElem?_toList] at h3
  exact Heap.get?_some_iff.mpr ⟨h3,Bool.eq_false_iff.mpr hf⟩
noncomputable def topHook (p:List Stmt):Hook where
 α:=Bool×List (Option (Scope×FuncBody))
 obs:=topObs p
 val:=topVal p
 says:=fun _ h=>∃ K:Frag,K.In h∧TopOk K p∧(gAddr K (nm "law")).isSome=true
 of:=fun w s e=>by
  unfold topObs topVal at e
  have e1:=congrArg Prod.fst e
  have e2:=congrArg Prod.snd e
  dsimp only at e1 e2
  unfold topB at e1
  simp only[Bool.and_eq_true] at e1
  obtain⟨e1,b8⟩:=e1
  obtain⟨⟨⟨⟨⟨⟨b1,b2⟩,b3⟩,b4⟩,b5⟩,b7⟩,b6⟩:=e1
  exact⟨fragAll s.heap,fragAll_in _,⟨e2,b1,b2,b3,b4,b5,b7
   , b8
   ⟩,b6⟩
 keeps:=fun w h h' ⟨K,h1,h2⟩ hk=>⟨K,h1.keeps hk,h2⟩
end Mine
namespace Mine
set_option backward.match.sparseCases false
open PySem
noncomputable def Out.bind {α β:Type}:Out α→(α→M β)→Out β
 | .ok a s,f=>f a s
 | .exc c s,_=>.exc c s
 | .stuck,_=>.stuck
section
variable {α β:Type}
@[simp] theorem Out.bind_ok (a:α)(s:St)(f:α→M β):(Out.ok a s).bind f=f a s:=id rfl
@[simp] theorem ev_bind (m:M α)(f:α→M β)(st:St):M.bind m f st=(m st).bind f:=by unfold M.bind Out.bind;cases m st <;> rfl
@[simp] theorem calm_ok (a:α)(s:St):(Out.ok a s).calm=.ok a s:=id rfl
@[simp] theorem ev_noX (m:M α)(st:St):noX m st=(m st).calm:=id rfl
@[simp] theorem ev_pure (a:α)(st:St):M.pure a st=.ok a st:=id rfl
@[simp] theorem ev_const (v:V)(st:St):constM v st=.ok v st:=id rfl
@[simp] theorem ev_var (i:Nat)(vars:List (Option V))(obs:List Ob):varM i ⟨vars,obs⟩=match vars[i]? with
 | some (some v)=>.ok v ⟨vars,obs⟩
 | _=>.stuck:=id rfl
@[simp] theorem ev_ite (c:Prop)[Decidable c](m n:M α)(st:St):(if c then m else n) st=if c then m st else n st:=by split <;> rfl
@[simp] theorem ev_bin (op:Operator)(a b:M V)(st:St):(binM op a b) st=(a.bind fun x=>b.bind fun y=>binV op x y) st:=rfl
@[simp] theorem ev_setVar (i:Nat)(v:V)(vars:List (Option V))(obs:List Ob):setVar i v ⟨vars,obs⟩=if i<vars.length then .ok () ⟨vars.set i (some v),obs⟩ else .stuck:=id rfl
@[simp] theorem ev_seqS_nil (st:St):seqS [] st=.ok .next st:=rfl
noncomputable def seqK (r:List (M Flow)):Flow→M Flow
 | .next=>seqS r
 | .ret v=>M.pure (.ret v)
@[simp] theorem seqK_next (r:List (M Flow)):seqK r .next=seqS r:=rfl
@[simp] theorem seqK_ret (r:List (M Flow))(v:V):seqK r (.ret v)=M.pure (.ret v):=rfl
@[simp] theorem ev_seqS_cons (m:M Flow)(r:List (M Flow))(st:St):(seqS (m::r)) st=(m.bind (seqK r)) st:=rfl
@[simp] theorem ev_assign (t:Tg)(m:M V)(st:St):(assignM t m) st=(m.bind fun v=>(asg t v).bind fun _=>M.pure .next) st:=rfl
@[simp] theorem ev_asg_var (i:Nat)(v:V)(st:St):(asg (.var i) v) st=(setVar i v) st:=rfl
@[simp] theorem ev_asg_tup (is:List Nat)(vs:List V)(st:St):(asg (.tup is) (.tuple vs)) st=(setVars is vs) st:=rfl
@[simp] theorem ev_setVars_cons (i:Nat)(is:List Nat)(v:V)(vs:List V)(st:St):(setVars (i::is) (v::vs)) st=((setVar i v).bind fun _=>setVars is vs) st:=rfl
@[simp] theorem ev_setVars_nil   (st:St):(setVars [] []) st=(M.pure ()) st:=rfl
@[simp] theorem ev_ret (m:M V)(st:St):(retM m) st=(m.bind fun v=>M.pure (.ret v)) st:=rfl
@[simp] theorem ev_expr (m:M V)(st:St):(exprM m) st=(m.bind fun _=>M.pure .next) st:=rfl
@[simp] theorem ev_app (f:List V→M V)(args:List (M V))(st:St):(appM f args) st=((seqM args).bind f) st:=rfl
@[simp] theorem ev_seqM_nil (st:St):seqM ([]:List (M α)) st=.ok [] st:=rfl
@[simp] theorem ev_seqM_cons (m:M α)(r:List (M α))(st:St):(seqM (m::r)) st=(m.bind fun v=>(seqM r).bind fun vs=>M.pure (v::vs)) st:=rfl
@[simp] theorem ev_meth (pick:V→M (List V→M V))(o:M V)(args:List (M V))(st:St):(methM pick o args) st=(o.bind fun v=>(pick v).bind fun f=>(seqM args).bind fun vs=>f (v::vs)) st:=rfl
@[simp] theorem ev_listM (es:List (M V))(st:St):(listM es) st=((seqM es).bind allocL) st:=rfl
@[simp] theorem ev_tupM (es:List (M V))(st:St):(tupM es) st=((seqM es).bind tupL) st:=rfl
@[simp] theorem ev_evB (m:M V)(st:St):(evB m) st=(m.bind asBool) st:=rfl
@[simp] theorem ev_boolV (m:M Bool)(st:St):(boolV m) st=(m.bind fun b=>M.pure (.bool b)) st:=rfl
@[simp] theorem ev_and_nil   (st:St):(andM []) st=(M.pure true) st:=rfl
@[simp] theorem ev_and_cons (m:M Bool)(r:List (M Bool))(st:St):(andM (m::r)) st=(m.bind fun b=>if b then andM r else M.pure false) st:=rfl
@[simp] theorem ev_or_nil   (st:St):(orM []) st=(M.pure false) st:=rfl
@[simp] theorem ev_or_cons (m:M Bool)(r:List (M Bool))(st:St):(orM (m::r)) st=(m.bind fun b=>if b then M.pure true else orM r) st:=rfl
@[simp] theorem ev_not (m:M Bool)(st:St):(notM m) st=(m.bind fun b=>M.pure !b) st:=rfl
@[simp] theorem ev_iteM (t:M Bool)(a b:M α)(st:St):(iteM t a b) st=(t.bind fun x=>if x then a else b) st:=rfl
@[simp] theorem ev_asBool (b:Bool)(st:St):(asBool (.bool b)) st=(M.pure b) st:=id rfl
@[simp] theorem ev_asInt (b:Int)(st:St):(asInt (.int b)) st=(M.pure b) st:=id rfl
@[simp] theorem ev_add_int (a b:Int)(st:St):(binV .Add (.int a) (.int b)) st=(M.pure (.int (a+b))) st:=id rfl
@[simp] theorem ev_add_flist (a b:List V)(st:St):(binV .Add (.flist a) (.flist b)) st=(allocL (a++b)) st:=id rfl
@[simp] theorem ev_sub_int (a b:Int)(st:St):(binV .Sub (.int a) (.int b)) st=(M.pure (.int (a-b))) st:=id rfl
noncomputable def mulG (a b:Int):Prop:=a.natAbs.log2+b.natAbs.log2<67108864
@[simp] theorem ev_mul_int {a b:Int}(h:mulG a b)(st:St):(binV .Mult (.int a) (.int b)) st=(M.pure (.int (a*b))) st:=by rw[show binV .Mult (.int a) (.int b)=M.pure (.int (a*b)) from if_pos h]
noncomputable def heavy (n:Nat)(c:Int):Prop:=c.natAbs.log2<n
theorem log2_of_lt {n:Nat}{k:Nat}(hk:0<k)(h:n<2 ^ k):n.log2<k:=by
 by_cases hn:n=0
 ·subst hn;simpa using hk
 ·exact (Nat.log2_lt hn).mpr h
theorem lt_of_log2 {n k:Nat}(h:n.log2<k):n<2 ^ k:=by
 by_cases hn:n=0
 ·subst hn;exact Nat.pow_pos (by decide)
 ·exact (Nat.log2_lt hn).mp h
theorem heavy_add {n:Nat}{a b:Int}(ha:heavy n a)(hb:heavy n b):heavy (n+1) (a+b):=by
 have h1:=lt_of_log2 ha
 have h2:=lt_of_log2 hb
 refine log2_of_lt (Nat.succ_pos n) ?_
 rw[Nat.pow_succ,Nat.mul_two]
 exact Nat.lt_of_le_of_lt (Int.natAbs_add_le a b) (Nat.add_lt_add h1 h2)
theorem heavy_mono {n m:Nat}{a:Int}(h:heavy n a)(hm:n≤m):heavy m a:=Nat.lt_of_lt_of_le h hm
theorem heavy_31 {a:Int}(h:-2147483648<a∧a<2147483648):heavy 31 a:=log2_of_lt (by decide) (by
 have:(2:Nat) ^ 31=2147483648:=by decide
 omega)
theorem mulG_of {n m:Nat}{a b:Int}(ha:heavy n a)(hb:heavy m b)(h:n+m<67108864):mulG a b:=by
 unfold mulG heavy at *;exact Nat.lt_trans (Nat.add_lt_add ha hb) h
theorem mulG_nat {a b:Nat}(ha:a≤1000)(hb:b≤1000):mulG (a:Int) (b:Int):=mulG_of (n:=31) (m:=31) (heavy_31 (by exact⟨Int.lt_of_lt_of_le (by decide) (Int.natCast_nonneg a),Int.lt_of_le_of_lt (Int.ofNat_le.mpr ha) (by decide)⟩)) (heavy_31 (by exact⟨Int.lt_of_lt_of_le (by decide) (Int.natCast_nonneg b),Int.lt_of_le_of_lt (Int.ofNat_le.mpr hb) (by decide)⟩)) (by decide)
theorem fmod_pos {a b:Int}(h:0<b):Int.fmod a b=a % b:=Int.fmod_eq_emod_of_nonneg a (Int.le_of_lt h)
theorem fdiv_pos {a b:Int}(h:0<b):Int.fdiv a b=a / b:=Int.fdiv_eq_ediv_of_nonneg a (Int.le_of_lt h)
theorem mod_pos' {a b:Int}(h:0<b):binV .Mod (.int a) (.int b)=M.pure (.int (a % b)):=by
 rw[← fmod_pos h]
 exact if_neg (by exact Int.ne_of_gt h)
@[simp] theorem ev_mod_pos {a b:Int}(h:0<b)(st:St):binV .Mod (.int a) (.int b) st=.ok (.int (a % b)) st:=by rw[mod_pos' h];rfl
theorem div_pos' {a b:Int}(h:0<b∧b<1073741824):binV .FloorDiv (.int a) (.int b)=M.pure (.int (a / b)):=by
 rw[← fdiv_pos h.1]
 exact if_neg fun q=>q.elim (fun e=>Int.ne_of_gt h.1 e) fun q=>Nat.not_lt_of_le q (Int.ofNat_lt.mp (by rw[Int.natAbs_of_nonneg (Int.le_of_lt h.1)];exact h.2))
@[simp] theorem ev_div_pos {a b:Int}(h:0<b∧b<1073741824)(st:St):binV .FloorDiv (.int a) (.int b) st=.ok (.int (a / b)) st:=by rw[div_pos' h];rfl
@[simp] theorem ev_cmp (a:M V)(r:List (CmpOp×M V))(st:St):(cmpM a r) st=(a.bind fun x=>chainM x r) st:=rfl
@[simp] theorem ev_chain1 (x:V)(op:CmpOp)(m:M V)(st:St):(chainM x [(op,m)]) st=(m.bind fun y=>cmpV op x y) st:=rfl
@[simp] theorem ev_chain2 (x:V)(op:CmpOp)(m:M V)(q:CmpOp×M V)(r:List (CmpOp×M V))(st:St):(chainM x ((op,m)::q::r)) st=(m.bind fun y=>(cmpV op x y).bind fun b=>if b then chainM y (q::r) else M.pure false) st:=rfl
@[simp] theorem ev_lt (a b:Int)(st:St):(cmpV .Lt (.int a) (.int b)) st=(M.pure (decide (a<b))) st:=id rfl
@[simp] theorem ev_le (a b:Int)(st:St):(cmpV .LtE (.int a) (.int b)) st=(M.pure (decide (a≤b))) st:=id rfl
@[simp] theorem ev_gt (a b:Int)(st:St):(cmpV .Gt (.int a) (.int b)) st=(M.pure (decide (a > b))) st:=id rfl
@[simp] theorem ev_ge (a b:Int)(st:St):(cmpV .GtE (.int a) (.int b)) st=(M.pure (decide (a ≥ b))) st:=id rfl
@[simp] theorem ev_eq (a b:V)(st:St):(cmpV .Eq a b) st=(pyEq a b) st:=id rfl
@[simp] theorem ev_ne (a b:V)(st:St):(cmpV .NotEq a b) st=((pyEq a b).bind fun x=>M.pure !x) st:=id rfl
@[simp] theorem ev_in (a b:List Nat)(st:St):(cmpV .In (.str a) (.str b)) st=(M.pure !(occ b a 1).isEmpty) st:=id rfl
@[simp] theorem ev_notin (a b:List Nat)(st:St):(cmpV .NotIn (.str a) (.str b)) st=((M.pure (!(occ b a 1).isEmpty)).bind fun x=>M.pure !x) st:=id rfl
theorem shaped_int (i:Int):SeqAt.shaped (.int i)=true:=rfl
theorem shaped_bool (i:Bool):SeqAt.shaped (.bool i)=true:=rfl
@[simp] theorem ev_eq_int (a b:Int)(st:St):pyEq (.int a) (.int b) st=.ok (a==b) st:=id rfl
@[simp] theorem ev_eq_bool (a b:Bool)(st:St):pyEq (.bool a) (.bool b) st=.ok (a==b) st:=id rfl
@[simp] theorem ev_getOb (a:Nat)(vars:List (Option V))(obs:List Ob):getOb a ⟨vars,obs⟩=match obs[a]? with
 | some o=>.ok o ⟨vars,obs⟩
 | none=>.stuck:=id rfl
@[simp] theorem ev_getList (a:Nat)(vars:List (Option V))(obs:List Ob):getList a ⟨vars,obs⟩=match obs[a]? with
 | some (.list xs)=>.ok xs ⟨vars,obs⟩
 | _=>.stuck:=by
 unfold getList
 rw[ev_bind,ev_getOb]
 cases obs[a]? with
 | none=>rfl
 | some o=>cases o <;> rfl
theorem le_lim {n:Nat}(h:n≤1000):n≤lim:=by unfold lim;exact Nat.le_trans h (by decide)
@[simp] theorem ev_allocL {xs:List V}(h:xs.length≤1000)(st:St):allocL xs st=.ok (.flist xs) st:=by
 unfold allocL;rw[if_pos (le_lim h)];rfl
@[simp] theorem ev_ownL (xs:List V)(st:St):ownL (.flist xs) st=alloc (.list xs) st:=id rfl
@[simp] theorem ev_alloc (o:Ob)(vars:List (Option V))(obs:List Ob):alloc o ⟨vars,obs⟩=.ok (.ref obs.length) ⟨vars,obs++[o]⟩:=id rfl
@[simp] theorem ev_tupL {xs:List V}(h:xs.length≤1000)(vars:List (Option V))(obs:List Ob):tupL xs ⟨vars,obs⟩=.ok (.tuple xs) ⟨vars,obs⟩:=by
 unfold tupL;rw[if_pos (le_lim h)];rfl
@[simp] theorem ev_setOb (a:Nat)(o:Ob)(vars:List (Option V))(obs:List Ob):setOb a o ⟨vars,obs⟩=if a<obs.length then .ok () ⟨vars,obs.set a o⟩ else .stuck:=id rfl
@[simp] theorem ev_withObs (f:List Ob→Option α)(vars:List (Option V))(obs:List Ob):withObs f ⟨vars,obs⟩=match f obs with
 | some a=>.ok a ⟨vars,obs⟩
 | none=>.stuck:=id rfl
@[simp] theorem ev_ofOpt (a:α)(st:St):(ofOpt (some a)) st=(M.pure a) st:=id rfl
@[simp] theorem ev_subM (m i:M V)(st:St):(subM m i) st=(m.bind fun v=>i.bind fun k=>subV v k) st:=rfl
@[simp] theorem ev_sub_str (s:List Nat)(i:Int)(st:St):(subV (.str s) (.int i)) st=(ofOpt ((idxL s i).map fun c=>.str [c])) st:=id rfl
@[simp] theorem ev_sub_tuple (s:List V)(i:Int)(st:St):(subV (.tuple s) (.int i)) st=(ofOpt (idxL s i)) st:=id rfl
@[simp] theorem ev_sub_flist (s:List V)(i:Int)(st:St):(subV (.flist s) (.int i)) st=(ofOpt (idxL s i)) st:=id rfl
@[simp] theorem ev_sub_alist (s:List V)(i:Int)(st:St):(subV (.alist s) (.int i)) st=(ofOpt (idxL s i)) st:=id rfl
@[simp] theorem ev_sub_ref (a:Nat)(k:V)(st:St):(subV (.ref a) k) st=((getOb a).bind (subO k)) st:=id rfl
@[simp] theorem ev_subO_list (xs:List V)(i:Int)(st:St):subO (.int i) (.list xs) st=(ofOpt (idxL xs i)) st:=id rfl
@[simp] theorem ev_subO_sdict (j:Int)(es:Es)(i:List Nat)(st:St):subO (.str i) (.sdict j es) st=(ofOpt (lookD es i)) st:=id rfl
@[simp] theorem ev_len_str (s:List Nat)(st:St):(fLen [.str s]) st=(lenM s.length) st:=id rfl
@[simp] theorem ev_len_flist (s:List V)(st:St):(fLen [.flist s]) st=(lenM s.length) st:=id rfl
@[simp] theorem ev_len_alist (s:List V)(st:St):(fLen [.alist s]) st=(lenM s.length) st:=id rfl
@[simp] theorem ev_len_tuple (s:List V)(st:St):(fLen [.tuple s]) st=(lenM s.length) st:=id rfl
@[simp] theorem ev_len_ref (a:Nat)(st:St):(fLen [.ref a]) st=((getOb a).bind lenO) st:=id rfl
@[simp] theorem ev_lenM {n:Nat}(h:n≤1000)(st:St):lenM n st=.ok (.int n) st:=by unfold lenM;rw[if_pos (le_lim h)];rfl
@[simp] theorem ev_range1 (n:Int)(st:St):(fRange [.int n]) st=(if -1000000≤n∧n≤1000000 then M.pure (.range 0 n) else stuck) st:=id rfl
@[simp] theorem ev_toSrc_range (lo hi:Int)(st:St):toSrc (.range lo hi) st=if smallR lo hi=true then .ok ⟨(rangeL lo hi).map .int,[]⟩ st else .stuck:=by
 have e:toSrc (.range lo hi)=withObs fun _=>if smallR lo hi=true then some ⟨(rangeL lo hi).map .int,[]⟩ else none:=rfl
 rw[e]
 obtain⟨vars,obs⟩:=st
 unfold withObs
 by_cases h:smallR lo hi=true
 ·rw[if_pos h];simp only[h,if_true]
 ·rw[if_neg h,if_neg h]
@[simp] theorem ev_toSrc_str (s:List Nat)(st:St):toSrc (.str s) st=.ok ⟨charsOf s,[]⟩ st:=id rfl
@[simp] theorem ev_toSrc_flist (s:List V)(st:St):toSrc (.flist s) st=.ok ⟨s,[]⟩ st:=id rfl
theorem src_ref {a:Nat}{xs:List V}{vars:List (Option V)}{obs:List Ob}(h:obs[a]?=some (.list xs)):toSrc (.ref a) ⟨vars,obs⟩=.ok ⟨xs,[(a,.list xs)]⟩ ⟨vars,obs⟩:=by
 unfold toSrc withObs
 dsimp only
 rw[h]
@[simp] theorem ev_enumV (xs:List V)(st:St):(enumV (.flist xs)) st=.ok ⟨enumFrom 0 xs,[]⟩ st:=id rfl
@[simp] theorem ev_list_flist (xs:List V)(st:St):(fList [.flist xs]) st=(allocL xs) st:=id rfl
@[simp] theorem ev_list_ref (a:Nat)(st:St):(fList [.ref a]) st=((getList a).bind fun xs=>allocL xs) st:=id rfl
@[simp] theorem ev_tuple_flist (xs:List V)(st:St):(fTuple [.flist xs]) st=(tupL xs) st:=id rfl
@[simp] theorem ev_pickI_str (s:List Nat)(st:St):(pickI (.str s)) st=(M.pure mIndex) st:=id rfl
@[simp] theorem ev_pickL (f:List V→M V)(a:Nat)(st:St):(pickL f (.ref a)) st=((getList a).bind fun _=>M.pure f) st:=id rfl
@[simp] theorem ev_pickS (f:List V→M V)(s:List Nat)(st:St):(pickS f (.str s)) st=(M.pure f) st:=id rfl
noncomputable def appS (a:Nat)(v:V)(xs:List V):M V:=if xs.length≤lim then (setOb a (.list (xs++[v]))).bind fun _=>M.pure .none else stuck
@[simp] theorem ev_appS (a:Nat)(v:V){xs:List V}(h:xs.length≤1000)(st:St):(appS a v xs) st=((setOb a (.list (xs++[v]))).bind fun _=>M.pure .none) st:=by rw[show appS a v xs=(setOb a (.list (xs++[v]))).bind fun _=>M.pure .none from if_pos (le_lim h)]
@[simp] theorem ev_append (a:Nat)(v:V)(st:St):(mAppend [.ref a,v]) st=((getList a).bind (appS a v)) st:=id rfl
@[simp] theorem ev_isi (v:V)(t:String)(st:St):(fIsinstance [v,.type t]) st=(withObs fun obs=>(kindV obs v).bind fun k=>(isiK k t).map .bool) st:=id rfl
@[simp] theorem ev_fIsi (v:V)(t:String)(st:St):fIsi [v,.type t] st=fIsinstance [v,.type t] st:=id rfl
@[simp] theorem kind_int (obs:List Ob)(i:Int):kindV obs (.int i)=some "int" := id rfl
@[simp] theorem kind_bool (obs:List Ob)(i:Bool):kindV obs (.bool i)=some "bool" := id rfl
@[simp] theorem kind_str (obs:List Ob)(i:List Nat):kindV obs (.str i)=some "str" := id rfl
@[simp] theorem isi_ii:isiK "int" "int" = some true:=id rfl
@[simp] theorem isi_ib:isiK "int" "bool" = some false:=id rfl
@[simp] theorem isi_bb:isiK "bool" "bool" = some true:=id rfl
@[simp] theorem isi_ss:isiK "str" "str" = some true:=id rfl
@[simp] theorem isi_ll:isiK "list" "list" = some true:=id rfl
@[simp] theorem kind_flist (obs:List Ob)(xs:List V):kindV obs (.flist xs)=some "list" := id rfl
theorem kind_list {obs:List Ob}{a:Nat}{xs:List V}(h:obs[a]?=some (.list xs)):kindV obs (.ref a)=some "list" := by
 unfold kindV
 dsimp only
 rw[h]
theorem kind_dict {obs:List Ob}{a:Nat}{j:Int}{es:Es}(h:obs[a]?=some (.sdict j es)):kindV obs (.ref a)=some "dict" := by
 unfold kindV
 dsimp only
 rw[h]
@[simp] theorem ev_attrM (W:Wd)(m:M V)(x:Str)(st:St):(attrM W m x) st=(m.bind (attrV W x)) st:=rfl
@[simp] theorem ev_sliceM (m:M V)(lo hi:Option (M V))(st:St):(sliceM m lo hi) st=(m.bind fun v=>(optI lo).bind fun l=>(optI hi).bind fun h=>sliceV v l h) st:=rfl
@[simp] theorem ev_optI_none   (st:St):(optI none) st=(M.pure none) st:=rfl
@[simp] theorem ev_optI_some (m:M V)(st:St):(optI (some m)) st=(m.bind fun v=>(asInt v).bind fun i=>M.pure (some i)) st:=rfl
noncomputable def sliS (lo hi:Option Int)(xs:List V):M V:=if xs.length≤lim then M.pure (.flist (sliceL xs lo hi)) else stuck
@[simp] theorem ev_sliS (lo hi:Option Int){xs:List V}(h:xs.length≤1000)(st:St):(sliS lo hi xs) st=.ok (.flist (sliceL xs lo hi)) st:=by rw[show sliS lo hi xs=M.pure (.flist (sliceL xs lo hi)) from if_pos (le_lim h)];rfl
@[simp] theorem ev_slice_flist (s:List V)(lo hi:Option Int)(st:St):(sliceV (.flist s) lo hi) st=(sliS lo hi s) st:=id rfl
@[simp] theorem ev_slice_alist (s:List V)(lo hi:Option Int)(st:St):(sliceV (.alist s) lo hi) st=(sliS lo hi s) st:=id rfl
@[simp] theorem ev_slice_ref (a:Nat)(lo hi:Option Int)(st:St):(sliceV (.ref a) lo hi) st=((getList a).bind (sliS lo hi)) st:=id rfl
@[simp] theorem ev_attr_inst {W:Wd}{x c:Str}{ns:List Str}{vs:List V}{v:V}(h1:W.fld c x=true)(h2:(ns.zip vs).lookup x=some v)(st:St):attrV W x (.finst c ns vs) st=.ok v st:=by
 show (if W.fld c x then ofOpt ((ns.zip vs).lookup x) else stuck) st=_
 rw[if_pos h1,h2];rfl
@[simp] theorem ev_pick_inst {W:Wd}{x c:Str}{ns:List Str}{vs:List V}(h:(((ns.zip vs).lookup x).isNone&&W.has c x)=true)(st:St):pickO W x (.finst c ns vs) st=.ok (W.cf (.meth c x)) st:=by
 show (if ((ns.zip vs).lookup x).isNone&&W.has c x then M.pure (W.cf (.meth c x)) else stuck) st=_
 rw[if_pos h];rfl
@[simp] theorem tl0 (o t:List Ob)(a:Ob):(o++a::t)[o.length]?=some a:=by simp
@[simp] theorem tl1 (o t:List Ob)(a b:Ob):(o++a::b::t)[o.length+1]?=some b:=by rw[List.getElem?_append_right (by exact Nat.le_add_right _ _)];simp
@[simp] theorem tl2 (o t:List Ob)(a b c:Ob):(o++a::b::c::t)[o.length+2]?=some c:=by rw[List.getElem?_append_right (by exact Nat.le_add_right _ _)];simp
@[simp] theorem tl3 (o t:List Ob)(a b c e:Ob):(o++a::b::c::e::t)[o.length+3]?=some e:=by rw[List.getElem?_append_right (by exact Nat.le_add_right _ _)];simp
@[simp] theorem ts0 (o t:List Ob)(a x:Ob):(o++a::t).set o.length x=o++x::t:=by simp
@[simp] theorem ts1 (o t:List Ob)(a b x:Ob):(o++a::b::t).set (o.length+1) x=o++a::x::t:=by rw[List.set_append_right _ _ (by exact Nat.le_add_right _ _)];simp
@[simp] theorem ts2 (o t:List Ob)(a b c x:Ob):(o++a::b::c::t).set (o.length+2) x=o++a::b::x::t:=by rw[List.set_append_right _ _ (by exact Nat.le_add_right _ _)];simp
@[simp] theorem ts3 (o t:List Ob)(a b c e x:Ob):(o++a::b::c::e::t).set (o.length+3) x=o++a::b::c::x::t:=by rw[List.set_append_right _ _ (by exact Nat.le_add_right _ _)];simp
end
mutual
theorem lt_up {k n:Nat}(hk:k≤n):∀ {v:V},ltV k v=true→ltV n v=true
 | .ref i,h=>decide_eq_true (Nat.lt_of_lt_of_le (of_decide_eq_true (show decide (i<k)=true from h)) hk)
 | .tuple vs,h=>lts_up hk (vs:=vs) h
 | .flist vs,h=>lts_up hk (vs:=vs) h
 | .alist vs,h=>lts_up hk (vs:=vs) h
 | .finst _ _ vs,h=>lts_up hk (vs:=vs) h
 | .fdict _ vs,h=>lts_up hk (vs:=vs) h
 | .none,_=>rfl
 | .bool _,_=>rfl
 | .int _,_=>rfl
 | .str _,_=>rfl
 | .range _ _,_=>rfl
 | .set _,_=>rfl
 | .exc _,_=>rfl
 | .own _,_=>rfl
 | .type _,_=>rfl
theorem lts_up {k n:Nat}(hk:k≤n):∀ {vs:List V},ltVs k vs=true→ltVs n vs=true
 | [],_=>rfl
 | v::vs,h=>have h:=Bool.and_eq_true_iff.mp h;Bool.and_eq_true_iff.mpr ⟨lt_up hk h.1,lts_up hk h.2⟩
end
theorem c_eq {a b:V}{c:Bool}{st:St}(h:pyEq a b st=.ok c st):cmpV .Eq a b st=.ok c st:=h
theorem lt_mono (n:Nat){v:V}:ltV 0 v=true→ltV n v=true:=lt_up (Nat.zero_le n)
theorem lts_mono (n:Nat){vs:List V}:ltVs 0 vs=true→ltVs n vs=true:=lts_up (Nat.zero_le n)
theorem lts_all {n:Nat}:∀ {vs:List V},ltVs n vs=true↔∀ v∈vs,ltV n v=true
 | []=>by simp[lS0,lS1]
 | v::vs=>by simp[lS0,lS1,lts_all (vs:=vs)]
theorem lts_map {α:Type}{f:α→V}{n:Nat}(xs:List α)(h:∀ x∈xs,ltV n (f x)=true):ltVs n (xs.map f)=true:=lts_all.mpr fun v hv=>by
 obtain⟨x,hx,rfl⟩:=List.mem_map.mp hv
 exact h x hx
theorem res_pure {n k:Nat}{o:List Ob}{v:V}(h:ltV 0 v=true):res n o (k+1) v=some v:=by
 unfold res;rw[if_pos (lt_mono n h)]
theorem allO_id {α:Type}{f:α→Option α}:∀ {l:List α},(∀ a∈l,f a=some a)→allO f l=some l
 | [],_=>rfl
 | a::l,h=>by
  unfold allO
  rw[h a (.head _),allO_id fun b hb=>h b (.tail _ hb)]
theorem res_list {n k i:Nat}{o:List Ob}{xs:List V}(hi:n≤i)(h:o[i]?=some (.list xs))(hx:ltVs 0 xs=true):res n o (k+2) (.ref i)=some (.flist xs):=by
 unfold res
 rw[if_neg (show ¬ ltV n (.ref i)=true from fun q=>Nat.not_lt_of_le hi (of_decide_eq_true q))]
 dsimp only
 rw[h]
 dsimp only
 rw[allO_id fun a ha=>res_pure (lts_all.mp hx a ha)];rfl
theorem res_dict {n k i:Nat}{o:List Ob}{j:Int}{es:Es}(hi:n≤i)(h:o[i]?=some (.sdict j es))(hx:ltVs 0 (es.map (·.2))=true):res n o (k+2) (.ref i)=some (.fdict (es.map (·.1)) (es.map (·.2))):=by
 unfold res
 rw[if_neg (show ¬ ltV n (.ref i)=true from fun q=>Nat.not_lt_of_le hi (of_decide_eq_true q))]
 dsimp only
 rw[h]
 dsimp only
 rw[allO_id fun a ha=>res_pure (lts_all.mp hx a ha)];rfl
theorem res_pair {n k:Nat}{o:List Ob}{a b a' b':V}(ha:res n o (k+1) a=some a')(hb:res n o (k+1) b=some b'):res n o (k+2) (.tuple [a,b])=some (.tuple [a',b']):=by
 unfold res
 by_cases h:ltV n (.tuple [a,b])=true
 ·rw[if_pos h]
  have h:=Bool.and_eq_true_iff.mp h
  have h2:=Bool.and_eq_true_iff.mp h.2
  unfold res at ha hb
  rw[if_pos h.1] at ha
  rw[if_pos h2.1] at hb
  cases ha;cases hb;rfl
 ·rw[if_neg h]
  simp only[allO,ha,hb];rfl
theorem run_ok {np n:Nat}{body:M Flow}{args:List V}{vars vars':List (Option V)}{obs t:List Ob}{fl:Flow}{v:V}(hl:args.length=np)(hb:body ⟨args.map some++List.replicate (n-np) none,obs⟩=.ok fl ⟨vars',obs++t⟩)(hr:res obs.length (obs++t) 4 (flowV fl)=some v) :
  runFn false np n body args ⟨vars,obs⟩=.ok v ⟨vars,obs⟩:=by
 unfold runFn runFnS
 rw[if_pos hl,hb]
 have:settleB false obs (obs++t) (flowV fl)=some (v,obs):=by
  show settle obs (obs++t) (flowV fl)=_
  unfold settle
  rw[show keepL obs (obs++t)=some obs from if_pos (List.take_left' rfl),hr];rfl
 simp only[this]
theorem run_pure {np n:Nat}{body:M Flow}{args:List V}{vars vars':List (Option V)}{obs:List Ob}{fl:Flow}(hl:args.length=np)(hb:body ⟨args.map some++List.replicate (n-np) none,obs⟩=.ok fl ⟨vars',obs⟩)(hr:ltV 0 (flowV fl)=true) :
  runFn false np n body args ⟨vars,obs⟩=.ok (flowV fl) ⟨vars,obs⟩:=run_ok (t:=[]) hl (by rw[List.append_nil];exact hb) (res_pure hr)
theorem run_raw {np n:Nat}{body:M Flow}{args:List V}{vars vars':List (Option V)}{obs o':List Ob}{fl:Flow}(hl:args.length=np)(hb:body ⟨args.map some++List.replicate (n-np) none,obs⟩=.ok fl ⟨vars',o'⟩) :
  runFn true np n body args ⟨vars,obs⟩=.ok (flowV fl) ⟨vars,o'⟩:=by
 unfold runFn runFnS
 rw[if_pos hl,hb];rfl
end Mine
namespace Mine
set_option backward.match.sparseCases false
open PySem
theorem ev_chk {c:List (Nat×Ob)}{vars:List (Option V)}{obs:List Ob}(h:chkOk c obs):chkObs c ⟨vars,obs⟩=.ok () ⟨vars,obs⟩:=if_pos h
noncomputable def ChkP (c:List (Nat×Ob))(obs:List Ob):Prop:=∀ vars,chkObs c ⟨vars,obs⟩=.ok () ⟨vars,obs⟩
theorem ChkP.nil (obs:List Ob):ChkP [] obs:=fun _=>ev_chk fun p hp=>(nomatch hp)
theorem ChkP.one {a:Nat}{x:Ob}{obs:List Ob}(h:obs[a]?=some x):ChkP [(a,x)] obs:=fun _=>ev_chk fun p hp=>by cases List.mem_singleton.mp hp;exact h
theorem forItems_ok {t:Tg}{body:M Flow}{c:List (Nat×Ob)}(I:List V→St→Prop)(hc:∀ l st,I l st→ChkP c st.obs)
  (hs:∀ x l st,I (x::l) st→∃ st1,((asg t x).bind fun _=>body) st=.ok .next st1∧I l st1):∀ l st,I l st→∃ st1,forItems t body c l st=.ok .next st1∧I [] st1
 | [],st,h=>⟨st,by
   obtain⟨vars,obs⟩:=st
   unfold forItems
   rw[ev_bind,hc _ _ h vars];rfl,h⟩
 | x::l,st,h=>by
  obtain⟨st1,h1,h2⟩:=hs x l st h
  obtain⟨st2,h3,h4⟩:=forItems_ok I hc hs l st1 h2
  refine⟨st2,?_,h4⟩
  obtain⟨vars,obs⟩:=st
  unfold forItems
  rw[ev_bind,hc _ _ h vars,Out.bind_ok]
  rw[ev_bind] at h1 ⊢
  cases q:asg t x ⟨vars,obs⟩ with
  | ok a s =>
   rw[q] at h1
   rw[Out.bind_ok] at h1 ⊢
   rw[ev_bind,h1,Out.bind_ok]
   exact h3
  | exc _ _=>rw[q] at h1;cases h1
  | stuck=>rw[q] at h1;cases h1
@[simp] theorem ev_for (t:Tg)(src:M Src)(body:M Flow)(st:St):forM t src body st=(src.bind fun s=>noX (forItems t body s.chk s.items)) st:=id rfl
end Mine
namespace Mine
set_option backward.match.sparseCases false
open PySem
section
variable {α β:Type}{st st1 st2:St}
theorem rb {m:M α}{f:α→M β}{a:α}{r:Out β}(h:m st=.ok a st1)(k:f a st1=r):M.bind m f st=r:=by unfold M.bind;rw[h];exact k
theorem r_seq {m:M Flow}{l:List (M Flow)}{r:Out Flow}(h:m st=.ok .next st1)(k:seqS l st1=r):seqS (m::l) st=r:=rb h k
theorem r_stop {m:M Flow}{l:List (M Flow)}{v:V}(h:m st=.ok (.ret v) st1):seqS (m::l) st=.ok (.ret v) st1:=rb h rfl
theorem r_one {m:M Flow}{f:Flow}(h:m st=.ok f st1):seqS [m] st=.ok f st1:=rb h (by cases f <;> rfl)
theorem r_setV {i:Nat}{v:V}{vars:List (Option V)}(hi:decide (i<st.vars.length)=true)(hv:st.vars.set i (some v)=vars):setVar i v st=.ok () ⟨vars,st.obs⟩:=(if_pos (of_decide_eq_true hi)).trans (by rw[hv])
theorem r_asg {i:Nat}{m:M V}{v:V}{vars:List (Option V)}(h:m st=.ok v st1)(hi:decide (i<st1.vars.length)=true)(hv:st1.vars.set i (some v)=vars):assignM (.var i) m st=.ok .next ⟨vars,st1.obs⟩:=rb h (rb (r_setV hi hv) rfl)
theorem r_asgT {is:List Nat}{m:M V}{vs:List V}(h:m st=.ok (.tuple vs) st1)(hv:setVars is vs st1=.ok () st2):assignM (.tup is) m st=.ok .next st2:=rb h (rb (show setVars is vs st1=_ from hv) rfl)
theorem r_ret {m:M V}{v:V}(h:m st=.ok v st1):retM m st=.ok (.ret v) st1:=rb h rfl
theorem r_expr {m:M V}{v:V}(h:m st=.ok v st1):exprM m st=.ok .next st1:=rb h rfl
theorem r_bin {op:Operator}{a b:M V}{x y:V}{r:Out V}(h1:a st=.ok x st1)(h2:b st1=.ok y st2)(h:binV op x y st2=r):binM op a b st=r:=rb h1 (rb h2 h)
theorem r_app0 {f:List V→M V}{r:Out V}(h:f [] st=r):appM f [] st=r:=rb (a:=[]) rfl h
theorem r_app1 {f:List V→M V}{a:M V}{x:V}{r:Out V}(h1:a st=.ok x st1)(h:f [x] st1=r):appM f [a] st=r:=rb (a:=[x]) (rb h1 rfl) h
theorem r_app2 {f:List V→M V}{a b:M V}{x y:V}{r:Out V}(h1:a st=.ok x st)(h2:b st=.ok y st)(h:f [x,y] st=r):appM f [a,b] st=r:=rb (a:=[x,y]) (rb h1 (rb (a:=[y]) (rb h2 rfl) rfl)) h
theorem r_app3 {f:List V→M V}{a b c:M V}{x y z:V}{r:Out V}(h1:a st=.ok x st)(h2:b st=.ok y st)(h3:c st=.ok z st)(h:f [x,y,z] st=r):appM f [a,b,c] st=r:=rb (a:=[x,y,z]) (rb h1 (rb (a:=[y,z]) (rb h2 (rb (a:=[z]) (rb h3 rfl) rfl)) rfl)) h
theorem r_meth0 {f:List V→M V}{pk:V→M (List V→M V)}{o:M V}{x:V}{r:Out V}(h0:o st=.ok x st)(hp:pk x st=.ok f st)(h:f [x] st=r):methM pk o [] st=r:=rb h0 (rb hp (rb (a:=[]) rfl h))
theorem r_meth1 {f:List V→M V}{pk:V→M (List V→M V)}{o a:M V}{x y:V}{r:Out V}(h0:o st=.ok x st)(hp:pk x st=.ok f st)(h1:a st=.ok y st)(h:f [x,y] st=r):methM pk o [a] st=r:=rb h0 (rb hp (rb (a:=[y]) (rb h1 rfl) h))
theorem r_meth2 {f:List V→M V}{pk:V→M (List V→M V)}{o a b:M V}{x y z:V}{r:Out V}(h0:o st=.ok x st)(hp:pk x st=.ok f st)(h1:a st=.ok y st)(h2:b st=.ok z st)(h:f [x,y,z] st=r):methM pk o [a,b] st=r:=rb h0 (rb hp (rb (a:=[y,z]) (rb h1 (rb (a:=[z]) (rb h2 rfl) rfl)) h))
theorem r_ift {t:M Bool}{a b:M α}{r:Out α}(h:t st=.ok true st1)(k:a st1=r):iteM t a b st=r:=rb h k
theorem r_iff {t:M Bool}{a b:M α}{r:Out α}(h:t st=.ok false st1)(k:b st1=r):iteM t a b st=r:=rb h k
theorem r_cmp {op:CmpOp}{a b:M V}{x y:V}{r:Out Bool}(h1:a st=.ok x st1)(h2:b st1=.ok y st2)(h:cmpV op x y st2=r):cmpM a [(op,b)] st=r:=rb h1 (rb h2 h)
theorem r_cmp2 {o1 o2:CmpOp}{a b c:M V}{x y z:V}{r:Out Bool}(h1:a st=.ok x st)(h2:b st=.ok y st)(h:cmpV o1 x y st=.ok true st)(h3:c st=.ok z st)(h4:cmpV o2 y z st=r):cmpM a [(o1,b),(o2,c)] st=r:=rb h1 (rb h2 (rb h (rb h3 h4)))
theorem r_cmp2f {o1 o2:CmpOp}{a b c:M V}{x y:V}(h1:a st=.ok x st)(h2:b st=.ok y st)(h:cmpV o1 x y st=.ok false st):cmpM a [(o1,b),(o2,c)] st=.ok false st:=rb h1 (rb h2 (rb h rfl))
theorem r_evB {m:M V}{b:Bool}(h:m st=.ok (.bool b) st1):evB m st=.ok b st1:=rb h rfl
theorem r_boolV {m:M Bool}{b:Bool}(h:m st=.ok b st1):boolV m st=.ok (.bool b) st1:=rb h rfl
theorem r_not {m:M Bool}{b:Bool}(h:m st=.ok b st1):notM m st=.ok (!b) st1:=rb h rfl
theorem r_nf {m:M Bool}(h:m st=.ok true st1):notM m st=.ok false st1:=rb h rfl
theorem r_nt {m:M Bool}(h:m st=.ok false st1):notM m st=.ok true st1:=rb h rfl
theorem r_andf {m:M Bool}{l:List (M Bool)}(h:m st=.ok false st1):andM (m::l) st=.ok false st1:=rb h rfl
theorem r_andt {m:M Bool}{l:List (M Bool)}{r:Out Bool}(h:m st=.ok true st1)(k:andM l st1=r):andM (m::l) st=r:=rb h k
theorem r_ort {m:M Bool}{l:List (M Bool)}(h:m st=.ok true st1):orM (m::l) st=.ok true st1:=rb h rfl
theorem r_orf {m:M Bool}{l:List (M Bool)}{r:Out Bool}(h:m st=.ok false st1)(k:orM l st1=r):orM (m::l) st=r:=rb h k
theorem r_sub {a b:M V}{x y:V}{r:Out V}(h1:a st=.ok x st1)(h2:b st1=.ok y st2)(h:subV x y st2=r):subM a b st=r:=rb h1 (rb h2 h)
theorem r_attr {W:Wd}{m:M V}{x:Str}{v:V}{r:Out V}(h1:m st=.ok v st1)(h:attrV W x v st1=r):attrM W m x st=r:=rb h1 h
theorem r_opt {m:M V}{i:Int}(h:m st=.ok (.int i) st):optI (some m) st=.ok (some i) st:=rb h rfl
theorem r_slice {m:M V}{lo hi:Option (M V)}{l u:Option Int}{v:V}{r:Out V}(h0:m st=.ok v st)(h1:optI lo st=.ok l st)(h2:optI hi st=.ok u st)(h:sliceV v l u st=r):sliceM m lo hi st=r:=rb h0 (rb h1 (rb h2 h))
theorem r_list {es:List (M V)}{vs:List V}{r:Out V}(h:seqM es st=.ok vs st1)(k:allocL vs st1=r):listM es st=r:=rb h k
theorem r_tup {es:List (M V)}{vs:List V}{r:Out V}(h:seqM es st=.ok vs st1)(k:tupL vs st1=r):tupM es st=r:=rb h k
theorem r_sq {m:M α}{l:List (M α)}{a:α}{as:List α}(h:m st=.ok a st1)(k:seqM l st1=.ok as st2):seqM (m::l) st=.ok (a::as) st2:=rb h (rb k rfl)
theorem r_src {m:M V}{v:V}{r:Out Src}(h:m st=.ok v st1)(k:toSrc v st1=r):(m.bind toSrc) st=r:=rb h k
theorem r_for {t:Tg}{src:M Src}{body:M Flow}{s:Src}{f:Flow}(h:src st=.ok s st1)(k:forItems t body s.chk s.items st1=.ok f st2):forM t src body st=.ok f st2:=rb h (show (forItems t body s.chk s.items st1).calm=_ by rw[k];rfl)
theorem r_own {m:M V}{xs:List V}{vars:List (Option V)}{obs:List Ob}(h:m st=.ok (.flist xs) ⟨vars,obs⟩):(m.bind ownL) st=.ok (.ref obs.length) ⟨vars,obs++[.list xs]⟩:=rb h rfl
theorem r_ownE {m:M V}{xs:List V}{vars:List (Option V)}{obs obs':List Ob}{n:Nat}(h:m st=.ok (.flist xs) ⟨vars,obs⟩)(hl:obs.length=n)(he:obs++[.list xs]=obs'):(m.bind ownL) st=.ok (.ref n) ⟨vars,obs'⟩:=by subst hl;subst he;exact r_own h
theorem r_mod {a b c:Int}(h:0<b)(e:a % b=c):binV .Mod (.int a) (.int b) st=.ok (.int c) st:=e▸ev_mod_pos h st
theorem r_div {a b c:Int}(h:0<b∧b<1073741824)(e:a / b=c):binV .FloorDiv (.int a) (.int b) st=.ok (.int c) st:=e▸ev_div_pos h st
theorem r_eqi {a b:Int}{c:Bool}(e:(a==b)=c):cmpV .Eq (.int a) (.int b) st=.ok c st:=e▸rfl
theorem r_nei {a b:Int}{c:Bool}(e:(!(a==b))=c):cmpV .NotEq (.int a) (.int b) st=.ok c st:=e▸rfl
theorem r_ne {a b:V}{c:Bool}(h:pyEq a b st=.ok c st):cmpV .NotEq a b st=.ok (!c) st:=rb h rfl
theorem r_lti {a b:Int}{c:Bool}(e:decide (a<b)=c):cmpV .Lt (.int a) (.int b) st=.ok c st:=e▸rfl
theorem r_gti {a b:Int}{c:Bool}(e:decide (a > b)=c):cmpV .Gt (.int a) (.int b) st=.ok c st:=e▸rfl
theorem r_lei {a b:Int}{c:Bool}(e:decide (a≤b)=c):cmpV .LtE (.int a) (.int b) st=.ok c st:=e▸rfl
theorem r_idx {xs:List V}{i:Int}{v:V}(h:idxL xs i=some v):subV (.flist xs) (.int i) st=.ok v st:=by rw[ev_sub_flist,h];rfl
theorem r_idxA {xs:List V}{i:Int}{v:V}(h:idxL xs i=some v):subV (.alist xs) (.int i) st=.ok v st:=by rw[ev_sub_alist,h];rfl
theorem r_idxR {a:Nat}{xs:List V}{i:Int}{v:V}{vars:List (Option V)}{obs:List Ob}(hx:obs[a]?=some (.list xs))(h:idxL xs i=some v):subV (.ref a) (.int i) ⟨vars,obs⟩=.ok v ⟨vars,obs⟩:=by rw[ev_sub_ref];exact rb (by rw[ev_getOb,hx]) (by rw[ev_subO_list,h];rfl)
theorem r_isi {v:V}{k t:String}{b:Bool}{vars:List (Option V)}{obs:List Ob}(h:kindV obs v=some k)(hi:isiK k t=some b):fIsi [v,.type t] ⟨vars,obs⟩=.ok (.bool b) ⟨vars,obs⟩:=by
 have e:((kindV obs v).bind fun k=>(isiK k t).map V.bool)=some (.bool b):=by rw[h,Option.bind_some,hi];rfl
 rw[ev_fIsi,ev_isi,ev_withObs,e]
theorem r_setA {W:Wd}{o m:M V}{x:Str}{ov v:V}(h1:m st=.ok v st1)(h2:o st1=.ok ov st1)(h:setAttrV W ov x v st1=.ok () st2):setAttrM W o x m st=.ok .next st2:=rb h1 (rb h2 (rb h rfl))
theorem r_push {a:Nat}{v:V}{xs:List V}{vars:List (Option V)}{obs obs':List Ob}{o e:M V}(ho:o ⟨vars,obs⟩=.ok (.ref a) ⟨vars,obs⟩)(hx:obs[a]?=some (.list xs))(he:e ⟨vars,obs⟩=.ok v ⟨vars,obs⟩)(hl:xs.length≤1000)(hs:obs.set a (.list (xs++[v]))=obs'):exprM (methM (pickL mAppend) o [e]) ⟨vars,obs⟩=.ok .next ⟨vars,obs'⟩:=by
 have hg:getList a ⟨vars,obs⟩=.ok xs ⟨vars,obs⟩:=by rw[ev_getList,hx]
 refine r_expr (r_meth1 ho (rb hg rfl) he ((ev_append a v _).trans (rb hg ((ev_appS a v hl _).trans (rb (a:=()) ?_ rfl)))))
 rw[ev_setOb,if_pos (List.getElem?_eq_some_iff.mp hx).1,hs]
end
end Mine
namespace Mine
set_option backward.match.sparseCases false
open PySem
structure Dt (α:Type)[DecidableEq α] where
 v:α→V
 d:α→PyData
 P:α→Prop
 dep:Nat
 ok:∀ obs f a,datV obs f (v a)=some (d a)
 eq:∀ a b,PyData.eqv (d a) (d b)=decide (a=b)
 lay:∀ a,P a→(d a).canLay0=true
 depth:∀ a,(d a).depth≤dep
 pure:∀ a,ltV 0 (v a)=true
section
variable {α β:Type}[DecidableEq α][DecidableEq β]
theorem Dt.oks (e:Dt α)(obs:List Ob)(f:V→Option PyData):∀ xs:List α,datVs obs f (xs.map e.v)=some (xs.map e.d)
 | []=>rfl
 | x::xs=>by simp only[List.map,dT0,dT1,e.ok,Dt.oks e obs f xs]
theorem Dt.eqs (e:Dt α):∀ xs ys:List α,PyData.eqvAll (xs.map e.d) (ys.map e.d)=decide (xs=ys)
 | [],[]=>rfl
 | [],_::_=>rfl
 | _::_,[]=>rfl
 | x::xs,y::ys=>by
  simp only[List.map,PyData.eqvAll,e.eq,Dt.eqs e xs ys]
  by_cases h:x=y <;> simp[h]
theorem Dt.lays (e:Dt α):∀ xs:List α,(∀ x∈xs,e.P x)→PyData.canLayAll0 (xs.map e.d)=true
 | [],_=>rfl
 | x::xs,h=>by simp only[List.map,PyData.canLayAll0,e.lay x (h x (.head _)),Dt.lays e xs fun y hy=>h y (.tail _ hy),Bool.and_true]
theorem Dt.depths (e:Dt α):∀ xs:List α,PyData.depthAll (xs.map e.d)≤e.dep
 | []=>Nat.zero_le _
 | x::xs=>by
  have h1:=e.depth x
  have h2:=Dt.depths e xs
  simp only[List.map,PyData.depthAll]
  exact Nat.max_le.mpr ⟨h1,h2⟩
theorem Dt.pures (e:Dt α)(xs:List α):ltVs 0 (xs.map e.v)=true:=lts_map xs fun x _=>e.pure x
noncomputable def Dt.list (e:Dt α):Dt (List α) where
 v:=fun xs=>.flist (xs.map e.v)
 d:=fun xs=>.list (xs.map e.d)
 P:=fun xs=>∀ x∈xs,e.P x
 dep:=e.dep+1
 ok:=fun obs f xs=>congrArg (Option.map _) (e.oks obs f xs)
 eq:=fun xs ys=>by simp only[PyData.eqv,e.eqs]
 lay:=fun xs h=>by simp only[PyData.canLay0];exact e.lays xs h
 depth:=fun xs=>by simp only[PyData.depth];have:=e.depths xs;exact Nat.succ_le_succ this
 pure:=fun xs=>e.pures xs
noncomputable def Dt.tup (e:Dt α):Dt (List α) where
 v:=fun xs=>.tuple (xs.map e.v)
 d:=fun xs=>.tuple (xs.map e.d)
 P:=fun xs=>∀ x∈xs,e.P x
 dep:=e.dep+1
 ok:=fun obs f xs=>congrArg (Option.map _) (e.oks obs f xs)
 eq:=fun xs ys=>by simp only[PyData.eqv,e.eqs]
 lay:=fun xs h=>by simp only[PyData.canLay0];exact e.lays xs h
 depth:=fun xs=>by simp only[PyData.depth];have:=e.depths xs;exact Nat.succ_le_succ this
 pure:=fun xs=>e.pures xs
noncomputable def Dt.pair (e:Dt α)(g:Dt β):Dt (α×β) where
 v:=fun p=>.tuple [e.v p.1,g.v p.2]
 d:=fun p=>.tuple [e.d p.1,g.d p.2]
 P:=fun p=>e.P p.1∧g.P p.2
 dep:=max e.dep g.dep+1
 ok:=fun obs f p=>by
  rw[dR4,dT1,dT1,e.ok,g.ok];rfl
 eq:=fun p q=>by
  simp only[PyData.eqv,PyData.eqvAll,e.eq,g.eq,Bool.and_true]
  rw[Bool.eq_iff_iff,Bool.and_eq_true,decide_eq_true_eq,decide_eq_true_eq,decide_eq_true_eq,Prod.ext_iff]
 lay:=fun p h=>by simp only[PyData.canLay0,PyData.canLayAll0,e.lay _ h.1,g.lay _ h.2,Bool.and_true]
 depth:=fun p=>by
  simp only[PyData.depth,PyData.depthAll]
  exact Nat.succ_le_succ (Nat.max_le.mpr ⟨Nat.le_trans (e.depth p.1) (Nat.le_max_left ..),Nat.max_le.mpr ⟨Nat.le_trans (g.depth p.2) (Nat.le_max_right ..),Nat.zero_le _⟩⟩)
 pure:=fun p=>by
  rw[lR1,lS1,lS1,e.pure,g.pure];rfl
end
noncomputable def Dt.nat:Dt Nat where
 v:=fun n=>.int n
 d:=fun n=>.int n
 P:=fun _=>True
 dep:=0
 ok:=fun _ _ _=>rfl
 eq:=fun a b=>by simp only[PyData.eqv];rw[Bool.eq_iff_iff,beq_iff_eq,decide_eq_true_eq];exact Int.ofNat_inj
 lay:=fun _ _=>by simp only[PyData.canLay0]
 depth:=fun _=>by simp only[PyData.depth];exact Nat.le_refl _
 pure:=fun _=>rfl
noncomputable def Dt.int:Dt Int where
 v:=fun n=>.int n
 d:=fun n=>.int n
 P:=fun _=>True
 dep:=0
 ok:=fun _ _ _=>rfl
 eq:=fun a b=>by simp only[PyData.eqv];rw[Bool.eq_iff_iff,beq_iff_eq,decide_eq_true_eq]
 lay:=fun _ _=>by simp only[PyData.canLay0]
 depth:=fun _=>by simp only[PyData.depth];exact Nat.le_refl _
 pure:=fun _=>rfl
noncomputable def Dt.bool:Dt Bool where
 v:=fun n=>.bool n
 d:=fun n=>.bool n
 P:=fun _=>True
 dep:=0
 ok:=fun _ _ _=>rfl
 eq:=fun a b=>by simp only[PyData.eqv];cases a <;> cases b <;> rfl
 lay:=fun _ _=>by simp only[PyData.canLay0]
 depth:=fun _=>by simp only[PyData.depth];exact Nat.le_refl _
 pure:=fun _=>rfl
noncomputable def Dt.str:Dt (List Nat) where
 v:=fun s=>.str s
 d:=fun s=>.str ⟨s.toArray⟩
 P:=fun s=>∀ c∈s,c<1114112
 dep:=0
 ok:=fun _ _ _=>rfl
 eq:=fun a b=>by
  simp only[PyData.eqv]
  rw[Bool.eq_iff_iff]
  simp
 lay:=fun x hx=>by
  simp only[PyData.canLay0,PyData.strOk,List.size_toArray,List.all_toArray',List.all_eq_true,decide_eq_true_eq]
  exact hx
 depth:=fun _=>by simp only[PyData.depth];exact Nat.le_refl _
 pure:=fun _=>rfl
section
variable {α:Type}[DecidableEq α](e:Dt α)
theorem Dt.shaped (hd:e.dep≤64){a:α}(ha:e.P a):SeqAt.shaped (e.d a)=true:=by
 unfold SeqAt.shaped
 rw[e.lay a ha,Bool.true_and,decide_eq_true_eq]
 exact Nat.le_trans (e.depth a) hd
theorem ev_eqD (hd:e.dep≤64){a b:α}(ha:e.P a)(hb:e.P b)(st:St):pyEq (e.v a) (e.v b) st=.ok (decide (a=b)) st:=by
 obtain⟨vars,obs⟩:=st
 have:eqO obs (e.v a) (e.v b)=some (decide (a=b)):=by
  unfold eqO dat
  simp only[e.ok,e.shaped hd ha,e.shaped hd hb,Bool.and_self,if_true,e.eq]
 unfold pyEq
 rw[ev_withObs,this];rfl
theorem dat_list (hd:e.dep≤64){a:α}{xs:List α}(ha:e.P a)(hx:∀ x∈xs,e.P x)(obs:List Ob):datL obs (e.v a) (xs.map e.v)=some (e.d a,xs.map e.d):=by
 unfold datL dat
 simp only[e.ok,e.oks,e.shaped hd ha,e.lays xs hx,Bool.and_self,if_true]
theorem ev_inL (hd:e.dep≤64){a:α}{xs:List α}(ha:e.P a)(hx:∀ x∈xs,e.P x)(st:St):inL (e.v a) (xs.map e.v) st=.ok (decide (a∈xs)) st:=by
 obtain⟨vars,obs⟩:=st
 unfold inL
 rw[ev_withObs,dat_list e hd ha hx]
 have:((xs.map e.d).any fun y=>PyData.eqv y (e.d a))=decide (a∈xs):=by
  rw[List.any_map,Bool.eq_iff_iff]
  simp only[List.any_eq_true,Function.comp,e.eq,decide_eq_true_eq]
  exact⟨fun ⟨x,h1,h2⟩=>h2▸h1,fun h=>⟨a,h,rfl⟩⟩
 simp only[Option.map_some,this]
end
end Mine
namespace Mine
set_option backward.match.sparseCases false
open PySem
theorem at_one {s:List Nat}{c i:Nat}(h:StrLaws.At ⟨s.toArray⟩ ⟨[c].toArray⟩ s.length i):s[i]?=some c:=by
 have:=(StrLaws.subAt_one ⟨s.toArray⟩ c i).mp (by
  have e:(⟨s.toArray⟩:Str).length=s.length:=by show s.toArray.size=_;simp
  rw[e];exact h)
 simpa using this
theorem occ_is (s:List Nat)(c n:Nat):∃ f,StrLaws.ChainTo ⟨s.toArray⟩ ⟨[c].toArray⟩ s.length 0 (occ s [c] n) f:=by
 have e:(⟨s.toArray⟩:Str).length=s.length:=by show s.toArray.size=_;simp
 have:=StrLaws.occ_chain ⟨s.toArray⟩ ⟨[c].toArray⟩ n
 rw[e] at this
 exact this
theorem occ_found {s:List Nat}{c:Nat}:(occ s [c] 1).isEmpty=!decide (c∈s):=by
 have e:(⟨s.toArray⟩:Str).length=s.length:=by show s.toArray.size=_;simp
 have:=StrLaws.found_one ⟨s.toArray⟩ c
 rw[e] at this
 unfold occ
 show (Builtin.Str.occurrences ⟨s.toArray⟩ ⟨#[c]⟩ 0 s.length 1).isEmpty=_
 have h2:(c∈(⟨s.toArray⟩:Str).cps.toList)↔c∈s:=by simp
 rw[← Bool.not_not (List.isEmpty _),this]
theorem occ_first {s:List Nat}{c:Nat}(h:c∈s):∃ i r,occ s [c] 1=i::r∧i<s.length:=by
 have h1:(occ s [c] 1).isEmpty=false:=by rw[occ_found];simp[h]
 cases q:occ s [c] 1 with
 | nil=>rw[q] at h1;cases h1
 | cons i r =>
  obtain⟨f,hf⟩:=occ_is s c 1
  rw[q] at hf
  exact⟨i,r,rfl,(List.getElem?_eq_some_iff.mp (at_one hf.2.1)).1⟩
theorem occ_once {s:List Nat}{c n:Nat}(h:s.Nodup):(occ s [c] n).length≤1:=by
 obtain⟨f,hf⟩:=occ_is s c n
 match q:occ s [c] n with
 | []=>simp
 | [_]=>simp
 | i::j::r =>
  rw[q] at hf
  have h1:=at_one hf.2.1
  have h2:=at_one hf.2.2.2.1
  have h3:i+1≤j:=hf.2.2.1
  obtain⟨l1,e1⟩:=List.getElem?_eq_some_iff.mp h1
  have:=(List.getElem?_inj l1 h).mp (h1.trans h2.symm)
  exact absurd h3 (this▸Nat.not_succ_le_self i)
noncomputable def idxC (s:List Nat)(c:Nat):Nat:=(occ s [c] 1).headD 0
theorem idxC_lt {s:List Nat}{c:Nat}(h:c∈s):idxC s c<s.length:=by
 obtain⟨i,r,h1,h2⟩:=occ_first h
 unfold idxC;rw[h1];exact h2
theorem ev_index {s:List Nat}{c:Nat}(h:c∈s)(st:St):mIndex [.str s,.str [c]] st=.ok (.int (idxC s c)) st:=by
 obtain⟨i,r,h1,h2⟩:=occ_first h
 unfold idxC
 show (match occ s [c] 1 with | i::_=>M.pure (.int i) | []=>stuck:M V) st=_
 rw[h1];rfl
structure SignsP (s:List Nat):Prop where
 one:1≤s.length
 three:s.length≤3
 az:∀ c∈s,97≤c∧c≤122
 nd:s.Nodup
noncomputable def letters:List Nat:=[97,98,99,100,101,102,103,104,105,106,107,108,109,110,111,112,113,114,115,116,117,118,119,120,121,122]
theorem letters_all:∀ k:Fin 26,letters[k.1]?=some (97+k.1):=by decide +kernel
theorem in_letters {c:Nat}(h:97≤c∧c≤122):(occ letters [c] 1).isEmpty=false:=by
 rw[occ_found]
 have:=letters_all ⟨c-97,by exact Nat.sub_lt_left_of_lt_add h.1 (Nat.lt_succ_of_le h.2)⟩
 have e:97+(c-97)=c:=by exact Nat.add_sub_of_le h.1
 rw[e] at this
 simp[List.mem_of_getElem? this]
theorem strs_chars:∀ s:List Nat,strsOf (s.map fun c=>V.str [c])=some (s.map fun c=>[c])
 | []=>rfl
 | c::s=>congrArg (Option.map ([c]::·)) (strs_chars s)
theorem fold_chars:∀ (s:List Nat) (a:Array Nat),((s.map fun c=>mkS [c]).foldl (fun acc p=>acc++(mkS []).cps++p.cps) a).toList=a.toList++s
 | [],a=>by simp
 | c::s,a=>by
  simp only[List.map,List.foldl,fold_chars s]
  simp[mkS]
theorem join_chars (s:List Nat):(Txt.join (mkS []) (s.map fun c=>mkS [c])).cps.toList=s:=by
 cases s with
 | nil=>rfl
 | cons c s =>
  show (List.foldl (fun acc p=>acc++(mkS []).cps++p.cps) (mkS [c]).cps (s.map fun c=>mkS [c])).toList=_
  rw[fold_chars];rfl
theorem joinOk_chars {s:List Nat}(h:s.length≤1000):JoinOk (mkS []) (s.map fun c=>mkS [c])=true:=by
 unfold JoinOk
 rw[StrLaws.joinTotal]
 have e1:∀ s:List Nat,((s.map fun c=>mkS [c]).map (·.length)).sum=s.length:=by
  intro s
  induction s with
  | nil=>rfl
  | cons c s ih=>simp only[List.map,List.sum_cons,ih];show 1+_=_+1;exact Nat.add_comm 1 _
 have e2:(mkS []).length=0:=rfl
 rw[e1,e2]
 simp only[Builtin.Str.tooLong,Bool.not_eq_true',decide_eq_false_iff_not,Nat.not_lt,Nat.mul_zero,Nat.add_zero]
 show s.length≤16777216
 exact Nat.le_trans h (by decide)
theorem ev_join {s:List Nat}(hl:s.length≤1000)(st:St):mJoin [.str [],.flist (s.map fun c=>V.str [c])] st=.ok (.str s) st:=by
 show ((listOf (.flist (s.map fun c=>V.str [c]))).bind fun xs=>(ofOpt (strsOf xs)).bind fun ws=>if JoinOk (mkS []) (ws.map mkS) then M.pure (V.str (Txt.join (mkS []) (ws.map mkS)).cps.toList) else stuck) _=_
 have e:(s.map fun c=>[c]).map mkS=s.map fun c=>mkS [c]:=by simp
 show ((ofOpt (strsOf (s.map fun c=>V.str [c]))).bind fun ws=>if JoinOk (mkS []) (ws.map mkS) then M.pure (V.str (Txt.join (mkS []) (ws.map mkS)).cps.toList) else stuck) st=_
 rw[strs_chars,ev_bind,ev_ofOpt,ev_pure,Out.bind_ok,e,if_pos (joinOk_chars hl),join_chars];rfl
theorem mem_range {lo hi:Int}{v:V}(h:v∈(rangeL lo hi).map V.int):∃ k:Nat,v=.int (lo+k)∧lo+k<hi:=by
 unfold rangeL at h
 simp only[List.map_map,List.mem_map,List.mem_range,Function.comp_apply] at h
 obtain⟨k,hk,rfl⟩:=h
 exact⟨k,rfl,by omega⟩
theorem range_nat (n:Nat):(rangeL 0 n).map V.int=(List.range n).map fun (k:Nat)=>V.int k:=by
 unfold rangeL
 simp only[List.map_map,Int.sub_zero,Int.toNat_natCast]
 apply List.map_congr_left
 intro k _
 simp
theorem small_small {hi:Int}(h1:-1000≤hi)(h2:hi≤1000):smallR 0 hi=true:=by
 unfold smallR
 simp only[Bool.and_eq_true,decide_eq_true_eq]
 exact⟨⟨⟨by decide,by decide⟩,Int.le_trans (by decide) h1⟩,Int.le_trans h2 (by decide)⟩
theorem idx_nat {α:Type}{xs:List α}{k:Nat}{v:α}(h:xs[k]?=some v)(hl:xs.length≤1000):idxL xs (k:Int)=some v:=by
 have hk:k<xs.length:=(List.getElem?_eq_some_iff.mp h).1
 unfold idxL big
 rw[if_pos (by exact Int.natCast_nonneg k),if_pos (by exact Int.lt_trans (Int.ofNat_lt.mpr (Nat.lt_of_lt_of_le hk hl)) (by decide))]
 simpa using h
theorem idx_letters {m:Int}(h:0≤m∧m<26):idxL letters m=some (97+m.toNat):=by
 have:=letters_all ⟨m.toNat,by exact (Int.toNat_lt h.1).mpr h.2⟩
 have e:idxL letters ((m.toNat:Nat):Int)=some (97+m.toNat):=idx_nat this (by decide)
 rw[Int.toNat_of_nonneg h.1] at e
 exact e
end Mine
set_option maxRecDepth 100000
namespace Mine
open PySem
noncomputable def bd_is_signs_1 (d:Nat):M Flow:=seqS [iteM (orM [cmpM (varM 1) [(.NotIn,constM (.str [97,98,99,100,101,102,103,104,105,106,107,108,109,110,111,112,113,114,115,116,117,118,119,120,121,122]))],cmpM (methM (pickS mCount) (varM 0) [varM 1]) [(.Gt,constM (.int 1))]]) (seqS [retM (constM (.bool false))]) (seqS [])]
theorem cf_is_signs (d:Nat):cfOf p1 (d+1) (.fn (nm "is_signs"))=runFn false 1 2 (
 seqS [iteM (orM [notM (evB (appM fIsi [varM 0,constM (.type "str")])),notM (cmpM (constM (.int 1)) [(.LtE,appM fLen [varM 0]),(.LtE,constM (.int 3))])]) (seqS [retM (constM (.bool false))]) (seqS []),
  forM (.var 1) ((varM 0).bind toSrc) (bd_is_signs_1 d),
  retM (constM (.bool true))]):=rfl
noncomputable def bd_is_word_1 (d:Nat):M Flow:=seqS [iteM (cmpM (varM 2) [(.NotIn,varM 0)]) (seqS [retM (constM (.bool false))]) (seqS [])]
theorem cf_is_word (d:Nat):cfOf p1 (d+1) (.fn (nm "is_word"))=runFn false 2 3 (
 seqS [iteM (notM (evB (appM fIsi [varM 1,constM (.type "str")]))) (seqS [retM (constM (.bool false))]) (seqS []),
  forM (.var 2) ((varM 1).bind toSrc) (bd_is_word_1 d),
  retM (constM (.bool true))]):=rfl
theorem cf_is_room (d:Nat):cfOf p1 (d+1) (.fn (nm "is_room"))=runFn false 2 2 (
 seqS [retM (boolV (andM [evB (appM fIsi [varM 0,constM (.type "int")]),evB (boolV (notM (evB (appM fIsi [varM 0,constM (.type "bool")])))),evB (boolV (cmpM (constM (.int 0)) [(.LtE,varM 0),(.Lt,varM 1)]))]))]):=rfl
noncomputable def bd_is_row_1 (d:Nat):M Flow:=seqS [iteM (notM (evB (appM (cfOf p1 d (.fn (nm "is_room"))) [varM 3,varM 2]))) (seqS [retM (constM (.bool false))]) (seqS [])]
theorem cf_is_row (d:Nat):cfOf p1 (d+1) (.fn (nm "is_row"))=runFn false 3 4 (
 seqS [iteM (orM [notM (evB (appM fIsi [varM 0,constM (.type "list")])),cmpM (appM fLen [varM 0]) [(.NotEq,appM fLen [varM 1])]]) (seqS [retM (constM (.bool false))]) (seqS []),
  forM (.var 3) ((varM 0).bind toSrc) (bd_is_row_1 d),
  retM (constM (.bool true))]):=rfl
noncomputable def bd_makes_machine_1 (d:Nat):M Flow:=seqS [iteM (notM (evB (appM (cfOf p1 d (.fn (nm "is_row"))) [varM 3,varM 0,appM fLen [varM 1]]))) (seqS [retM (constM (.bool false))]) (seqS [])]
noncomputable def bd_makes_machine_2 (d:Nat):M Flow:=seqS [iteM (notM (evB (appM fIsi [varM 4,constM (.type "bool")]))) (seqS [retM (constM (.bool false))]) (seqS [])]
theorem cf_makes_machine (d:Nat):cfOf p1 (d+1) (.fn (nm "makes_machine"))=runFn false 3 5 (
 seqS [iteM (orM [notM (evB (appM (cfOf p1 d (.fn (nm "is_signs"))) [varM 0])),notM (evB (appM fIsi [varM 1,constM (.type "list")])),notM (evB (appM fIsi [varM 2,constM (.type "list")]))]) (seqS [retM (constM (.bool false))]) (seqS []),
  iteM (orM [notM (cmpM (constM (.int 1)) [(.LtE,appM fLen [varM 1]),(.LtE,constM (.int 20))]),cmpM (appM fLen [varM 2]) [(.NotEq,appM fLen [varM 1])]]) (seqS [retM (constM (.bool false))]) (seqS []),
  forM (.var 3) ((varM 1).bind toSrc) (bd_makes_machine_1 d),
  forM (.var 4) ((varM 2).bind toSrc) (bd_makes_machine_2 d),
  retM (constM (.bool true))]):=rfl
noncomputable def bd_Machine___init___1 (d:Nat):M V:=appM fList [varM 4]
theorem cf_Machine___init__ (d:Nat):cfOf p1 (d+1) (.meth (nm "Machine") (nm "__init__"))=runFn true 4 4 (
 seqS [iteM (notM (evB (appM (cfOf p1 d (.fn (nm "makes_machine"))) [varM 1,varM 2,varM 3]))) (seqS [raiseM (nm "BadMachine")]) (seqS []),
  setAttrM (wdOf p1 (cfOf p1 d) (chOf p1 d)) (varM 0) (nm "signs") (varM 1),
  setAttrM (wdOf p1 (cfOf p1 d) (chOf p1 d)) (varM 0) (nm "ways") (compM 4 1 ((varM 2).bind toSrc) (.var 4) (andM []) (bd_Machine___init___1 d)),
  setAttrM (wdOf p1 (cfOf p1 d) (chOf p1 d)) (varM 0) (nm "finals") (appM fList [varM 3])]):=rfl
noncomputable def bd_Machine_goes_1 (d:Nat):M Flow:=seqS [assignM (.var 2) (subM (subM (attrM (wdOf p1 (cfOf p1 d) (chOf p1 d)) (varM 0) (nm "ways")) (varM 2)) (methM pickI (attrM (wdOf p1 (cfOf p1 d) (chOf p1 d)) (varM 0) (nm "signs")) [varM 3]))]
theorem cf_Machine_goes (d:Nat):cfOf p1 (d+1) (.meth (nm "Machine") (nm "goes"))=runFn false 2 4 (
 seqS [iteM (notM (evB (appM (cfOf p1 d (.fn (nm "is_word"))) [attrM (wdOf p1 (cfOf p1 d) (chOf p1 d)) (varM 0) (nm "signs"),varM 1]))) (seqS [raiseM (nm "BadWord")]) (seqS []),
  assignM (.var 2) (constM (.int 0)),
  forM (.var 3) ((varM 1).bind toSrc) (bd_Machine_goes_1 d),
  retM (varM 2)]):=rfl
theorem cf_Machine_takes (d:Nat):cfOf p1 (d+1) (.meth (nm "Machine") (nm "takes"))=runFn false 2 2 (
 seqS [retM (subM (attrM (wdOf p1 (cfOf p1 d) (chOf p1 d)) (varM 0) (nm "finals")) (methM (pickO (wdOf p1 (cfOf p1 d) (chOf p1 d)) (nm "goes")) (varM 0) [varM 1]))]):=rfl
theorem cf_Learner___init__ (d:Nat):cfOf p1 (d+1) (.meth (nm "Learner") (nm "__init__"))=runFn true 2 2 (
 seqS [iteM (notM (evB (appM (cfOf p1 d (.fn (nm "is_signs"))) [varM 1]))) (seqS [raiseM (nm "BadSigns")]) (seqS []),
  setAttrM (wdOf p1 (cfOf p1 d) (chOf p1 d)) (varM 0) (nm "signs") (varM 1),
  setAttrM (wdOf p1 (cfOf p1 d) (chOf p1 d)) (varM 0) (nm "told") (alloc (.sdict 0 [])),
  setAttrM (wdOf p1 (cfOf p1 d) (chOf p1 d)) (varM 0) (nm "firsts") ((listM [constM (.str [])]).bind ownL),
  setAttrM (wdOf p1 (cfOf p1 d) (chOf p1 d)) (varM 0) (nm "tails") ((listM [constM (.str [])]).bind ownL),
  setAttrM (wdOf p1 (cfOf p1 d) (chOf p1 d)) (varM 0) (nm "now") (tupM [constM (.str [119,111,114,100]),constM (.str [])])]):=rfl
theorem cf_parting (d:Nat):cfOf p1 (d+1) (.fn (nm "parting"))=runFn false 2 13 (
 seqS [iteM (cmpM (attrM (wdOf p1 (cfOf p1 d) (chOf p1 d)) (varM 0) (nm "signs")) [(.NotEq,attrM (wdOf p1 (cfOf p1 d) (chOf p1 d)) (varM 1) (nm "signs"))]) (seqS [raiseM (nm "BadMachine")]) (seqS []),
  assignM (.var 2) (listM [methM (pickO (wdOf p1 (cfOf p1 d) (chOf p1 d)) (nm "rows")) (varM 0) [],methM (pickO (wdOf p1 (cfOf p1 d) (chOf p1 d)) (nm "rows")) (varM 1) []]),
  assignM (.var 3) (listM [methM (pickO (wdOf p1 (cfOf p1 d) (chOf p1 d)) (nm "ends")) (varM 0) [],methM (pickO (wdOf p1 (cfOf p1 d) (chOf p1 d)) (nm "ends")) (varM 1) []]),
  assignM (.var 4) ((listM [tupM [constM (.int 0),constM (.int 0),constM (.str [])]]).bind ownL),
  stuck,
  assignM (.var 6) (constM (.int 0)),
  stuck,
  retM (constM .none)]):=rfl
theorem cf__law_cell_at (d:Nat):cfOf p1 (d+1) (.fn (nm "_law_cell_at"))=runFn false 2 2 (
 seqS [iteM (cmpM (varM 1) [(.Lt,appM fLen [varM 0])]) (seqS [retM (subM (varM 0) (varM 1))]) (seqS []),
  retM (constM (.int 0))]):=rfl
theorem cf__law_mixed (d:Nat):cfOf p1 (d+1) (.fn (nm "_law_mixed"))=runFn false 2 3 (
 seqS [assignM (.var 2) (binM .Add (binM .Add (varM 0) (binM .Mult (constM (.int 7919)) (varM 1))) (constM (.int 3))),
  retM (binM .Mod (binM .Mult (binM .Mod (binM .Mult (varM 2) (varM 2)) (constM (.int 2147483647))) (constM (.int 48271))) (constM (.int 2147483647)))]):=rfl
noncomputable def bd__law_signs_1 (d:Nat):M V:=subM (varM 1) (binM .Mod (binM .Add (binM .FloorDiv (varM 0) (constM (.int 3))) (binM .Mult (varM 2) (varM 3))) (constM (.int 26)))
theorem cf__law_signs (d:Nat):cfOf p1 (d+1) (.fn (nm "_law_signs"))=runFn false 1 3 (
 seqS [assignM (.var 1) (constM (.str [97,98,99,100,101,102,103,104,105,106,107,108,109,110,111,112,113,114,115,116,117,118,119,120,121,122])),
  assignM (.var 2) (subM (listM [constM (.int 1),constM (.int 3),constM (.int 5),constM (.int 7),constM (.int 9),constM (.int 11)]) (binM .Mod (binM .FloorDiv (varM 0) (constM (.int 78))) (constM (.int 6)))),
  retM (methM (pickS mJoin) (constM (.str [])) [compM 3 1 ((appM fRange [binM .Add (constM (.int 1)) (binM .Mod (varM 0) (constM (.int 3)))]).bind toSrc) (.var 3) (andM []) (bd__law_signs_1 d)])]):=rfl
noncomputable def bd__law_drawn_1 (d:Nat):M V:=binM .Mod (binM .FloorDiv (appM (cfOf p1 d (.fn (nm "_law_mixed"))) [varM 8,varM 9]) (constM (.int 16))) (varM 4)
noncomputable def bd__law_drawn_2 (d:Nat):M Flow:=seqS [assignM (.var 8) (appM (cfOf p1 d (.fn (nm "_law_cell_at"))) [varM 0,binM .Add (binM .Add (varM 1) (constM (.int 1))) (varM 7)]),
 exprM (methM (pickL mAppend) (varM 5) [compM 9 1 ((appM fRange [varM 2]).bind toSrc) (.var 9) (andM []) (bd__law_drawn_1 d)]),
 exprM (methM (pickL mAppend) (varM 6) [boolV (cmpM (binM .Mod (binM .FloorDiv (appM (cfOf p1 d (.fn (nm "_law_mixed"))) [varM 8,constM (.int 5)]) (constM (.int 64))) (constM (.int 2))) [(.Eq,constM (.int 1))])])]
noncomputable def bd__law_drawn_3 (d:Nat):M V:=binM .Add (listM [binM .Mod (binM .Add (varM 9) (constM (.int 1))) (varM 4)]) (sliceM (varM 10) (some (constM (.int 1))) none)
noncomputable def bd__law_drawn_4 (d:Nat):M V:=boolV (cmpM (varM 9) [(.Eq,binM .Sub (varM 4) (constM (.int 1)))])
theorem cf__law_drawn (d:Nat):cfOf p1 (d+1) (.fn (nm "_law_drawn"))=runFn false 4 9 (
 seqS [assignM (.var 4) (binM .Add (constM (.int 1)) (binM .Mod (appM (cfOf p1 d (.fn (nm "_law_cell_at"))) [varM 0,varM 1]) (varM 3))),
  assignM (.var 5) ((listM []).bind ownL),
  assignM (.var 6) ((listM []).bind ownL),
  forM (.var 7) ((appM fRange [varM 4]).bind toSrc) (bd__law_drawn_2 d),
  iteM (cmpM (binM .Mod (binM .FloorDiv (appM (cfOf p1 d (.fn (nm "_law_cell_at"))) [varM 0,varM 1]) (constM (.int 32))) (constM (.int 3))) [(.Eq,constM (.int 1))]) (seqS [assignM (.var 5) ((compM 9 2 ((varM 5).bind enumV) (.tup [9,10]) (andM []) (bd__law_drawn_3 d)).bind ownL),
   assignM (.var 6) ((compM 9 1 ((appM fRange [varM 4]).bind toSrc) (.var 9) (andM []) (bd__law_drawn_4 d)).bind ownL)]) (seqS []),
  retM (tupM [varM 5,varM 6])]):=rfl
theorem ch__law_said (d:Nat):chOf p1 (d+1) (nm "_law_said")=runFn false 1 2 (
 seqS [assignM (.var 1) (listM [tupM [constM (.str [115,105,103,110,115]),appM (fIsE (wdH p1)) [varM 0,constM (.own (nm "BadSigns"))]],tupM [constM (.str [109,97,99,104,105,110,101]),appM (fIsE (wdH p1)) [varM 0,constM (.own (nm "BadMachine"))]]]),
  assignM (.var 1) (binM .Add (varM 1) (listM [tupM [constM (.str [119,111,114,100]),appM (fIsE (wdH p1)) [varM 0,constM (.own (nm "BadWord"))]],tupM [constM (.str [97,110,115,119,101,114]),appM (fIsE (wdH p1)) [varM 0,constM (.own (nm "BadAnswer"))]]])),
  assignM (.var 1) (binM .Add (varM 1) (listM [tupM [constM (.str [114,111,111,109]),appM (fIsE (wdH p1)) [varM 0,constM (.own (nm "BadRoom"))]]])),
  assignM (.var 1) (binM .Add (varM 1) (listM [tupM [constM (.str [116,101,120,116]),appM (fIsE (wdH p1)) [varM 0,constM (.own (nm "BadText"))]],tupM [constM (.str [98,97,115,101]),boolV (notM (evB (appM (fIsE (wdH p1)) [varM 0,constM (.type "ValueError")])))]])),
  retM (compM 2 2 ((varM 1).bind toSrcF) (.tup [2,3]) (andM [evB (varM 3)]) (varM 2))]):=rfl
noncomputable def bd__law_asked_1 (d:Nat):M Flow:=seqS [iteM (cmpM (varM 0) [(.Eq,constM (.int 0))]) (seqS [exprM (appM (newC (wdOf p1 (cfOf p1 d) (chOf p1 d)) (nm "Machine")) [varM 1,varM 2,varM 3])]) (seqS [iteM (cmpM (varM 0) [(.Eq,constM (.int 1))]) (seqS [exprM (appM (newC (wdOf p1 (cfOf p1 d) (chOf p1 d)) (nm "Learner")) [varM 1])]) (seqS [iteM (cmpM (varM 0) [(.Eq,constM (.int 2))]) (seqS [exprM (methM (pickO (wdOf p1 (cfOf p1 d) (chOf p1 d)) (nm "goes")) (appM (newC (wdOf p1 (cfOf p1 d) (chOf p1 d)) (nm "Machine")) [varM 1,varM 2,varM 3]) [varM 4])]) (seqS [iteM (cmpM (varM 0) [(.Eq,constM (.int 3))]) (seqS [exprM (methM (pickO (wdOf p1 (cfOf p1 d) (chOf p1 d)) (nm "takes")) (appM (newC (wdOf p1 (cfOf p1 d) (chOf p1 d)) (nm "Machine")) [varM 1,varM 2,varM 3]) [varM 4])]) (seqS [exprM (appM (cfOf p1 d (.fn (nm "parting"))) [appM (newC (wdOf p1 (cfOf p1 d) (chOf p1 d)) (nm "Machine")) [varM 1,varM 2,varM 3],appM (newC (wdOf p1 (cfOf p1 d) (chOf p1 d)) (nm "Machine")) [varM 4,listM [binM .Mult (listM [constM (.int 0)]) (appM fLen [varM 4])],listM [constM (.bool true)]]])])])])])]
theorem cf__law_asked (d:Nat):cfOf p1 (d+1) (.fn (nm "_law_asked"))=runFn false 5 6 (
 seqS [tryM (bd__law_asked_1 d) (fun c=>(wdOf p1 (cfOf p1 d) (chOf p1 d)).exn c&&(wdOf p1 (cfOf p1 d) (chOf p1 d)).sub c (nm "LearnError")) (asM 5 (seqS [retM (appM (chOf p1 d (nm "_law_said")) [varM 5])])),
  retM (listM [])]):=rfl
theorem cf__law_odd_signs (d:Nat):cfOf p1 (d+1) (.fn (nm "_law_odd_signs"))=runFn false 2 3 (
 seqS [assignM (.var 2) (listM [constM (.str []),constM (.str [97,98,99,100]),binM .Add (varM 0) (subM (varM 0) (constM (.int 0))),binM .Add (binM .Add (sliceM (varM 0) none (some (negM (constM (.int 1))))) (sliceM (varM 0) none (some (negM (constM (.int 1)))))) (constM (.str [66])),constM (.str [97,32,98]),constM (.str [49]),constM .none,constM (.int 5),listM [constM (.str [97])],tupM [constM (.str [97]),constM (.str [98])]]),
  retM (subM (binM .Add (varM 2) (listM [alloc (.sdict 0 []),constM (.bool true),constM (.str [45]),constM (.str [126]),constM (.str [97,97]),methM (pickS mUpper) (varM 0) [],binM .Add (constM (.str [32])) (sliceM (varM 0) (some (constM (.int 1))) none)])) (binM .Mod (varM 1) (constM (.int 17))))]):=rfl
noncomputable def bd__law_is_signs_1 (d:Nat):M V:=varM 2
noncomputable def bd__law_is_signs_2 (d:Nat):M V:=varM 2
theorem cf__law_is_signs (d:Nat):cfOf p1 (d+1) (.fn (nm "_law_is_signs"))=runFn false 1 2 (
 seqS [iteM (orM [notM (evB (appM fIsi [varM 0,constM (.type "str")])),notM (cmpM (constM (.int 1)) [(.LtE,appM fLen [varM 0]),(.LtE,constM (.int 3))])]) (seqS [retM (constM (.bool false))]) (seqS []),
  assignM (.var 1) (compM 2 1 ((varM 0).bind toSrc) (.var 2) (andM [cmpM (varM 2) [(.In,constM (.str [97,98,99,100,101,102,103,104,105,106,107,108,109,110,111,112,113,114,115,116,117,118,119,120,121,122]))]]) (bd__law_is_signs_1 d)),
  retM (boolV (andM [evB (boolV (cmpM (appM fLen [varM 1]) [(.Eq,appM fLen [varM 0])])),evB (boolV (cmpM (appM fLen [compM 2 1 ((varM 1).bind toSrc) (.var 2) (andM [cmpM (methM (pickS mCount) (varM 0) [varM 2]) [(.Eq,constM (.int 1))]]) (bd__law_is_signs_2 d)]) [(.Eq,appM fLen [varM 0])]))]))]):=rfl
noncomputable def bd__law_odd_rows_1 (d:Nat):M V:=appM fList [subM (varM 0) (constM (.int 0))]
noncomputable def bd__law_odd_rows_2 (d:Nat):M Flow:=seqS [exprM (methM (pickL mAppend) (varM 7) [binM .Add (binM .Add (sliceM (varM 0) none (some (varM 2))) (listM [varM 9])) (sliceM (varM 0) (some (binM .Add (varM 2) (constM (.int 1)))) none)])]
theorem cf__law_odd_rows (d:Nat):cfOf p1 (d+1) (.fn (nm "_law_odd_rows"))=runFn false 2 10 (
 seqS [assignM (.var 2) (binM .Mod (binM .FloorDiv (varM 1) (constM (.int 16))) (appM fLen [varM 0])),
  assignM (.var 3) (appM fLen [varM 0]),
  assignM (.var 4) (subM (varM 0) (varM 2)),
  assignM (.var 5) (binM .Mod (binM .FloorDiv (varM 1) (constM (.int 256))) (appM fLen [varM 4])),
  assignM (.var 6) (subM (listM [varM 3,negM (constM (.int 1)),constM (.bool true),constM (.str [48]),constM .none,listM [constM (.int 0)],binM .Pow (constM (.int 10)) (constM (.int 30)),constM (.bool false)]) (binM .Mod (binM .FloorDiv (varM 1) (constM (.int 4096))) (constM (.int 8)))),
  assignM (.var 7) ((listM [listM [],compM 10 1 ((appM fRange [constM (.int 21)]).bind toSrc) (.var 10) (andM []) (bd__law_odd_rows_1 d),constM .none,appM fTuple [varM 0],constM (.str [114,111,119,115]),constM (.int 5)]).bind ownL),
  assignM (.var 8) (binM .Add (listM [binM .Add (varM 4) (listM [constM (.int 0)]),sliceM (varM 4) (some (constM (.int 1))) none,appM fTuple [varM 4],constM .none,constM (.str [48])]) (binM .Mult (listM [binM .Add (binM .Add (sliceM (varM 4) none (some (varM 5))) (listM [varM 6])) (sliceM (varM 4) (some (binM .Add (varM 5) (constM (.int 1)))) none)]) (constM (.int 5)))),
  forM (.var 9) ((varM 8).bind toSrc) (bd__law_odd_rows_2 d),
  retM (subM (varM 7) (binM .Mod (varM 1) (constM (.int 16))))]):=rfl
theorem cf__law_odd_ends (d:Nat):cfOf p1 (d+1) (.fn (nm "_law_odd_ends"))=runFn false 2 5 (
 seqS [assignM (.var 2) (binM .Mod (binM .FloorDiv (varM 1) (constM (.int 16))) (appM fLen [varM 0])),
  assignM (.var 3) (subM (listM [constM (.int 0),constM (.int 1),constM .none,constM (.str [84,114,117,101]),listM [],constM (.int 5)]) (binM .Mod (binM .FloorDiv (varM 1) (constM (.int 256))) (constM (.int 6)))),
  assignM (.var 4) (listM [binM .Add (varM 0) (listM [constM (.bool true)]),sliceM (varM 0) (some (constM (.int 1))) none,constM .none,appM fTuple [varM 0],constM (.str [101,110,100,115]),constM (.int 7),listM []]),
  retM (subM (binM .Add (varM 4) (binM .Mult (listM [binM .Add (binM .Add (sliceM (varM 0) none (some (varM 2))) (listM [varM 3])) (sliceM (varM 0) (some (binM .Add (varM 2) (constM (.int 1)))) none)]) (constM (.int 9)))) (binM .Mod (varM 1) (constM (.int 16))))]):=rfl
noncomputable def bd__law_odd_word_1 (d:Nat):M V:=varM 5
theorem cf__law_odd_word (d:Nat):cfOf p1 (d+1) (.fn (nm "_law_odd_word"))=runFn false 2 5 (
 seqS [assignM (.var 3) (compM 5 1 ((constM (.str [97,98,99,100,101,102,103,104,105,106,107,108,109,110,111,112,113,114,115,116,117,118,119,120,121,122,65,32,45])).bind toSrc) (.var 5) (andM [cmpM (varM 5) [(.NotIn,varM 0)]]) (bd__law_odd_word_1 d)),
  assignM (.var 2) (subM (varM 3) (binM .Mod (binM .FloorDiv (varM 1) (constM (.int 64))) (appM fLen [varM 3]))),
  assignM (.var 4) (listM [varM 2,binM .Add (varM 0) (varM 2),binM .Add (varM 2) (varM 0),binM .Add (binM .Add (binM .Mult (sliceM (varM 0) none (some (constM (.int 1)))) (constM (.int 5))) (varM 2)) (varM 0),methM (pickS mUpper) (varM 0) [],constM .none,constM (.int 5)]),
  retM (subM (binM .Add (varM 4) (listM [appM fList [varM 0],constM (.bool true),tupM []])) (binM .Mod (varM 1) (constM (.int 10))))]):=rfl
theorem cf__law_refused (d:Nat):cfOf p1 (d+1) (.fn (nm "_law_refused"))=runFn false 4 7 (
 seqS [assignM (.var 4) (appM (cfOf p1 d (.fn (nm "_law_odd_signs"))) [varM 0,binM .FloorDiv (varM 3) (constM (.int 8))]),
  assignM (.var 5) (binM .Mod (varM 3) (constM (.int 8))),
  iteM (cmpM (varM 5) [(.Lt,constM (.int 2))]) (seqS [retM (boolV (cmpM (appM (cfOf p1 d (.fn (nm "_law_asked"))) [varM 5,varM 4,varM 1,varM 2,constM .none]) [(.Eq,listM [subM (listM [constM (.str [109,97,99,104,105,110,101]),constM (.str [115,105,103,110,115])]) (varM 5)])]))]) (seqS []),
  iteM (cmpM (varM 5) [(.Eq,constM (.int 2))]) (seqS [retM (boolV (cmpM (appM (cfOf p1 d (.fn (nm "_law_asked"))) [constM (.int 0),varM 0,appM (cfOf p1 d (.fn (nm "_law_odd_rows"))) [varM 1,binM .FloorDiv (varM 3) (constM (.int 8))],varM 2,constM .none]) [(.Eq,listM [constM (.str [109,97,99,104,105,110,101])])]))]) (seqS []),
  iteM (cmpM (varM 5) [(.Eq,constM (.int 3))]) (seqS [retM (boolV (cmpM (appM (cfOf p1 d (.fn (nm "_law_asked"))) [constM (.int 0),varM 0,varM 1,appM (cfOf p1 d (.fn (nm "_law_odd_ends"))) [varM 2,binM .FloorDiv (varM 3) (constM (.int 8))],constM .none]) [(.Eq,listM [constM (.str [109,97,99,104,105,110,101])])]))]) (seqS []),
  iteM (cmpM (varM 5) [(.Lt,constM (.int 6))]) (seqS [retM (boolV (cmpM (appM (cfOf p1 d (.fn (nm "_law_asked"))) [binM .Sub (varM 5) (constM (.int 2)),varM 0,varM 1,varM 2,appM (cfOf p1 d (.fn (nm "_law_odd_word"))) [varM 0,binM .FloorDiv (varM 3) (constM (.int 8))]]) [(.Eq,listM [constM (.str [119,111,114,100])])]))]) (seqS []),
  assignM (.var 6) (subM (listM [revM (varM 0),binM .Add (sliceM (varM 0) (some (constM (.int 1))) none) (sliceM (varM 0) none (some (constM (.int 1)))),sliceM (varM 0) none (some (negM (constM (.int 1)))),binM .Add (varM 0) (constM (.str [113])),constM (.str [120,121,122])]) (binM .Mod (binM .FloorDiv (varM 3) (constM (.int 8))) (constM (.int 5)))),
  iteM (orM [notM (evB (appM (cfOf p1 d (.fn (nm "_law_is_signs"))) [varM 6])),cmpM (varM 6) [(.Eq,varM 0)]]) (seqS [retM (constM (.bool true))]) (seqS []),
  retM (boolV (cmpM (appM (cfOf p1 d (.fn (nm "_law_asked"))) [constM (.int 4),varM 0,varM 1,varM 2,varM 6]) [(.Eq,listM [constM (.str [109,97,99,104,105,110,101])])]))]):=rfl
noncomputable def bd_law_1 (d:Nat):M V:=binM .Mult (listM [binM .Mod (binM .Add (varM 11) (constM (.int 1))) (constM (.int 20))]) (appM fLen [varM 1])
noncomputable def bd_law_2 (d:Nat):M V:=subM (varM 1) (binM .Mod (binM .FloorDiv (appM (cfOf p1 d (.fn (nm "_law_mixed"))) [varM 6,varM 11]) (constM (.int 16))) (appM fLen [varM 1]))
noncomputable def bd_law_3 (d:Nat):M Flow:=seqS [assignM (.var 7) (appM (cfOf p1 d (.fn (nm "_law_mixed"))) [varM 6,varM 5]),
 assignM (.var 8) (appM (cfOf p1 d (.fn (nm "_law_odd_signs"))) [varM 1,binM .FloorDiv (varM 7) (constM (.int 8))]),
 assignM (.var 9) (appM (cfOf p1 d (.fn (nm "_law_odd_word"))) [varM 1,binM .FloorDiv (varM 7) (constM (.int 8))]),
 iteM (orM [notM (evB (appM fIsi [appM (cfOf p1 d (.fn (nm "is_signs"))) [varM 8],constM (.type "bool")])),cmpM (appM (cfOf p1 d (.fn (nm "is_signs"))) [varM 8]) [(.NotEq,appM (cfOf p1 d (.fn (nm "_law_is_signs"))) [varM 8])]]) (seqS [retM (constM (.bool false))]) (seqS []),
 assignM (.var 10) (methM (pickS mJoin) (constM (.str [])) [compM 11 1 ((appM fRange [binM .Mod (binM .FloorDiv (varM 7) (constM (.int 64))) (constM (.int 12))]).bind toSrc) (.var 11) (andM []) (bd_law_2 d)]),
 iteM (orM [cmpM (appM (cfOf p1 d (.fn (nm "is_word"))) [varM 1,varM 9]) [(.IsNot,constM (.bool false))],cmpM (appM (cfOf p1 d (.fn (nm "is_word"))) [varM 1,varM 10]) [(.IsNot,constM (.bool true))]]) (seqS [retM (constM (.bool false))]) (seqS []),
 iteM (andM [notM (evB (appM (cfOf p1 d (.fn (nm "_law_is_signs"))) [varM 8])),notM (evB (appM (cfOf p1 d (.fn (nm "_law_refused"))) [varM 1,varM 2,varM 3,varM 7]))]) (seqS [retM (constM (.bool false))]) (seqS [])]
theorem cf_law (d:Nat):cfOf p1 (d+1) (.fn (nm "law"))=runFn false 1 11 (
 seqS [assignM (.var 1) (appM (cfOf p1 d (.fn (nm "_law_signs"))) [appM (cfOf p1 d (.fn (nm "_law_cell_at"))) [varM 0,constM (.int 0)]]),
  assignM (.tup [2,3]) (appM (cfOf p1 d (.fn (nm "_law_drawn"))) [varM 0,constM (.int 1),appM fLen [varM 1],constM (.int 8)]),
  assignM (.var 4) (compM 11 1 ((appM fRange [constM (.int 20)]).bind toSrc) (.var 11) (andM []) (bd_law_1 d)),
  iteM (orM [cmpM (appM (cfOf p1 d (.fn (nm "_law_asked"))) [constM (.int 3),varM 1,varM 4,binM .Mult (listM [constM (.bool true)]) (constM (.int 20)),binM .Mult (varM 1) (constM (.int 3))]) [(.NotEq,listM [])],cmpM (appM (cfOf p1 d (.fn (nm "_law_asked"))) [constM (.int 1),varM 1,varM 2,varM 3,constM .none]) [(.NotEq,listM [])]]) (seqS [retM (constM (.bool false))]) (seqS []),
  forM (.tup [5,6]) ((binM .Add (listM [appM (cfOf p1 d (.fn (nm "_law_cell_at"))) [varM 0,constM (.int 10)]]) (sliceM (varM 0) (some (constM (.int 11))) (some (constM (.int 22))))).bind enumV) (bd_law_3 d),
  retM (boolV (andM [evB (boolV (cmpM (appM (cfOf p1 d (.fn (nm "is_signs"))) [varM 1]) [(.Is,constM (.bool true))])),evB (boolV (cmpM (appM (cfOf p1 d (.fn (nm "is_word"))) [varM 1,binM .Add (varM 1) (varM 1)]) [(.Is,constM (.bool true))])),evB (boolV (cmpM (appM (cfOf p1 d (.fn (nm "is_word"))) [varM 1,constM (.str [])]) [(.Is,constM (.bool true))]))]))]):=rfl
end Mine
set_option maxRecDepth 100000
namespace Mine
set_option backward.match.sparseCases false
open PySem
noncomputable def nl (xs:List Nat):V:=.flist (xs.map fun (n:Nat)=>V.int n)
noncomputable def nll (rs:List (List Nat)):V:=.flist (rs.map nl)
noncomputable def bl (bs:List Bool):V:=.flist (bs.map V.bool)
noncomputable def mach (s:List Nat)(rows:List (List Nat))(ends:List Bool):V:=.finst (nm "Machine") [nm "signs", nm "ways", nm "finals"] [.str s,nll rows,bl ends]
structure Good (s:List Nat)(rows:List (List Nat))(ends:List Bool):Prop where
 signs:SignsP s
 one:1≤rows.length
 most:rows.length≤20
 ends:ends.length=rows.length
 row:∀ w∈rows,w.length=s.length∧∀ i∈w,i<rows.length
theorem nl_pure (xs:List Nat):ltV 0 (nl xs)=true:=lts_map xs fun _ _=>rfl
theorem nll_pure (xs:List (List Nat)):ltV 0 (nll xs)=true:=lts_map xs fun _ _=>nl_pure _
theorem bl_pure (xs:List Bool):ltV 0 (bl xs)=true:=lts_map xs fun _ _=>rfl
theorem mach_pure (s:List Nat)(rows:List (List Nat))(ends:List Bool):ltV 0 (mach s rows ends)=true:=by
 show (ltV 0 (nll rows)&&(ltV 0 (bl ends)&&true))=true
 rw[nll_pure,bl_pure];rfl
theorem ev_enum_ref {a:Nat}{xs:List V}{vars:List (Option V)}{obs:List Ob}(h:obs[a]?=some (.list xs)):enumV (.ref a) ⟨vars,obs⟩=.ok ⟨enumFrom 0 xs,[(a,.list xs)]⟩ ⟨vars,obs⟩:=by
 show ((getList a).bind fun xs=>(M.pure ⟨enumFrom 0 xs,[(a,.list xs)]⟩:M Src)) ⟨vars,obs⟩=_
 rw[ev_bind,ev_getList,h];rfl
structure DL (obs:List Ob)(v:V)(xs:List V):Prop where
 src:∃ chk,ChkP chk obs∧∀ vars,toSrc v ⟨vars,obs⟩=.ok ⟨xs,chk⟩ ⟨vars,obs⟩
 len:∀ vars,fLen [v] ⟨vars,obs⟩=lenM xs.length ⟨vars,obs⟩
 cpy:∀ vars,fList [v] ⟨vars,obs⟩=allocL xs ⟨vars,obs⟩
 kind:kindV obs v=some "list"
theorem DL.flist (obs:List Ob)(xs:List V):DL obs (.flist xs) xs:=⟨⟨[],.nil _,fun _=>rfl⟩,fun _=>rfl,fun _=>rfl,rfl⟩
theorem DL.ref {obs:List Ob}{a:Nat}{xs:List V}(h:obs[a]?=some (.list xs)):DL obs (.ref a) xs :=
 ⟨⟨_,.one h,fun vars=>src_ref h⟩,fun vars=>by rw[ev_len_ref,ev_bind,ev_getOb,h];rfl,fun vars=>by rw[ev_list_ref,ev_bind,ev_getList,h];rfl,kind_list h⟩
noncomputable def intsV (w:List Nat):List V:=w.map fun (n:Nat)=>V.int n
noncomputable def DLs (obs:List Ob):List V→List (List Nat)→Prop
 | [],[]=>True
 | v::vs,w::ws=>DL obs v (intsV w)∧DLs obs vs ws
 | _,_=>False
theorem DLs.nls (obs:List Ob):∀ ws:List (List Nat),DLs obs (ws.map nl) ws
 | []=>trivial
 | w::ws=>⟨.flist _ _,DLs.nls obs ws⟩
theorem DLs.mem {obs:List Ob}:∀ {vs:List V} {ws:List (List Nat)},DLs obs vs ws→∀ v∈vs,∃ w∈ws,DL obs v (intsV w)
 | [],[],_,v,h=>by cases h
 | v::vs,w::ws,h,x,hx=>by
  cases hx with
  | head=>exact⟨w,.head _,h.1⟩
  | tail _ hx=>obtain⟨w',h1,h2⟩:=DLs.mem h.2 x hx;exact⟨w',.tail _ h1,h2⟩
 | [],_::_,h,_,_=>h.elim
 | _::_,[],h,_,_=>h.elim
theorem DLs.len {obs:List Ob}:∀ {vs:List V} {ws:List (List Nat)},DLs obs vs ws→vs.length=ws.length
 | [],[],_=>rfl
 | _::_,_::_,h=>congrArg (·+1) (DLs.len h.2)
 | [],_::_,h=>h.elim
 | _::_,[],h=>h.elim
theorem for_same {t:Nat}{body:M Flow}{pre post:List (Option V)}{obs:List Ob}{items:List V}{c:List (Nat×Ob)}(hc:ChkP c obs)(ht:t=pre.length)(hb:∀ x∈items,body ⟨pre++some x::post,obs⟩=.ok .next ⟨pre++some x::post,obs⟩)(z:Option V):∃ z',forItems (.var t) body c items ⟨pre++z::post,obs⟩=.ok .next ⟨pre++z'::post,obs⟩:=by
 obtain⟨st,h1,z',rfl,_⟩:=forItems_ok (t:=.var t) (body:=body) (c:=c) (fun l st=>∃ z,st=⟨pre++z::post,obs⟩∧∀ x∈l,x∈items) (fun _ _ h=>by obtain⟨z,rfl,_⟩:=h;exact hc) (fun x l st hI=>by
  obtain⟨z,rfl,hx⟩:=hI
  refine⟨⟨pre++some x::post,obs⟩,?_,some x,rfl,fun y hy=>hx y (.tail _ hy)⟩
  rw[ev_bind,ev_asg_var,ev_setVar,if_pos (by simp[ht]),Out.bind_ok]
  have:(pre++z::post).set t (some x)=pre++some x::post:=by rw[ht];simp
  rw[this];exact hb x (hx x (.head _))) items ⟨pre++z::post,obs⟩ ⟨z,rfl,fun _ q=>q⟩
 exact⟨z',h1⟩
noncomputable def mixed (c k:Int):Int:=((c+7919*k+3)*(c+7919*k+3)) % 2147483647*48271 % 2147483647
theorem mixed_eq (d:Nat)(c k:Int)(st:St)(hc:heavy 1048580 c)(hk:0≤k∧k≤1000):cfOf p1 (d+1) (.fn (nm "_law_mixed")) [.int c,.int k] st=.ok (.int (mixed c k)) st:=by
 have e1:mulG 7919 k:=mulG_of (n:=31) (m:=31) (heavy_31 (by exact⟨by decide,by decide⟩)) (heavy_31 (by exact⟨Int.lt_of_lt_of_le (by decide) hk.1,Int.lt_of_le_of_lt hk.2 (by decide)⟩)) (by decide)
 have h2:heavy 1048581 (c+(7919*k+3)):=heavy_add hc (heavy_mono (heavy_31 (by exact⟨Int.lt_of_lt_of_le (by decide) (Int.add_nonneg (Int.mul_nonneg (by decide) hk.1) (by decide)),Int.lt_of_le_of_lt (Int.add_le_add_right (Int.mul_le_mul_of_nonneg_left hk.2 (by decide)) 3) (by decide)⟩)) (by decide))
 rw[← Int.add_assoc] at h2
 have e2:=mulG_of h2 h2 (by decide)
 have h3:0≤(c+7919*k+3)*(c+7919*k+3) % 2147483647∧(c+7919*k+3)*(c+7919*k+3) % 2147483647<2147483647:=⟨Int.emod_nonneg _ (by decide),Int.emod_lt_of_pos _ (by decide)⟩
 have e3:mulG ((c+7919*k+3)*(c+7919*k+3) % 2147483647) 48271:=mulG_of (n:=31) (m:=31) (heavy_31 (by exact⟨Int.lt_of_lt_of_le (by decide) (Int.emod_nonneg _ (by decide)),Int.lt_trans (Int.emod_lt_of_pos _ (by decide)) (by decide)⟩)) (heavy_31 (by decide)) (by decide)
 obtain⟨vars,obs⟩:=st
 rw[cf__law_mixed]
 exact run_pure (fl:=.ret (.int (mixed c k))) (vars':=[some (.int c),some (.int k),some (.int (c+7919*k+3))]) rfl (r_seq (r_asg (r_bin (r_bin rfl (r_bin rfl rfl (ev_mul_int e1 _)) rfl) rfl rfl) rfl rfl) (r_one (r_ret (r_bin (r_bin (r_bin (r_bin rfl rfl (ev_mul_int e2 _)) rfl (r_mod (by decide) rfl)) rfl (ev_mul_int e3 _)) rfl (r_mod (by decide) rfl))))) rfl
theorem cell_eq (d:Nat)(xs:List Int)(k:Nat)(st:St)(hx:xs.length≤63)(hk:k≤1000):cfOf p1 (d+1) (.fn (nm "_law_cell_at")) [.alist (xs.map .int),.int k] st=.ok (.int (xs.getD k 0)) st:=by
 obtain⟨vars,obs⟩:=st
 rw[cf__law_cell_at]
 refine run_pure (fl:=.ret (.int (xs.getD k 0))) (vars':=[some (.alist (xs.map .int)),some (.int k)]) rfl ?_ rfl
 have hl:∀ st,fLen [.alist (xs.map .int)] st=.ok (.int xs.length) st:=fun st=>by rw[ev_len_alist,List.length_map,ev_lenM (by exact Nat.le_trans hx (by decide))]
 by_cases h:k<xs.length
 ·have h1:(k:Int)<xs.length:=by exact Int.ofNat_lt.mpr h
  have e:xs.getD k 0=xs[k]:=by rw[List.getD_eq_getElem?_getD,List.getElem?_eq_getElem h];rfl
  have hi:idxL (xs.map V.int) (k:Int)=some (.int (xs.getD k 0)):=idx_nat (by rw[List.getElem?_map,List.getElem?_eq_getElem h,e];rfl) (by rw[List.length_map];exact Nat.le_trans hx (by decide))
  exact r_stop (r_ift (r_cmp rfl (r_app1 rfl (hl _)) (r_lti (decide_eq_true h1))) (r_one (r_ret (r_sub rfl rfl (r_idxA hi)))))
 ·have h1:¬ (k:Int)<xs.length:=by exact fun q=>h (Int.ofNat_lt.mp q)
  rw[List.getD_eq_getElem?_getD,List.getElem?_eq_none (by exact Nat.le_of_not_lt h)]
  exact r_seq (r_iff (r_cmp rfl (r_app1 rfl (hl _)) (r_lti (decide_eq_false h1))) rfl) (r_one (r_ret rfl))
theorem is_signs_eq (d:Nat){s:List Nat}(h:SignsP s)(st:St):cfOf p1 (d+1) (.fn (nm "is_signs")) [.str s] st=.ok (.bool true) st:=by
 obtain⟨vars,obs⟩:=st
 have h1:=h.one
 have h3:=h.three
 have hl:s.length≤1000:=by exact Nat.le_trans h3 (by decide)
 have e1:(1:Int)≤s.length:=by exact Int.ofNat_le.mpr h1
 have e3:(s.length:Int)≤3:=by exact Int.ofNat_le.mpr h3
 obtain⟨z,hz⟩:=for_same (t:=1) (pre:=[some (.str s)]) (post:=[]) (obs:=obs) (items:=charsOf s) (body:=bd_is_signs_1 d) (.nil _) rfl (fun x hx=>by
  unfold charsOf at hx
  obtain⟨c,hc,rfl⟩:=List.mem_map.mp hx
  have hin:=in_letters (h.az c hc)
  have hcnt:¬ (1:Int)<((occ s [c] (s.length+1)).length:Int):=by have:=occ_once (c:=c) (n:=s.length+1) h.nd;exact Int.not_lt.mpr (Int.ofNat_le.mpr this)
  unfold letters at hin
  exact r_one (r_iff (r_orf (r_cmp rfl rfl (show Out.ok _ _=Out.ok false _ by rw[hin];rfl)) (r_orf (r_cmp (r_meth1 rfl rfl rfl rfl) rfl (r_gti (decide_eq_false hcnt))) rfl)) rfl)) none
 simp only[List.cons_append,List.nil_append] at hz
 rw[cf_is_signs]
 exact run_pure (fl:=.ret (.bool true)) (vars':=[some (.str s),z]) rfl (r_seq (r_iff (r_orf (r_nf (r_evB (r_app2 rfl rfl rfl))) (r_orf (r_nf (r_cmp2 rfl (r_app1 rfl (ev_lenM hl _)) (r_lei (decide_eq_true e1)) rfl (r_lei (decide_eq_true e3)))) rfl)) rfl) <| r_seq (r_for rfl hz) (r_one (r_ret rfl))) rfl
theorem is_room_eq (d:Nat){r n:Nat}(h:r<n)(st:St):cfOf p1 (d+1) (.fn (nm "is_room")) [.int r,.int n] st=.ok (.bool true) st:=by
 obtain⟨vars,obs⟩:=st
 have h1:(r:Int)<n:=by exact Int.ofNat_lt.mpr h
 have h2:(0:Int)≤r:=by exact Int.natCast_nonneg r
 rw[cf_is_room]
 exact run_pure (fl:=.ret (.bool true)) (vars':=[some (.int r),some (.int n)]) rfl (r_one (r_ret (r_boolV (r_andt (r_evB (r_app2 rfl rfl rfl)) (r_andt (r_evB (r_boolV (r_nt (r_evB (r_app2 rfl rfl rfl))))) (r_andt (r_evB (r_boolV (r_cmp2 rfl rfl (r_lei (decide_eq_true h2)) rfl (r_lti (decide_eq_true h1))))) rfl)))))) rfl
theorem is_row_eq (d:Nat){r:List Nat}{s:List Nat}{n:Nat}{v:V}{vars:List (Option V)}{obs:List Ob}(D:DL obs v (intsV r))(hl:r.length=s.length)(hs:s.length≤3)(h:∀ i∈r,i<n) :
  cfOf p1 (d+2) (.fn (nm "is_row")) [v,.str s,.int n] ⟨vars,obs⟩=.ok (.bool true) ⟨vars,obs⟩:=by
 obtain⟨chk,hc,hsrc⟩:=D.src
 have hl':s.length≤1000:=by exact Nat.le_trans hs (by decide)
 have hlen:∀ vars,fLen [v] ⟨vars,obs⟩=.ok (.int s.length) ⟨vars,obs⟩:=fun vars=>by
  rw[D.len]
  unfold intsV
  rw[List.length_map,hl,ev_lenM hl']
 obtain⟨z,hz⟩:=for_same (t:=3) (pre:=[some v,some (.str s),some (.int n)]) (post:=[]) (obs:=obs) (items:=intsV r) (body:=bd_is_row_1 (d+1)) hc rfl (fun x hx=>by
  obtain⟨i,hi,rfl⟩:=List.mem_map.mp hx
  exact r_one (r_iff (r_nf (r_evB (r_app2 rfl rfl (is_room_eq d (h i hi) _)))) rfl)) none
 simp only[List.cons_append,List.nil_append] at hz
 rw[cf_is_row]
 refine run_pure (fl:=.ret (.bool true)) (vars':=[some v,some (.str s),some (.int n),z]) rfl ?_ rfl
 exact r_seq (r_iff (r_orf (r_nf (r_evB (r_app2 rfl rfl (r_isi D.kind rfl)))) (r_orf (r_cmp (r_app1 rfl (hlen _)) (r_app1 rfl (ev_lenM hl' _)) (r_nei (congrArg not (beq_self_eq_true _)))) rfl)) rfl) <| r_seq (r_for (r_src rfl (hsrc _)) hz) (r_one (r_ret rfl))
theorem makes_eq' (d:Nat){s:List Nat}{rows:List (List Nat)}{ends:List Bool}(G:Good s rows ends){rv ev:V}{its:List V}{vars:List (Option V)}{obs:List Ob}(DR:DL obs rv its)(DI:DLs obs its rows)(DE:DL obs ev (ends.map V.bool)) :
  cfOf p1 (d+3) (.fn (nm "makes_machine")) [.str s,rv,ev] ⟨vars,obs⟩=.ok (.bool true) ⟨vars,obs⟩:=by
 have hm:=G.most
 have h1:=G.one
 have e1:rows.length≤1000:=by exact Nat.le_trans hm (by decide)
 have e3:(1:Int)≤rows.length:=by exact Int.ofNat_le.mpr h1
 have e4:(rows.length:Int)≤20:=by exact Int.ofNat_le.mpr hm
 obtain⟨c1,hc1,hs1⟩:=DR.src
 obtain⟨c2,hc2,hs2⟩:=DE.src
 have hl1:∀ vars,fLen [rv] ⟨vars,obs⟩=.ok (.int rows.length) ⟨vars,obs⟩:=fun vars=>by rw[DR.len,DI.len,ev_lenM e1]
 have hl2:∀ vars,fLen [ev] ⟨vars,obs⟩=.ok (.int rows.length) ⟨vars,obs⟩:=fun vars=>by rw[DE.len,List.length_map,G.ends,ev_lenM e1]
 obtain⟨z,hz⟩:=for_same (t:=3) (pre:=[some (.str s),some rv,some ev]) (post:=[none]) (obs:=obs) (items:=its) (body:=bd_makes_machine_1 (d+2)) hc1 rfl (fun x hx=>by
  obtain⟨w,hw,D⟩:=DI.mem x hx
  obtain⟨q1,q2⟩:=G.row w hw
  have:=fun vars=>is_row_eq d (vars:=vars) D q1 G.signs.three q2
  exact r_one (r_iff (r_nf (r_evB (r_app3 rfl rfl (r_app1 rfl (hl1 _)) (this _)))) rfl)) none
 obtain⟨y,hy⟩:=for_same (t:=4) (pre:=[some (.str s),some rv,some ev,z]) (post:=[]) (obs:=obs) (items:=ends.map V.bool) (body:=bd_makes_machine_2 (d+2)) hc2 rfl (fun x hx=>by
  obtain⟨w,hw,rfl⟩:=List.mem_map.mp hx
  exact r_one (r_iff (r_nf (r_evB (r_app2 rfl rfl rfl))) rfl)) none
 simp only[List.cons_append,List.nil_append] at hz hy
 rw[cf_makes_machine]
 refine run_pure (fl:=.ret (.bool true)) (vars':=[some (.str s),some rv,some ev,z,y]) rfl ?_ rfl
 have hs:=is_signs_eq (d+1) G.signs
 exact r_seq (r_iff (r_orf (r_nf (r_evB (r_app1 rfl (hs _)))) (r_orf (r_nf (r_evB (r_app2 rfl rfl (r_isi DR.kind rfl)))) (r_orf (r_nf (r_evB (r_app2 rfl rfl (r_isi DE.kind rfl)))) rfl))) rfl) <| r_seq (r_iff (r_orf (r_nf (r_cmp2 rfl (r_app1 rfl (hl1 _)) (r_lei (decide_eq_true e3)) rfl (r_lei (decide_eq_true e4)))) (r_orf (r_cmp (r_app1 rfl (hl2 _)) (r_app1 rfl (hl1 _)) (r_nei (congrArg not (beq_self_eq_true _)))) rfl)) rfl) <| r_seq (r_for (r_src rfl (hs1 _)) hz) <| r_seq (r_for (r_src rfl (hs2 _)) hy) (r_one (r_ret rfl))
end Mine
set_option maxRecDepth 100000
namespace Mine
set_option backward.match.sparseCases false
open PySem
theorem fld_signs:fldOf p1 (nm "Machine") (nm "signs")=true:=by decide +kernel
theorem fld_ways:fldOf p1 (nm "Machine") (nm "ways")=true:=by decide +kernel
theorem fld_finals:fldOf p1 (nm "Machine") (nm "finals")=true:=by decide +kernel
theorem ev_setattr {W:Wd}{c x:Str}{v:V}{fs:List (Str×V)}{vars:List (Option V)}{obs:List Ob}(hf:W.fld c x=true)(hl:fs.length≤100):setAttrV W (.ref (obs.length+1)) x v ⟨vars,obs++[.ns fs,.inst c obs.length]⟩=.ok () ⟨vars,obs++[.ns (setField x v fs),.inst c obs.length]⟩:=by
 unfold setAttrV
 refine rb (by rw[ev_getOb,tl1]) ?_
 show (if W.fld c x=true then _ else stuck) _=_
 rw[if_pos hf]
 refine rb (by rw[ev_getOb,tl0]) ?_
 show (if fs.length≤100 then _ else stuck) _=_
 rw[if_pos hl,ev_setOb,if_pos (by rw[List.length_append];exact Nat.lt_add_of_pos_right (Nat.succ_pos _)),ts0]
theorem Good.wl {s:List Nat}{rows:List (List Nat)}{ends:List Bool}(G:Good s rows ends):∀ w∈rows,w.length≤1000:=fun w hw=>by rw[(G.row w hw).1];exact Nat.le_trans G.signs.three (by decide)
theorem copy_rows' {b:Nat}{src:M Src}{elt:M V}{vars:List (Option V)}{obs:List Ob}{rows:List (List Nat)}{its:List V}{c:List (Nat×Ob)}(hb:vars.length=b)(hs:src ⟨vars,obs⟩=.ok ⟨its,c⟩ ⟨vars,obs⟩)(hc:ChkP c obs)(DI:DLs obs its rows)(hl:rows.length≤1000)(hw:∀ w∈rows,w.length≤1000)(he:elt=appM fList [varM b]) :
  compM b 1 src (.var b) (andM []) elt ⟨vars,obs⟩=.ok (nll rows) ⟨vars,obs⟩:=by
 subst hb
 obtain⟨v',h⟩:∃ v',compItems (.var vars.length) (andM []) elt c its ⟨vars++[none],obs⟩=.ok (rows.map nl) ⟨v',obs⟩:=by
  have key:∀ (its:List V) (rows:List (List Nat)) (z:Option V),DLs obs its rows→(∀ w∈rows,w.length≤1000)→∃ v',compItems (.var vars.length) (andM []) elt c its ⟨vars++[z],obs⟩=.ok (rows.map nl) ⟨v',obs⟩:=by
   intro its
   induction its with
   | nil =>
    intro rows z D hw
    cases rows with
    | cons _ _=>exact D.elim
    | nil=>exact⟨_,by unfold compItems;rw[ev_bind,hc];rfl⟩
   | cons x its ih =>
    intro rows z D hw
    cases rows with
    | nil=>exact D.elim
    | cons w rows =>
     obtain⟨v',h'⟩:=ih rows (some x) D.2 fun w hw'=>hw w (.tail _ hw')
     refine⟨v',?_⟩
     unfold compItems
     rw[ev_bind,hc,Out.bind_ok,ev_bind,ev_asg_var,ev_setVar,if_pos (by simp),Out.bind_ok]
     have e:(vars++[z]).set vars.length (some x)=vars++[some x]:=by simp
     have e':(vars++[some x])[vars.length]?=some (some x):=by simp
     have hx:elt ⟨vars++[some x],obs⟩=.ok (nl w) ⟨vars++[some x],obs⟩:=by
      rw[he]
      simp only[ev_app,ev_bind,ev_seqM_cons,ev_var,e',Out.bind_ok,ev_seqM_nil,ev_pure,D.1.cpy]
      rw[ev_allocL (by unfold intsV;rw[List.length_map];exact hw w (.head _))];rfl
     rw[e,ev_bind]
     show Out.bind (M.pure true ⟨vars++[some x],obs⟩) _=_
     rw[ev_pure,Out.bind_ok,if_pos rfl,ev_bind,hx,Out.bind_ok,ev_bind,h'];rfl
  exact key its rows none DI hw
 unfold compM
 rw[ev_bind,hs,Out.bind_ok,if_pos (le_lim (by rw[DI.len];exact hl)),ev_bind]
 have:innerM vars.length 1 (compItems (.var vars.length) (andM []) elt c its) ⟨vars,obs⟩=.ok (rows.map nl) ⟨vars,obs⟩:=by
  unfold innerM
  have e:({ vars:=List.take vars.length vars++List.replicate 1 none,obs:=obs }:St)=⟨vars++[none],obs⟩:=by simp
  dsimp only
  rw[e,h]
 dsimp only
 rw[ev_noX,this];rfl
theorem DL.grow {obs t:List Ob}{v:V}{xs:List V}(h:v=.flist xs∨∃ a,v=.ref a∧obs[a]?=some (.list xs)):DL (obs++t) v xs:=by
 rcases h with rfl | ⟨a,rfl,h⟩
 ·exact .flist _ _
 ·exact .ref (by rw[List.getElem?_append_left (List.getElem?_eq_some_iff.mp h).1];exact h)
noncomputable def LV (obs:List Ob)(v:V)(xs:List V):Prop:=v=.flist xs∨∃ a,v=.ref a∧obs[a]?=some (.list xs)
noncomputable def LVs (obs:List Ob):List V→List (List Nat)→Prop
 | [],[]=>True
 | v::vs,w::ws=>LV obs v (intsV w)∧LVs obs vs ws
 | _,_=>False
theorem LVs.grow {obs:List Ob}(t:List Ob):∀ {vs:List V} {ws:List (List Nat)},LVs obs vs ws→DLs (obs++t) vs ws
 | [],[],_=>trivial
 | _::_,_::_,h=>⟨DL.grow h.1,LVs.grow t h.2⟩
 | [],_::_,h=>h.elim
 | _::_,[],h=>h.elim
theorem LVs.nls (obs:List Ob):∀ ws:List (List Nat),LVs obs (ws.map nl) ws
 | []=>trivial
 | w::ws=>⟨.inl rfl,LVs.nls obs ws⟩
theorem init_eq (d:Nat){s:List Nat}{rows:List (List Nat)}{ends:List Bool}(G:Good s rows ends){rv ev:V}{its:List V}(vars:List (Option V))(obs:List Ob)(HR:LV obs rv its)(HI:LVs obs its rows)(HE:LV obs ev (ends.map V.bool)) :
  cfOf p1 (d+4) (.meth (nm "Machine") (nm "__init__")) [.ref (obs.length+1),.str s,rv,ev] ⟨vars,obs++[.ns [],.inst (nm "Machine") obs.length]⟩ =
   .ok .none ⟨vars,obs++[.ns [(nm "signs", .str s),(nm "ways", nll rows),(nm "finals", bl ends)],.inst (nm "Machine") obs.length]⟩:=by
 have hm:=G.most
 have e1:rows.length≤1000:=by exact Nat.le_trans hm (by decide)
 have e2:ends.length≤1000:=by rw[G.ends];exact e1
 have mk:=fun vars=>makes_eq' d (vars:=vars) (obs:=obs++[.ns [],.inst (nm "Machine") obs.length]) G (DL.grow HR) (HI.grow _) (DL.grow HE)
 have a1:=fun vars=>ev_setattr (W:=wdOf p1 (cfOf p1 (d+3)) (chOf p1 (d+3))) (c:=nm "Machine") (x:=nm "signs") (vars:=vars) (obs:=obs) (v:=.str s) (fs:=[]) fld_signs (by decide)
 have a2:=fun vars=>ev_setattr (W:=wdOf p1 (cfOf p1 (d+3)) (chOf p1 (d+3))) (c:=nm "Machine") (x:=nm "ways") (vars:=vars) (obs:=obs) (v:=nll rows) (fs:=[(nm "signs", .str s)]) fld_ways (by simp)
 have a3:=fun vars=>ev_setattr (W:=wdOf p1 (cfOf p1 (d+3)) (chOf p1 (d+3))) (c:=nm "Machine") (x:=nm "finals") (vars:=vars) (obs:=obs) (v:=bl ends) (fs:=[(nm "signs", .str s),(nm "ways", nll rows)]) fld_finals (by simp)
 have f1:setField (nm "signs") (.str s) []=[(nm "signs", .str s)]:=rfl
 have f2:setField (nm "ways") (nll rows) [(nm "signs", .str s)]=[(nm "signs", .str s),(nm "ways", nll rows)]:=rfl
 have f3:setField (nm "finals") (bl ends) [(nm "signs", .str s),(nm "ways", nll rows)]=[(nm "signs", .str s),(nm "ways", nll rows),(nm "finals", bl ends)]:=rfl
 rw[f1] at a1
 rw[f2] at a2
 rw[f3] at a3
 have D2:=DL.grow (t:=[.ns [(nm "signs", .str s)],.inst (nm "Machine") obs.length]) HR
 obtain⟨c2,hc2,hs2⟩:=D2.src
 have cp:=copy_rows' (b:=4) (vars:=[some (.ref (obs.length+1)),some (.str s),some rv,some ev]) (src:=(varM 2).bind toSrc) (obs:=obs++[.ns [(nm "signs", .str s)],.inst (nm "Machine") obs.length]) rfl (r_src rfl (hs2 _)) hc2 (HI.grow _) e1 G.wl (elt:=bd_Machine___init___1 (d+3)) rfl
 have l3:=(DL.grow (t:=[.ns [(nm "signs", .str s),(nm "ways", nll rows)],.inst (nm "Machine") obs.length]) HE).cpy
 have l4:∀ vars,fList [ev] ⟨vars,obs++[.ns [(nm "signs", .str s),(nm "ways", nll rows)],.inst (nm "Machine") obs.length]⟩=.ok (bl ends) ⟨vars,obs++[.ns [(nm "signs", .str s),(nm "ways", nll rows)],.inst (nm "Machine") obs.length]⟩:=fun vars=>by
  rw[l3,ev_allocL (by simpa using e2)];rfl
 rw[cf_Machine___init__]
 refine run_raw (fl:=.next) (vars':=[some (.ref (obs.length+1)),some (.str s),some rv,some ev]) rfl ?_
 exact r_seq (r_iff (r_nf (r_evB (r_app3 rfl rfl rfl (mk _)))) rfl) <| r_seq (r_setA rfl rfl (a1 _)) <| r_seq (r_setA cp rfl (a2 _)) <| r_one (r_setA (r_app1 rfl (l4 _)) rfl (a3 _))
theorem wd_cf (p:List Stmt)(cf:FnKey→List V→M V)(ch:Str→List V→M V):(wdOf p cf ch).cf=cf:=id rfl
theorem wd_frz (p:List Stmt)(cf:FnKey→List V→M V)(ch:Str→List V→M V)(c:Str):(wdOf p cf ch).frz c=(c==nm "Machine"):=id rfl
theorem new_eq' (d:Nat){s:List Nat}{rows:List (List Nat)}{ends:List Bool}(G:Good s rows ends){rv ev:V}{its:List V}(vars:List (Option V))(obs:List Ob)(HR:LV obs rv its)(HI:LVs obs its rows)(HE:LV obs ev (ends.map V.bool)) :
  newC (wdOf p1 (cfOf p1 (d+4)) (chOf p1 (d+4))) (nm "Machine") [.str s,rv,ev] ⟨vars,obs⟩=.ok (mach s rows ends) ⟨vars,obs⟩:=by
 have h:=init_eq d G vars obs HR HI HE
 have hz:(wdOf p1 (cfOf p1 (d+4)) (chOf p1 (d+4))).frz (nm "Machine")=true:=by rw[wd_frz];exact beq_self_eq_true _
 have hr:newR (wdOf p1 (cfOf p1 (d+4)) (chOf p1 (d+4))) (nm "Machine") [.str s,rv,ev] ⟨vars,obs⟩=.ok (.ref (obs.length+1)) ⟨vars,obs++[.ns [(nm "signs", .str s),(nm "ways", nll rows),(nm "finals", bl ends)],.inst (nm "Machine") obs.length]⟩:=by
  unfold newR
  simp only[ev_bind,ev_alloc,Out.bind_ok,List.append_assoc,List.cons_append,List.nil_append,List.length_append,List.length_cons,List.length_nil,wd_cf,Nat.zero_add,h]
  rfl
 unfold newC
 rw[if_pos hz]
 unfold newF
 rw[hr]
 have hp:ltVs obs.length [V.str s,nll rows,bl ends]=true:=by
  show (ltV obs.length (nll rows)&&(ltV obs.length (bl ends)&&true))=true
  rw[lt_mono _ (nll_pure rows),lt_mono _ (bl_pure ends)];rfl
 have h1:frzI (nm "Machine") obs.length (obs++[.ns [(nm "signs", .str s),(nm "ways", nll rows),(nm "finals", bl ends)],.inst (nm "Machine") obs.length])=some (mach s rows ends):=by
  unfold frzI
  rw[tl0,tl1]
  dsimp only
  rw[if_pos ⟨rfl,rfl,hp⟩];rfl
 have h2:keepL obs (obs++[.ns [(nm "signs", .str s),(nm "ways", nll rows),(nm "finals", bl ends)],.inst (nm "Machine") obs.length])=some obs:=if_pos (List.take_left' rfl)
 simp only[h1,h2]
theorem new_eq (d:Nat){s:List Nat}{rows:List (List Nat)}{ends:List Bool}(G:Good s rows ends)(st:St):newC (wdOf p1 (cfOf p1 (d+4)) (chOf p1 (d+4))) (nm "Machine") [.str s,nll rows,bl ends] st=.ok (mach s rows ends) st:=by
 obtain⟨vars,obs⟩:=st
 exact new_eq' d G vars obs (.inl rfl) (LVs.nls obs rows) (.inl rfl)
section
variable {s:List Nat}{rows:List (List Nat)}{ends:List Bool}
theorem at_ways (d:Nat)(st:St):attrV (wdOf p1 (cfOf p1 d) (chOf p1 d)) (nm "ways") (mach s rows ends) st=.ok (nll rows) st:=ev_attr_inst fld_ways rfl st
theorem at_signs (d:Nat)(st:St):attrV (wdOf p1 (cfOf p1 d) (chOf p1 d)) (nm "signs") (mach s rows ends) st=.ok (.str s) st:=ev_attr_inst fld_signs rfl st
theorem at_finals (d:Nat)(st:St):attrV (wdOf p1 (cfOf p1 d) (chOf p1 d)) (nm "finals") (mach s rows ends) st=.ok (bl ends) st:=ev_attr_inst fld_finals rfl st
end
end Mine
namespace Mine
set_option backward.match.sparseCases false
open PySem
theorem for_map {α:Type}{t:Tg}{body:M Flow}{c:List (Nat×Ob)}{f:α→V}{xs:List α}(I:Nat→St→Prop)(hc:∀ j st,I j st→ChkP c st.obs)
  (hs:∀ j x st,xs[j]?=some x→I j st→∃ st',((asg t (f x)).bind fun _=>body) st=.ok .next st'∧I (j+1) st') {st:St} (h0:I 0 st):∃ st',forItems t body c (xs.map f) st=.ok .next st'∧I xs.length st':=by
 obtain⟨st',h1,j,h2,h3,h4⟩:=forItems_ok (t:=t) (body:=body) (c:=c) (fun l st=>∃ j,l=(xs.drop j).map f∧I j st∧j≤xs.length) (fun l st h=>by obtain⟨j,_,h,_⟩:=h;exact hc j st h) (fun x l st h=>by
  obtain⟨j,hl,hI,hj⟩:=h
  have hj':j<xs.length:=by
   refine Nat.lt_of_not_le fun q=>?_
   rw[List.drop_eq_nil_of_le q] at hl
   cases hl
  rw[List.drop_eq_getElem_cons hj',List.map_cons] at hl
  injection hl with e1 e2
  subst e1
  obtain⟨st',h1,h2⟩:=hs j xs[j] st (List.getElem?_eq_getElem hj') hI
  exact⟨st',h1,j+1,e2,h2,hj'⟩) (xs.map f) st ⟨0,by simp,h0,Nat.zero_le _⟩
 have e:j=xs.length:=by
  refine Nat.le_antisymm h4 (Nat.le_of_not_lt fun q=>?_)
  rw[List.drop_eq_getElem_cons q] at h2
  cases h2
 subst e
 exact⟨st',h1,h3⟩
theorem comp_mapB {α:Type}{b n:Nat}{src:M Src}{t:Tg}{cond:M Bool}{elt:M V}{vars:List (Option V)}{obs:List Ob}{xs:List α}{f:α→V}{c:List (Nat×Ob)}(hb:vars.length=b)(hs:src ⟨vars,obs⟩=.ok ⟨xs.map f,c⟩ ⟨vars,obs⟩)(hl:xs.length≤lim)(hc:ChkP c obs)
  (g:α→Option V) (hg:∀ x∈xs,∀ zs,zs.length=n→∃ zs',zs'.length=n∧asg t (f x) ⟨vars++zs,obs⟩=.ok () ⟨vars++zs',obs⟩∧((g x=none∧cond ⟨vars++zs',obs⟩=.ok false ⟨vars++zs',obs⟩)∨∃ v,g x=some v∧cond ⟨vars++zs',obs⟩=.ok true ⟨vars++zs',obs⟩∧elt ⟨vars++zs',obs⟩=.ok v ⟨vars++zs',obs⟩)) :
  compM b n src t cond elt ⟨vars,obs⟩=.ok (.flist (xs.filterMap g)) ⟨vars,obs⟩:=by
 subst hb
 have key:∀ (l:List α) (zs:List (Option V)),zs.length=n→(∀ x∈l,x∈xs)→∃ v',compItems t cond elt c (l.map f) ⟨vars++zs,obs⟩=.ok (l.filterMap g) ⟨v',obs⟩:=by
  intro l
  induction l with
  | nil=>intro zs _ _;exact⟨_,by unfold compItems;rw[List.map_nil];dsimp only;rw[ev_bind,hc];rfl⟩
  | cons x l ih =>
   intro zs hz hx
   obtain⟨zs',h1,h2,h3⟩:=hg x (hx x (.head _)) zs hz
   obtain⟨v',h4⟩:=ih zs' h1 fun y hy=>hx y (.tail _ hy)
   refine⟨v',?_⟩
   rw[List.map_cons]
   unfold compItems
   rw[ev_bind,hc,Out.bind_ok,ev_bind,h2,Out.bind_ok,ev_bind]
   rcases h3 with ⟨q1,q2⟩ | ⟨v,q1,q2,q3⟩
   ·rw[q2,Out.bind_ok,if_neg (by decide),h4,List.filterMap_cons,q1]
   ·rw[q2,Out.bind_ok,if_pos rfl,ev_bind,q3,Out.bind_ok,ev_bind,h4,List.filterMap_cons,q1];rfl
 obtain⟨v',h⟩:=key xs (List.replicate n none) (by simp) fun _ q=>q
 unfold compM
 rw[ev_bind,hs,Out.bind_ok,if_pos (by rw[List.length_map];exact hl),ev_bind]
 have:innerM vars.length n (compItems t cond elt c (xs.map f)) ⟨vars,obs⟩=.ok (xs.filterMap g) ⟨vars,obs⟩:=by
  unfold innerM
  have e:({ vars:=List.take vars.length vars++List.replicate n none,obs:=obs }:St)=⟨vars++List.replicate n none,obs⟩:=by simp
  dsimp only
  rw[e,h]
 dsimp only
 rw[ev_noX,this];rfl
theorem comp1_mapB {α:Type}{b:Nat}{src:M Src}{elt:M V}{vars:List (Option V)}{obs:List Ob}{xs:List α}{f:α→V}{c:List (Nat×Ob)}(hb:vars.length=b)(hs:src ⟨vars,obs⟩=.ok ⟨xs.map f,c⟩ ⟨vars,obs⟩)(hl:xs.length≤lim)(hc:ChkP c obs)
  (g:α→V) (hg:∀ x∈xs,elt ⟨vars++[some (f x)],obs⟩=.ok (g x) ⟨vars++[some (f x)],obs⟩) :
  compM b 1 src (.var b) (andM []) elt ⟨vars,obs⟩=.ok (.flist (xs.map g)) ⟨vars,obs⟩:=by
 have:=comp_mapB (n:=1) (t:=.var b) (cond:=andM []) (elt:=elt) hb hs hl hc (fun x=>some (g x)) (fun x hx zs hz=>by
  refine⟨[some (f x)],rfl,?_,.inr ⟨g x,rfl,rfl,hg x hx⟩⟩
  match zs,hz with
  | [z],_ =>
   subst hb
   rw[ev_asg_var,ev_setVar,if_pos (by simp)]
   simp)
 rw[List.filterMap_eq_map'] at this
 exact this
theorem comp_map {α:Type}{b n:Nat}{src:M Src}{t:Tg}{cond:M Bool}{elt:M V}{vars:List (Option V)}{obs:List Ob}{xs:List α}{f:α→V}{c:List (Nat×Ob)}(hb:vars.length=b)(hs:src ⟨vars,obs⟩=.ok ⟨xs.map f,c⟩ ⟨vars,obs⟩)(hl:xs.length≤1000)(hc:ChkP c obs)
  (g:α→Option V) (hg:∀ x∈xs,∀ zs,zs.length=n→∃ zs',zs'.length=n∧asg t (f x) ⟨vars++zs,obs⟩=.ok () ⟨vars++zs',obs⟩∧((g x=none∧cond ⟨vars++zs',obs⟩=.ok false ⟨vars++zs',obs⟩)∨∃ v,g x=some v∧cond ⟨vars++zs',obs⟩=.ok true ⟨vars++zs',obs⟩∧elt ⟨vars++zs',obs⟩=.ok v ⟨vars++zs',obs⟩)) :
  compM b n src t cond elt ⟨vars,obs⟩=.ok (.flist (xs.filterMap g)) ⟨vars,obs⟩:=comp_mapB hb hs (le_lim hl) hc g hg
theorem comp1_map {α:Type}{b:Nat}{src:M Src}{elt:M V}{vars:List (Option V)}{obs:List Ob}{xs:List α}{f:α→V}{c:List (Nat×Ob)}(hb:vars.length=b)(hs:src ⟨vars,obs⟩=.ok ⟨xs.map f,c⟩ ⟨vars,obs⟩)(hl:xs.length≤1000)(hc:ChkP c obs)
  (g:α→V) (hg:∀ x∈xs,elt ⟨vars++[some (f x)],obs⟩=.ok (g x) ⟨vars++[some (f x)],obs⟩) :
  compM b 1 src (.var b) (andM []) elt ⟨vars,obs⟩=.ok (.flist (xs.map g)) ⟨vars,obs⟩:=comp1_mapB hb hs (le_lim hl) hc g hg
theorem nth_pre {vars zs:List (Option V)}{i:Nat}{v:Option V}(h:vars[i]?=some v):(vars++zs)[i]?=some v:=by
 rw[List.getElem?_append_left (List.getElem?_eq_some_iff.mp h).1];exact h
theorem nth_new {vars:List (Option V)}{i:Nat}{v:Option V}(h:vars.length=i):(vars++[v])[i]?=some v:=by rw[← h];simp
theorem asg_one {t i:Nat}{v:V}{vars:List (Option V)}{obs:List Ob}(h:i<vars.length):asg (.var i) v ⟨vars,obs⟩=.ok () ⟨vars.set i (some v),obs⟩:=by
 rw[ev_asg_var,ev_setVar,if_pos h]
theorem ev_rng {n:Nat}(h:n≤1000)(st:St):fRange [.int n] st=.ok (.range 0 n) st:=by rw[ev_range1,if_pos (by exact⟨Int.le_trans (by decide) (Int.natCast_nonneg n),Int.le_trans (Int.ofNat_le.mpr h) (by decide)⟩)];rfl
theorem ev_rngS {n:Nat}(h:n≤1000)(st:St):toSrc (.range 0 n) st=.ok ⟨(List.range n).map fun (k:Nat)=>V.int k,[]⟩ st:=by rw[ev_toSrc_range,if_pos (small_small (by exact Int.le_trans (by decide) (Int.natCast_nonneg n)) (by exact Int.ofNat_le.mpr h)),range_nat]
theorem r_addi {a b c:Int}{st:St}(e:a+b=c):binV .Add (.int a) (.int b) st=.ok (.int c) st:=e▸rfl
theorem r_subi {a b c:Int}{st:St}(e:a-b=c):binV .Sub (.int a) (.int b) st=.ok (.int c) st:=e▸rfl
theorem r_range {n:Nat}{m:M V}{st:St}(h:m st=.ok (.int n) st)(hn:n≤1000):((appM fRange [m]).bind toSrc) st=.ok ⟨(List.range n).map fun (k:Nat)=>V.int k,[]⟩ st:=rb (r_app1 h (ev_rng hn _)) (ev_rngS hn _)
theorem r_var {i:Nat}{vars:List (Option V)}{obs:List Ob}{v:V}(h:vars[i]?=some (some v)):varM i ⟨vars,obs⟩=.ok v ⟨vars,obs⟩:=by rw[ev_var,h]
theorem ev_range {n:Nat}(h:n≤1000)(st:St):((fRange [.int n]).bind toSrc) st=.ok ⟨(List.range n).map fun (k:Nat)=>V.int k,[]⟩ st:=by
 rw[ev_bind,ev_range1,if_pos (by exact⟨Int.le_trans (by decide) (Int.natCast_nonneg n),Int.le_trans (Int.ofNat_le.mpr h) (by decide)⟩),ev_pure,Out.bind_ok,ev_toSrc_range,if_pos (small_small (by exact Int.le_trans (by decide) (Int.natCast_nonneg n)) (by exact Int.ofNat_le.mpr h)),range_nat]
end Mine
set_option maxRecDepth 100000
namespace Mine
set_option backward.match.sparseCases false
open PySem
noncomputable def signT (m i k:Nat):Nat:=97+(m+(2*i+1)*k) % 26
noncomputable def signsB (s:List Nat):Bool:=decide (1≤s.length)&&decide (s.length≤3)&&s.all (fun c=>decide (97≤c)&&decide (c≤122))&&decide s.Nodup
theorem signsB_ok {s:List Nat}(h:signsB s=true):SignsP s:=by
 unfold signsB at h
 simp only[Bool.and_eq_true,decide_eq_true_eq,List.all_eq_true] at h
 exact⟨h.1.1.1,h.1.1.2,h.1.2,h.2⟩
theorem signs_all:∀ (m:Fin 26) (i:Fin 6) (n:Fin 3),signsB ((List.range (n.1+1)).map (signT m i))=true:=by decide +kernel
theorem signs_step (i:Fin 6):idxL [V.int 1,V.int 3,V.int 5,V.int 7,V.int 9,V.int 11] ((i.1:Nat):Int)=some (.int ((2*i.1+1:Nat):Int)):=by
 have e:[V.int 1,V.int 3,V.int 5,V.int 7,V.int 9,V.int 11]=(List.range 6).map fun i=>V.int ((2*i+1:Nat):Int):=rfl
 rw[e]
 exact idx_nat (by rw[List.getElem?_map,List.getElem?_range i.2];rfl) (by rw[List.length_map,List.length_range];decide)
theorem modF (x:Int){n:Nat}(hn:0<n):∃ m:Fin n,x % n=((m.1:Nat):Int):=⟨⟨(x % n).toNat,(Int.toNat_lt (Int.emod_nonneg x (Int.ne_of_gt (Int.ofNat_lt.mpr hn)))).mpr (Int.emod_lt_of_pos x (Int.ofNat_lt.mpr hn))⟩,(Int.toNat_of_nonneg (Int.emod_nonneg x (Int.ne_of_gt (Int.ofNat_lt.mpr hn)))).symm⟩
theorem signs_at {q:Int}{m:Nat}(h:q % 26=(m:Int))(i k:Nat):(q+((2*i+1:Nat):Int)*(k:Int)) % 26=(((m+(2*i+1)*k) % 26:Nat):Int):=by
 rw[← Int.emod_add_emod,h,Int.natCast_emod,Int.natCast_add,Int.natCast_mul];rfl
theorem signs_ok (d:Nat)(c:Int):∃ s,SignsP s∧∀ st,cfOf p1 (d+1) (.fn (nm "_law_signs")) [.int c] st=.ok (.str s) st:=by
 obtain⟨i,hi⟩:=modF (c / 78) (n:=6) (by decide)
 obtain⟨n,hn⟩:=modF c (n:=3) (by decide)
 obtain⟨m,hm⟩:=modF (c / 3) (n:=26) (by decide)
 have h1:=signs_step i
 have hn':1+c % 3=((n.1+1:Nat):Int):=(congrArg (1+·) hn).trans (Int.add_comm _ _)
 have hi':c / 78 % 6=((i.1:Nat):Int):=hi
 have nl3:n.1+1≤3:=n.2
 refine⟨(List.range (n.1+1)).map (signT m i),signsB_ok (signs_all m i n),fun st=>?_⟩
 obtain⟨vars,obs⟩:=st
 have n1:n.1+1≤1000:=Nat.le_trans nl3 (by decide)
 have i2:i.1<6:=i.2
 have hc:=comp1_map (b:=3) (vars:=[some (.int c),some (.str letters),some (.int ((2*i.1+1:Nat):Int))]) (obs:=obs) (src:=(appM fRange [binM .Add (constM (.int 1)) (binM .Mod (varM 0) (constM (.int 3)))]).bind toSrc) (elt:=bd__law_signs_1 d) (xs:=List.range (n.1+1)) (f:=fun (k:Nat)=>V.int k) (c:=[]) rfl
  (r_range (r_bin rfl (r_bin rfl rfl (r_mod (by decide) rfl)) (r_addi hn')) n1) (by rw[List.length_range];exact n1) (.nil _) (fun k=>V.str [signT m i k]) (fun k hk=>by
   have hk':k<1000:=Nat.lt_of_lt_of_le (List.mem_range.mp hk) n1
   have hm':mulG ((2*i.1+1:Nat):Int) (k:Int):=mulG_nat (by exact Nat.le_trans (Nat.succ_le_succ (Nat.mul_le_mul_left 2 (Nat.le_of_lt i2))) (by decide)) (Nat.le_of_lt hk')
   have e:=signs_at hm i.1 k
   have hx:=idx_letters (m:=(((m.1+(2*i.1+1)*k) % 26:Nat):Int)) ⟨Int.natCast_nonneg _,Int.ofNat_lt.mpr (Nat.mod_lt _ (by decide))⟩
   rw[Int.toNat_natCast] at hx
   exact r_sub rfl (r_bin (r_bin (r_bin rfl rfl (r_div (by decide) rfl)) (r_bin rfl rfl (ev_mul_int hm' _)) rfl) rfl (r_mod (by decide) e)) (by rw[ev_sub_str,hx];rfl))
 have hj:=ev_join (s:=(List.range (n.1+1)).map (signT m i)) (by rw[List.length_map,List.length_range];exact n1)
 rw[List.map_map] at hj
 rw[cf__law_signs]
 refine run_pure (fl:=.ret (.str ((List.range (n.1+1)).map (signT m i)))) (vars':=[some (.int c),some (.str letters),some (.int ((2*i.1+1:Nat):Int))]) rfl ?_ rfl
 have hj':∀ st,mJoin [.str [],.flist ((List.range (n.1+1)).map fun k=>V.str [signT m i k])] st=.ok (.str ((List.range (n.1+1)).map (signT m i))) st:=hj
 unfold letters at hc
 have l6:([V.int 1,V.int 3,V.int 5,V.int 7,V.int 9,V.int 11]).length≤1000:=by decide
 exact r_seq (r_asg rfl rfl rfl) <| r_seq (r_asg (r_sub (r_list rfl (ev_allocL l6 _)) (r_bin (r_bin rfl rfl (r_div (by decide) rfl)) rfl (r_mod (by decide) hi')) (r_idx h1)) rfl rfl) <| r_one (r_ret (r_meth1 rfl rfl hc (hj' _)))
theorem getD_heavy {xs:List Int}(hh:∀ x∈xs,heavy 1048577 x)(k:Nat):heavy 1048577 (xs.getD k 0):=by
 by_cases h:k<xs.length
 ·rw[List.getD_eq_getElem?_getD,List.getElem?_eq_getElem h];exact hh _ (List.getElem_mem h)
 ·rw[List.getD_eq_getElem?_getD,List.getElem?_eq_none (by exact Nat.le_of_not_lt h)];exact Nat.lt_of_le_of_lt (Nat.le_of_eq rfl) (by decide:0<1048577)
theorem modN (x:Int){n:Nat}(hn:0<n):∃ m:Nat,x % n=(m:Int)∧m<n:=⟨(x % n).toNat,by have:=Int.emod_nonneg x (b:=n) (by exact Int.ne_of_gt (Int.ofNat_lt.mpr hn));exact (Int.toNat_of_nonneg this).symm,by have:=Int.emod_lt_of_pos x (b:=n) (by exact Int.ofNat_lt.mpr hn);have:=Int.emod_nonneg x (b:=n) (by exact Int.ne_of_gt (Int.ofNat_lt.mpr hn));exact (Int.toNat_lt this).mpr (by assumption)⟩
noncomputable def drawRow (c:Int)(k n:Nat):List Nat:=(List.range k).map fun (p:Nat)=>(mixed c p / 16 % (n:Int)).toNat
noncomputable def drawEnd (c:Int):Bool:=mixed c 5 / 64 % 2==1
theorem row_comp (d:Nat){c:Int}(hc:heavy 1048577 c){k n:Nat}(hk:k≤3)(hn:0<n){vars:List (Option V)}{obs:List Ob}(h9:vars.length=9)(h2:vars[2]?=some (some (.int k)))(h4:vars[4]?=some (some (.int n)))(h8:vars[8]?=some (some (.int c))) :
  compM 9 1 ((appM fRange [varM 2]).bind toSrc) (.var 9) (andM []) (bd__law_drawn_1 (d+1)) ⟨vars,obs⟩=.ok (nl (drawRow c k n)) ⟨vars,obs⟩:=by
 have k1:k≤1000:=Nat.le_trans hk (by decide)
 have hnp:(0:Int)<n:=Int.ofNat_lt.mpr hn
 have h:=comp1_map (elt:=bd__law_drawn_1 (d+1)) (vars:=vars) (obs:=obs) (c:=[]) (src:=(appM fRange [varM 2]).bind toSrc) (xs:=List.range k) (f:=fun (k:Nat)=>V.int k) h9 (r_range (r_var h2) k1) (by rw[List.length_range];exact k1) (.nil _) (fun p=>V.int ((mixed c p / 16 % (n:Int)).toNat:Nat)) (fun p hp=>by
  have hp':p≤1000:=Nat.le_trans (Nat.le_of_lt (List.mem_range.mp hp)) k1
  have hm:=mixed_eq d c p ⟨vars++[some (V.int p)],obs⟩ (heavy_mono hc (by decide)) ⟨Int.natCast_nonneg _,Int.ofNat_le.mpr hp'⟩
  have e:((mixed c p / 16 % (n:Int)).toNat:Int)=mixed c p / 16 % (n:Int):=Int.toNat_of_nonneg (Int.emod_nonneg _ (Int.ne_of_gt hnp))
  rw[e]
  exact r_bin (r_bin (r_app2 (r_var (nth_pre h8)) (r_var (nth_new h9)) hm) rfl (r_div (by decide) rfl)) (r_var (nth_pre h4)) (r_mod hnp rfl))
 rw[h]
 unfold nl drawRow
 rw[List.map_map];rfl
theorem drawRow_ok (c:Int)(k:Nat){n:Nat}(hn:0<n):(drawRow c k n).length=k∧∀ i∈drawRow c k n,i<n:=by
 unfold drawRow
 refine⟨by simp,fun i hi=>?_⟩
 obtain⟨p,_,rfl⟩:=List.mem_map.mp hi
 obtain⟨m,hm,hlt⟩:=modN (mixed c p / 16) hn
 rw[hm];simpa using hlt
noncomputable def drawRows (xs:List Int)(start k n j:Nat):List (List Nat):=(List.range j).map fun r=>drawRow (xs.getD (start+1+r) 0) k n
noncomputable def drawEnds (xs:List Int)(start j:Nat):List Bool:=(List.range j).map fun r=>drawEnd (xs.getD (start+1+r) 0)
theorem drawn_loop (d:Nat){xs:List Int}(hx:xs.length≤63)(hh:∀ x∈xs,heavy 1048577 x){k n start most:Nat}(hk:k≤3)(hn:0<n)(hn20:n≤100)(hst:start≤100)(obs:List Ob) :
  ∃ z y,forItems (.var 7) (bd__law_drawn_2 (d+1)) [] ((List.range n).map fun (k:Nat)=>V.int k) ⟨[some (.alist (xs.map .int)),some (.int start),some (.int k),some (.int most),some (.int n),some (.ref obs.length),some (.ref (obs.length+1)),none,none],obs++[.list [],.list []]⟩ =
    .ok .next ⟨[some (.alist (xs.map .int)),some (.int start),some (.int k),some (.int most),some (.int n),some (.ref obs.length),some (.ref (obs.length+1)),z,y],obs++[.list ((drawRows xs start k n n).map nl),.list ((drawEnds xs start n).map V.bool)]⟩:=by
 obtain⟨st,h1,z,y,rfl⟩:=for_map (t:=.var 7) (body:=bd__law_drawn_2 (d+1)) (c:=[]) (f:=fun (k:Nat)=>V.int k) (xs:=List.range n)
  (fun j st=>∃ z y,st=⟨[some (.alist (xs.map .int)),some (.int start),some (.int k),some (.int most),some (.int n),some (.ref obs.length),some (.ref (obs.length+1)),z,y],obs++[.list ((drawRows xs start k n j).map nl),.list ((drawEnds xs start j).map V.bool)]⟩)
  (fun _ _ _=>.nil _) (fun j x st hx' hI=>by
   obtain⟨z,y,rfl⟩:=hI
   have hj:j<n:=by simpa using (List.getElem?_eq_some_iff.mp hx').1
   have hxj:x=j:=by simpa [hj] using hx'.symm
   subst hxj
   have hc:∀ st,cfOf p1 (d+1) (.fn (nm "_law_cell_at")) [.alist (xs.map .int),.int ((start:Int)+1+(x:Int))] st=.ok (.int (xs.getD (start+1+x) 0)) st:=fun st=>cell_eq d xs (start+1+x) st hx (by exact Nat.le_trans (Nat.add_le_add (Nat.succ_le_succ hst) (Nat.le_trans (Nat.le_of_lt hj) hn20)) (by decide))
   have e3:drawRows xs start k n (x+1)=drawRows xs start k n x++[drawRow (xs.getD (start+1+x) 0) k n]:=by unfold drawRows;rw[List.range_succ,List.map_append];rfl
   have e4:drawEnds xs start (x+1)=drawEnds xs start x++[drawEnd (xs.getD (start+1+x) 0)]:=by unfold drawEnds;rw[List.range_succ,List.map_append];rfl
   have l1:((drawRows xs start k n x).map nl).length≤1000:=by unfold drawRows;rw[List.length_map,List.length_map,List.length_range];exact Nat.le_trans (Nat.le_of_lt hj) (Nat.le_trans hn20 (by decide))
   have l2:((drawEnds xs start x).map V.bool).length≤1000:=by unfold drawEnds;rw[List.length_map,List.length_map,List.length_range];exact Nat.le_trans (Nat.le_of_lt hj) (Nat.le_trans hn20 (by decide))
   have hhc:heavy 1048577 (xs.getD (start+1+x) 0):=getD_heavy hh _
   generalize xs.getD (start+1+x) 0=c at hc e3 e4 hhc
   generalize drawRows xs start k n x=R at *
   generalize drawEnds xs start x=B at *
   refine⟨_,?_,some (.int x),some (.int c),rfl⟩
   rw[e3,e4,List.map_append,List.map_append,List.map_singleton,List.map_singleton]
   have hm:=fun st=>mixed_eq d c 5 st (heavy_mono hhc (by decide)) (by decide)
   have hrow:=row_comp d hhc hk hn (vars:=[some (.alist (xs.map .int)),some (.int start),some (.int k),some (.int most),some (.int n),some (.ref obs.length),some (.ref (obs.length+1)),some (.int x),some (.int c)]) (obs:=obs++[.list (R.map nl),.list (B.map V.bool)]) rfl rfl rfl rfl
   exact rb (a:=()) rfl (r_seq (r_asg (r_app2 rfl (r_bin (r_bin rfl rfl rfl) rfl rfl) (hc _)) rfl rfl) <| r_seq (r_push rfl (tl0 ..) hrow l1 (ts0 ..)) <| r_one (r_push rfl (tl1 ..) (r_boolV (r_cmp (r_bin (r_bin (r_app2 rfl rfl (hm _)) rfl (r_div (by decide) rfl)) rfl (r_mod (by decide) rfl)) rfl (r_eqi rfl))) l2 (ts1 ..)))) (st:=⟨[some (.alist (xs.map .int)),some (.int start),some (.int k),some (.int most),some (.int n),some (.ref obs.length),some (.ref (obs.length+1)),none,none],obs++[.list [],.list []]⟩) ⟨none,none,rfl⟩
 rw[List.length_range] at h1
 exact⟨z,y,h1⟩
theorem enum_cons (i:Nat)(a:V)(l:List V):enumFrom i (a::l)=.tuple [.int i,a]::enumFrom (i+1) l:=rfl
theorem enum_map {α:Type}(f:α→V):∀ (l:List α) (i:Nat),enumFrom i (l.map f)=(l.zipIdx i).map fun p=>V.tuple [.int p.2,f p.1]
 | [],_=>rfl
 | a::l,i=>by rw[List.map_cons,enum_cons,enum_map f l (i+1)];rfl
theorem clip_nat {n k:Nat}(h:k≤n):clipAt n (k:Int)=k:=by
 unfold clipAt
 rw[if_neg (Int.not_lt.mpr (Int.natCast_nonneg k)),Int.min_eq_left (Int.ofNat_le.mpr h),Int.max_eq_right (Int.natCast_nonneg k)];rfl
theorem slice_tail {α:Type}(xs:List α):sliceL xs (some 1) none=xs.drop 1:=by
 unfold sliceL
 cases xs with
 | nil=>rfl
 | cons a xs =>
  have e:clipAt (a::xs).length 1=1:=clip_nat (k:=1) (Nat.succ_le_succ (Nat.zero_le _))
  simp only[Option.elim,e]
  simp
noncomputable def ringRow (n i:Nat)(w:List Nat):List Nat:=(i+1) % n::w.drop 1
noncomputable def ringRows (n:Nat)(rows:List (List Nat)):List (List Nat):=rows.zipIdx.map fun p=>ringRow n p.2 p.1
noncomputable def ringEnds (n:Nat):List Bool:=(List.range n).map fun p=>decide (p=n-1)
theorem ring_comp (d:Nat){n:Nat}(hn:0<n)(hn2:n≤100){rows:List (List Nat)}(hr:rows.length≤100)(hw:∀ w∈rows,w.length≤100){vars:List (Option V)}{obs:List Ob}{a:Nat}(h9:vars.length=9)(h4:vars[4]?=some (some (.int n)))(h5:vars[5]?=some (some (.ref a)))(ha:obs[a]?=some (.list (rows.map nl))) :
  compM 9 2 ((varM 5).bind enumV) (.tup [9,10]) (andM []) (bd__law_drawn_3 (d+1)) ⟨vars,obs⟩=.ok (nll (ringRows n rows)) ⟨vars,obs⟩:=by
 have hnp:(0:Int)<n:=Int.ofNat_lt.mpr hn
 have h:=comp_map (n:=2) (t:=.tup [9,10]) (cond:=andM []) (elt:=bd__law_drawn_3 (d+1)) (vars:=vars) (obs:=obs) (src:=(varM 5).bind enumV) (xs:=rows.zipIdx) (f:=fun p=>V.tuple [.int p.2,nl p.1]) h9 (c:=[(a,.list (rows.map nl))]) (rb (r_var h5) (by rw[ev_enum_ref ha,enum_map])) (by rw[List.length_zipIdx];exact Nat.le_trans hr (by decide)) (.one ha)
  (fun p=>some (nl (ringRow n p.2 p.1))) (fun p hp zs hz=>by
  obtain⟨w,i⟩:=p
  have hwm:w∈rows:=List.fst_mem_of_mem_zipIdx hp
  match zs,hz with
  | [z1,z2],_ =>
   refine⟨[some (.int i),some (nl w)],rfl,?_,.inr ⟨_,rfl,rfl,?_⟩⟩
   ·have e1:(vars++[z1,z2]).set 9 (some (V.int i))=vars++[some (V.int i),z2]:=by rw[← h9];simp
    have e2:(vars++[some (V.int i),z2]).set 10 (some (nl w))=vars++[some (V.int i),some (nl w)]:=by
     have:10=vars.length+1:=by rw[h9]
     rw[this,List.set_append_right _ _ (Nat.le_succ _)];simp
    rw[ev_asg_tup,ev_setVars_cons,ev_bind,ev_setVar,if_pos (by simp[h9]),Out.bind_ok,e1,ev_setVars_cons,ev_bind,ev_setVar,if_pos (by simp[h9]),Out.bind_ok,e2]
    rfl
   ·have e9:(vars++[some (V.int i),some (nl w)])[9]?=some (some (.int i)):=by rw[← h9];simp
    have e10:(vars++[some (V.int i),some (nl w)])[10]?=some (some (nl w)):=by
     have:10=vars.length+1:=by rw[h9]
     rw[this,List.getElem?_append_right (Nat.le_succ _)];simp
    have l1:(w.map fun (n:Nat)=>V.int n).length≤1000:=by rw[List.length_map];exact Nat.le_trans (hw w hwm) (by decide)
    have l2:([V.int (((i+1) % n:Nat):Int)]++(w.map fun (n:Nat)=>V.int n).drop 1).length≤1000:=by
     have:=hw w hwm
     simp only[List.length_append,List.length_cons,List.length_nil,List.length_drop,List.length_map];exact Nat.le_trans (Nat.add_le_add_left (Nat.le_trans (Nat.sub_le _ _) this) _) (by decide)
    have e:((i:Int)+1) % n=(((i+1) % n:Nat):Int):=by rw[Int.natCast_emod];rfl
    have e3:nl (ringRow n i w)=.flist ([V.int (((i+1) % n:Nat):Int)]++(w.map fun (n:Nat)=>V.int n).drop 1):=by
     unfold nl ringRow
     rw[List.map_cons,List.map_drop];rfl
    have hs1:∀ st,sliceV (.flist (w.map fun (n:Nat)=>V.int n)) (some 1) none st=.ok (.flist ((w.map fun (n:Nat)=>V.int n).drop 1)) st:=fun st=>by rw[ev_slice_flist,ev_sliS _ _ l1,slice_tail]
    rw[e3]
    unfold nl at e9 e10 ⊢
    exact r_bin (r_list (r_sq (r_bin (r_bin (r_var e9) rfl rfl) (r_var (nth_pre h4)) (r_mod hnp e)) rfl) (ev_allocL (by simp) _)) (r_slice (r_var e10) (r_opt rfl) rfl (hs1 _)) (ev_allocL l2 _))
 rw[h,List.filterMap_eq_map']
 unfold nll ringRows
 rw[List.map_map];rfl
theorem endN_comp (d:Nat){n:Nat}(hn:0<n)(hn2:n≤100){vars:List (Option V)}{obs:List Ob}(h9:vars.length=9)(h4:vars[4]?=some (some (.int n))) :
  compM 9 1 ((appM fRange [varM 4]).bind toSrc) (.var 9) (andM []) (bd__law_drawn_4 (d+1)) ⟨vars,obs⟩=.ok (bl (ringEnds n)) ⟨vars,obs⟩:=by
 have n1:n≤1000:=Nat.le_trans hn2 (by decide)
 have h:=comp1_map (elt:=bd__law_drawn_4 (d+1)) (vars:=vars) (obs:=obs) (c:=[]) (src:=(appM fRange [varM 4]).bind toSrc) (xs:=List.range n) (f:=fun (k:Nat)=>V.int k) h9 (r_range (r_var h4) n1) (by rw[List.length_range];exact n1) (.nil _) (fun p=>V.bool (decide (p=n-1))) (fun p hp=>by
  have e:((p:Int)==(n:Int)-1)=decide (p=n-1):=by
   rw[show (n:Int)-1=((n-1:Nat):Int) from (Int.ofNat_sub hn).symm,Bool.eq_iff_iff,beq_iff_eq,decide_eq_true_eq];exact Int.ofNat_inj
  exact r_boolV (r_cmp (r_var (nth_new h9)) (r_bin (r_var (nth_pre h4)) rfl rfl) (r_eqi e)))
 rw[h]
 unfold bl ringEnds
 rw[List.map_map];rfl
theorem drawn_head (d:Nat){xs:List Int}(hx:xs.length≤63)(hh:∀ x∈xs,heavy 1048577 x){k start most n:Nat}{c:Int}(hk:k≤3)(hst:start≤100)(hmp:(0:Int)<most)(hnn:1+c % most=(n:Int))(hn0:0<n)(hn1:n≤100)
  (c1:∀ st,cfOf p1 (d+1) (.fn (nm "_law_cell_at")) [.alist (xs.map .int),.int start] st=.ok (.int c) st) (obs:List Ob) :
  ∃ z y,∀ rest,seqS (assignM (.var 4) (binM .Add (constM (.int 1)) (binM .Mod (appM (cfOf p1 (d+1) (.fn (nm "_law_cell_at"))) [varM 0,varM 1]) (varM 3))) ::
   assignM (.var 5) ((listM []).bind ownL)::assignM (.var 6) ((listM []).bind ownL)::forM (.var 7) ((appM fRange [varM 4]).bind toSrc) (bd__law_drawn_2 (d+1))::rest) ⟨[some (.alist (xs.map .int)),some (.int start),some (.int k),some (.int most),none,none,none,none,none],obs⟩ =
   seqS rest ⟨[some (.alist (xs.map .int)),some (.int start),some (.int k),some (.int most),some (.int n),some (.ref obs.length),some (.ref (obs.length+1)),z,y],obs++[.list ((drawRows xs start k n n).map nl),.list ((drawEnds xs start n).map V.bool)]⟩:=by
 obtain⟨z,y,hl⟩:=drawn_loop d hx hh (k:=k) (most:=most) hk hn0 hn1 hst obs
 refine⟨z,y,fun rest=>?_⟩
 exact r_seq (r_asg (r_bin rfl (r_bin (r_app2 rfl rfl (c1 _)) rfl (r_mod hmp rfl)) (r_addi hnn)) rfl rfl) <| r_seq (r_asg (r_own (r_list rfl (ev_allocL (by decide) _))) rfl rfl) <| r_seq (r_asg (r_ownE (r_list rfl (ev_allocL (by decide) _)) List.length_append (List.append_assoc ..)) rfl rfl) <| r_seq (r_for (r_range rfl (Nat.le_trans hn1 (by decide:100≤1000))) hl) rfl
theorem drawn_ok (d:Nat){xs:List Int}(hx:xs.length≤63)(hh:∀ x∈xs,heavy 1048577 x){k start most:Nat}(hk:1≤k∧k≤3)(hst:start≤100)(hm:1≤most∧most≤100) :
  ∃ (rows:List (List Nat)) (ends:List Bool),1≤rows.length∧rows.length≤most∧ends.length=rows.length∧(∀ w∈rows,w.length=k∧∀ i∈w,i<rows.length) ∧
   ∀ st,cfOf p1 (d+2) (.fn (nm "_law_drawn")) [.alist (xs.map .int),.int start,.int k,.int most] st=.ok (.tuple [nll rows,bl ends]) st:=by
 have c1:∀ st,cfOf p1 (d+1) (.fn (nm "_law_cell_at")) [.alist (xs.map .int),.int start] st=.ok (.int (xs.getD start 0)) st:=fun st=>cell_eq d xs start st hx (by exact Nat.le_trans hst (by decide))
 generalize xs.getD start 0=c at c1
 have hmp:(0:Int)<most:=by exact Int.ofNat_lt.mpr hm.1
 obtain⟨n',hn',hlt'⟩:=modN c (n:=most) (by exact hm.1)
 obtain⟨n,hn⟩:∃ n,n=n'+1:=⟨_,rfl⟩
 have hnn:1+c % most=(n:Int):=by (rw[hn',hn];exact Int.add_comm 1 _)
 have hn0:0<n:=by exact hn▸Nat.succ_pos _
 have hn1:n≤100:=by exact Nat.le_trans (Nat.le_trans (Nat.le_of_eq hn) hlt') hm.2
 have hrw:∀ w∈drawRows xs start k n n,w.length=k∧∀ i∈w,i<n:=fun w hw=>by
  unfold drawRows at hw
  obtain⟨j,_,rfl⟩:=List.mem_map.mp hw
  exact drawRow_ok _ k hn0
 have hlr:(drawRows xs start k n n).length=n:=by unfold drawRows;rw[List.length_map,List.length_range]
 have hle:(drawEnds xs start n).length=n:=by unfold drawEnds;rw[List.length_map,List.length_range]
 have hrl:(ringRows n (drawRows xs start k n n)).length=n:=by unfold ringRows;rw[List.length_map,List.length_zipIdx,hlr]
 have hel:(ringEnds n).length=n:=by unfold ringEnds;rw[List.length_map,List.length_range]
 have hnm:n≤most:=by exact Nat.le_trans (Nat.le_of_eq hn) hlt'
 by_cases hc:c / 32 % 3=1
 ·refine⟨ringRows n (drawRows xs start k n n),ringEnds n,?_,?_,?_,?_,fun st=>?_⟩
  ·rw[hrl];exact hn0
  ·rw[hrl];exact hnm
  ·rw[hrl,hel]
  ·rw[hrl]
   intro w hw
   unfold ringRows at hw
   obtain⟨⟨w',i⟩,hp,rfl⟩:=List.mem_map.mp hw
   obtain⟨q1,q2⟩:=hrw w' (List.fst_mem_of_mem_zipIdx hp)
   unfold ringRow
   refine⟨by simp;(rw[q1];exact Nat.sub_add_cancel hk.1),fun j hj=>?_⟩
   rcases List.mem_cons.mp hj with rfl | hj
   ·exact Nat.mod_lt _ hn0
   ·exact q2 j (List.mem_of_mem_drop hj)
  ·obtain⟨vars,obs⟩:=st
   obtain⟨z,y,hd⟩:=drawn_head d hx hh hk.2 hst hmp hnn hn0 hn1 c1 obs
   have h1:=ring_comp d hn0 hn1 (rows:=drawRows xs start k n n) (by exact Nat.le_trans (Nat.le_of_eq hlr) hn1) (fun w hw=>by have:=(hrw w hw).1;exact Nat.le_trans (Nat.le_of_eq this) (Nat.le_trans hk.2 (by decide))) (vars:=[some (.alist (xs.map .int)),some (.int start),some (.int k),some (.int most),some (.int n),some (.ref obs.length),some (.ref (obs.length+1)),z,y]) (obs:=obs++[.list ((drawRows xs start k n n).map nl),.list ((drawEnds xs start n).map V.bool)]) rfl rfl rfl (tl0 _ _ _)
   have h2:=endN_comp d hn0 hn1 (vars:=[some (.alist (xs.map .int)),some (.int start),some (.int k),some (.int most),some (.int n),some (.ref (obs.length+2)),some (.ref (obs.length+1)),z,y]) (obs:=obs++[.list ((drawRows xs start k n n).map nl),.list ((drawEnds xs start n).map V.bool),.list ((ringRows n (drawRows xs start k n n)).map nl)]) rfl rfl
   unfold nll at h1
   unfold bl at h2
   rw[cf__law_drawn]
   refine run_ok (fl:=.ret (.tuple [.ref (obs.length+2),.ref (obs.length+3)])) (vars':=[some (.alist (xs.map .int)),some (.int start),some (.int k),some (.int most),some (.int n),some (.ref (obs.length+2)),some (.ref (obs.length+3)),z,y]) (t:=[.list ((drawRows xs start k n n).map nl),.list ((drawEnds xs start n).map V.bool),.list ((ringRows n (drawRows xs start k n n)).map nl),.list ((ringEnds n).map V.bool)]) rfl ?_ ?_
   ·exact (hd _).trans (r_seq (r_ift (r_cmp (r_bin (r_bin (r_app2 rfl rfl (c1 _)) rfl (r_div (by decide) rfl)) rfl (r_mod (by decide) rfl)) rfl (r_eqi (beq_iff_eq.mpr hc))) (r_seq (r_asg (r_ownE h1 List.length_append (List.append_assoc ..)) rfl rfl) (r_one (r_asg (r_ownE h2 List.length_append (List.append_assoc ..)) rfl rfl)))) (r_one (r_ret (r_tup (r_sq rfl (r_sq rfl rfl)) (ev_tupL (by simp) _ _)))))
   ·refine res_pair (res_list (by exact Nat.le_add_right _ _) (tl2 ..) ?_) (res_list (by exact Nat.le_add_right _ _) (tl3 ..) ?_)
    ·have:=nll_pure (ringRows n (drawRows xs start k n n));unfold nll at this;exact this
    ·have:=bl_pure (ringEnds n);unfold bl at this;exact this
 ·refine⟨drawRows xs start k n n,drawEnds xs start n,by rw[hlr];exact hn0,by rw[hlr];exact hnm,by rw[hlr,hle],by rw[hlr];exact hrw,fun st=>?_⟩
  obtain⟨vars,obs⟩:=st
  obtain⟨z,y,hd⟩:=drawn_head d hx hh hk.2 hst hmp hnn hn0 hn1 c1 obs
  rw[cf__law_drawn]
  refine run_ok (fl:=.ret (.tuple [.ref obs.length,.ref (obs.length+1)])) (vars':=[some (.alist (xs.map .int)),some (.int start),some (.int k),some (.int most),some (.int n),some (.ref obs.length),some (.ref (obs.length+1)),z,y]) (t:=[.list ((drawRows xs start k n n).map nl),.list ((drawEnds xs start n).map V.bool)]) rfl ?_ ?_
  ·exact (hd _).trans (r_seq (r_iff (r_cmp (r_bin (r_bin (r_app2 rfl rfl (c1 _)) rfl (r_div (by decide) rfl)) rfl (r_mod (by decide) rfl)) rfl (r_eqi (Bool.eq_false_iff.mpr fun q=>hc (beq_iff_eq.mp q)))) rfl) (r_one (r_ret (r_tup (r_sq rfl (r_sq rfl rfl)) (ev_tupL (by simp) _ _)))))
  ·refine res_pair (res_list (by exact Nat.le_refl _) (tl0 ..) ?_) (res_list (by exact Nat.le_add_right _ _) (tl1 ..) ?_)
   ·have:=nll_pure (drawRows xs start k n n);unfold nll at this;exact this
   ·have:=bl_pure (drawEnds xs start n);unfold bl at this;exact this
end Mine
set_option maxRecDepth 100000
namespace Mine
set_option backward.match.sparseCases false
open PySem
theorem sub_nl {K:List Nat}{k:Nat}(h:k<K.length)(hl:K.length≤1000)(st:St):subV (nl K) (.int k) st=.ok (.int (K.getD k 0)) st:=by
 unfold nl
 rw[ev_sub_flist,idx_nat (v:=V.int (K.getD k 0)) (by rw[List.getElem?_map,List.getD_eq_getElem?_getD,List.getElem?_eq_getElem h];rfl) (by rw[List.length_map];exact hl)];rfl
theorem sub_nll {K:List (List Nat)}{k:Nat}(h:k<K.length)(hl:K.length≤1000)(st:St):subV (nll K) (.int k) st=.ok (nl (K.getD k [])) st:=by
 unfold nll
 rw[ev_sub_flist,idx_nat (v:=nl (K.getD k [])) (by rw[List.getElem?_map,List.getD_eq_getElem?_getD,List.getElem?_eq_getElem h];rfl) (by rw[List.length_map];exact hl)];rfl
theorem sub_bl {K:List Bool}{k:Nat}(h:k<K.length)(hl:K.length≤1000)(st:St):subV (bl K) (.int k) st=.ok (.bool (K.getD k false)) st:=by
 unfold bl
 rw[ev_sub_flist,idx_nat (v:=V.bool (K.getD k false)) (by rw[List.getElem?_map,List.getD_eq_getElem?_getD,List.getElem?_eq_getElem h];rfl) (by rw[List.length_map];exact hl)];rfl
theorem len_nl {K:List Nat}(hl:K.length≤1000)(st:St):fLen [nl K] st=.ok (.int K.length) st:=by
 unfold nl
 rw[ev_len_flist,List.length_map,ev_lenM hl]
theorem len_nll {K:List (List Nat)}(hl:K.length≤1000)(st:St):fLen [nll K] st=.ok (.int K.length) st:=by
 unfold nll
 rw[ev_len_flist,List.length_map,ev_lenM hl]
theorem src_nl (K:List Nat)(st:St):toSrc (nl K) st=.ok ⟨K.map fun (n:Nat)=>V.int n,[]⟩ st:=rfl
theorem src_nll (K:List (List Nat))(st:St):toSrc (nll K) st=.ok ⟨K.map nl,[]⟩ st:=rfl
theorem src_bl (K:List Bool)(st:St):toSrc (bl K) st=.ok ⟨K.map V.bool,[]⟩ st:=rfl
structure Rooms (rows:List (List Nat)):Prop where
 most:rows.length≤100
 row:∀ w∈rows,w.length≤100∧∀ g∈w,g<rows.length
theorem Rooms.at {rows:List (List Nat)}(R:Rooms rows)(r:Nat):(rows.getD r []).length≤100∧∀ g∈rows.getD r [],g<rows.length:=by
 rw[List.getD_eq_getElem?_getD]
 cases h:rows[r]? with
 | none=>simp
 | some w=>exact R.row w (List.mem_of_getElem? h)
theorem Good.rooms {s:List Nat}{rows:List (List Nat)}{ends:List Bool}(G:Good s rows ends):Rooms rows:=⟨by have:=G.most;exact Nat.le_trans this (by decide),fun w hw=>by
 obtain⟨h1,h2⟩:=G.row w hw
 have:=G.signs.three
 exact⟨by exact Nat.le_trans (Nat.le_of_eq h1) (Nat.le_trans this (by decide)),h2⟩⟩
end Mine
namespace Mine
set_option backward.match.sparseCases false
open PySem
theorem for_any {α β:Type}{t:Tg}{body:M Flow}{c:List (Nat×Ob)}{f:α→V}(g:α→Option β)(val:β→V)(S:St→Prop)(R:β→St→Prop)(hc:∀ st,S st→ChkP c st.obs):∀ (xs:List α),
  (∀ x∈xs,∀ st,S st→(g x=none∧∃ st',((asg t (f x)).bind fun _=>body) st=.ok .next st'∧S st')∨∃ v,g x=some v∧∃ st',((asg t (f x)).bind fun _=>body) st=.ok (.ret (val v)) st'∧R v st') →
  ∀ st,S st→(xs.findSome? g=none∧∃ st',forItems t body c (xs.map f) st=.ok .next st'∧S st')∨∃ v,xs.findSome? g=some v∧∃ st',forItems t body c (xs.map f) st=.ok (.ret (val v)) st'∧R v st':=by
 intro xs
 have chk:∀ {st:St} {β:Type} {k:M β} {r:Out β},S st→k st=r→((chkObs c).bind fun _=>k) st=r:=fun {st β k r} h hk=>rb (a:=()) (hc st h st.vars) hk
 induction xs with
 | nil=>exact fun _ st h=>.inl ⟨rfl,st,chk h rfl,h⟩
 | cons x xs ih =>
  intro hs st h
  have step:∀ {fl:Flow} {st':St},((asg t (f x)).bind fun _=>body) st=.ok fl st'→forItems t body c ((x::xs).map f) st=(match fl with
    | .next=>forItems t body c (xs.map f)
    | .ret v=>M.pure (.ret v)) st':=fun {fl st'} hb=>by
   refine chk h (Eq.trans ?_ (rb (f:=fun fl=>(match fl with
    | .next=>forItems t body c (xs.map f)
    | .ret v=>M.pure (.ret v))) hb rfl))
   unfold M.bind
   dsimp only
   cases asg t (f x) st <;> rfl
  rw[List.findSome?_cons]
  rcases hs x (.head _) st h with ⟨h1,st',h2,h3⟩ | ⟨v,h1,st',h2,h3⟩
  ·rw[h1]
   rcases ih (fun y hy=>hs y (.tail _ hy)) st' h3 with ⟨k1,st2,k2,k3⟩ | ⟨v,k1,st2,k2,k3⟩
   ·exact .inl ⟨k1,st2,(step h2).trans k2,k3⟩
   ·exact .inr ⟨v,k1,st2,(step h2).trans k2,k3⟩
  ·rw[h1]
   exact .inr ⟨v,rfl,st',step h2,h3⟩
theorem for_acc {α β:Type}{t:Tg}{body:M Flow}{c:List (Nat×Ob)}{f:α→V}(stp:β→α→β)(S:β→St→Prop)(hc:∀ b st,S b st→ChkP c st.obs):∀ (xs:List α) (b:β),
  (∀ x∈xs,∀ b st,S b st→∃ st',((asg t (f x)).bind fun _=>body) st=.ok .next st'∧S (stp b x) st') →
  ∀ st,S b st→∃ st',forItems t body c (xs.map f) st=.ok .next st'∧S (xs.foldl stp b) st':=by
 intro xs
 induction xs with
 | nil=>exact fun b _ st h=>⟨st,rb (a:=()) (hc b st h st.vars) rfl,h⟩
 | cons x xs ih =>
  intro b hs st h
  obtain⟨st',h2,h3⟩:=hs x (.head _) b st h
  obtain⟨st2,k2,k3⟩:=ih (stp b x) (fun y hy=>hs y (.tail _ hy)) st' h3
  refine⟨st2,rb (a:=()) (hc b st h st.vars) (Eq.trans ?_ (rb (f:=fun fl=>(match fl with
    | .next=>forItems t body c (xs.map f)
    | .ret v=>M.pure (.ret v))) h2 k2)),k3⟩
  unfold M.bind
  dsimp only
  cases asg t (f x) st <;> rfl
theorem alc {xs:List V}(st:St)(h:decide (xs.length≤1000)=true:=by rfl):allocL xs st=.ok (.flist xs) st:=ev_allocL (of_decide_eq_true h) st
theorem r_adds {a b:List Nat}{st:St}(h:(a++b).length≤lim):binV .Add (.str a) (.str b) st=.ok (.str (a++b)) st:=congrFun (if_pos h) st
end Mine
set_option maxRecDepth 100000
namespace Mine
open PySem
theorem occ_cnt (x:List Nat)(c:Nat):(occ x [c] (x.length+1)).length=x.count c:=by
 have h:=PyProof.Rows.count_is ⟨x.toArray⟩ c
 rw[PyProof.Rows.countIn_signs_sum] at h
 have e:∀ l:List Nat,(l.map fun n=>if decide (n=c)=true then (1:Int) else 0).sum=(l.count c:Int):=fun l=>by
  induction l with
  | nil=>rfl
  | cons a l ih =>
   rw[List.map_cons,List.sum_cons,ih,List.count_cons]
   by_cases h:a=c
   ·subst h;simp;omega
   ·simp[h]
 rw[e] at h
 unfold Txt.count at h
 have h2:((occ x [c] (x.length+1)).length:Int)=(x.count c:Int):=by
  unfold occ
  have l:(⟨x.toArray⟩:Str).length=x.length:=by show x.toArray.size=_;simp
  rw[l] at h
  exact h
 exact Int.ofNat.inj h2
theorem letters_iff {c:Nat}:c∈letters↔(97≤c∧c≤122):=by
 constructor
 ·have h:∀ c∈letters,97≤c∧c≤122:=by unfold letters;decide
  exact h c
 ·intro h
  have:=in_letters h
  rw[occ_found] at this
  simpa using this
theorem nin_str {s:List Nat}{c:Nat}{b:Bool}(h:decide (c∉s)=b)(st:St):cmpV .NotIn (.str [c]) (.str s) st=.ok b st:=by
 subst h
 have:(occ s [c] 1).isEmpty=decide (c∉s):=by rw[occ_found];exact (decide_not).symm
 show Out.ok _ _=Out.ok _ _
 rw[this,Bool.not_not]
theorem in_str {s:List Nat}{c:Nat}{b:Bool}(h:decide (c∈s)=b)(st:St):cmpV .In (.str [c]) (.str s) st=.ok b st:=by
 subst h
 have:(occ s [c] 1).isEmpty=!decide (c∈s):=occ_found
 show Out.ok _ _=Out.ok _ _
 rw[this,Bool.not_not]
theorem cnt_str (s:List Nat)(c:Nat)(st:St):mCount [.str s,.str [c]] st=.ok (.int (s.count c)) st:=by
 show Out.ok _ _=Out.ok _ _
 rw[occ_cnt]
inductive Kv:V→String→Prop
 | int (i:Int):Kv (.int i) "int"
 | bool (b:Bool):Kv (.bool b) "bool"
 | lst (xs:List V):Kv (.flist xs) "list"
 | tup (xs:List V):Kv (.tuple xs) "tuple"
 | dct (ks:List (List Nat)) (vs:List V):Kv (.fdict ks vs) "dict"
 | none:Kv .none "NoneType"
 | str (w:List Nat):Kv (.str w) "str"
theorem Kv.isi {v:V}{k:String}(h:Kv v k){t:String}{b:Bool}(e:isiK k t=some b)(st:St):fIsi [v,.type t] st=.ok (.bool b) st:=by
 obtain⟨vars,obs⟩:=st
 cases h <;> exact r_isi rfl e
noncomputable def okC (x:List Nat)(c:Nat):Bool:=decide (c∈letters)&&decide (x.count c≤1)
theorem signsB_all {x:List Nat}(h1:1≤x.length)(h3:x.length≤3):signsB x=x.all (okC x):=by
 unfold signsB
 rw[decide_eq_true h1,decide_eq_true h3,Bool.eq_iff_iff]
 simp only[Bool.true_and,Bool.and_eq_true,List.all_eq_true,decide_eq_true_eq,okC]
 constructor
 ·exact fun h c hc=>⟨letters_iff.mpr (h.1 c hc),List.nodup_iff_count.mp h.2 c⟩
 ·refine fun h=>⟨fun c hc=>letters_iff.mp (h c hc).1,List.nodup_iff_count.mpr fun c=>?_⟩
  by_cases hc:c∈x
  ·exact (h c hc).2
  ·rw[List.count_eq_zero_of_not_mem hc];exact Nat.zero_le _
theorem signsB_len {x:List Nat}(h:¬ (1≤x.length∧x.length≤3)):signsB x=false:=by
 unfold signsB
 by_cases h1:1≤x.length
 ·rw[decide_eq_false fun h3=>h ⟨h1,h3⟩,Bool.and_false];rfl
 ·rw[decide_eq_false h1];rfl
theorem len_str {x:List Nat}(hl:x.length≤1000)(st:St):fLen [.str x] st=.ok (.int x.length) st:=ev_lenM hl st
theorem len13 {x:List Nat}(hl:x.length≤1000){vars:List (Option V)}{obs:List Ob}(h0:vars[0]?=some (some (.str x))){b:Bool}(hb:decide (1≤x.length∧x.length≤3)=b):notM (cmpM (constM (.int 1)) [(.LtE,appM fLen [varM 0]),(.LtE,constM (.int 3))]) ⟨vars,obs⟩=.ok (!b) ⟨vars,obs⟩:=by
 subst hb
 have v0:=r_var (obs:=obs) h0
 by_cases h1:1≤x.length
 ·have e1:(1:Int)≤x.length:=Int.ofNat_le.mpr h1
  refine r_not (r_cmp2 rfl (r_app1 v0 (len_str hl _)) (r_lei (decide_eq_true e1)) rfl (r_lei ?_))
  rw[Bool.eq_iff_iff,decide_eq_true_eq,decide_eq_true_eq]
  exact⟨fun h=>⟨h1,Int.ofNat_le.mp h⟩,fun h=>Int.ofNat_le.mpr h.2⟩
 ·have e1:¬ (1:Int)≤x.length:=fun h=>h1 (Int.ofNat_le.mp h)
  rw[decide_eq_false fun h=>h1 h.1]
  exact r_nt (r_cmp2f rfl (r_app1 v0 (len_str hl _)) (r_lei (decide_eq_false e1)))
theorem is_signs_str (d:Nat){x:List Nat}(hl:x.length≤1000)(st:St):cfOf p1 (d+1) (.fn (nm "is_signs")) [.str x] st=.ok (.bool (signsB x)) st:=by
 obtain⟨vars,obs⟩:=st
 rw[cf_is_signs]
 by_cases h:1≤x.length∧x.length≤3
 ·rw[signsB_all h.1 h.2]
  have key:=for_any (t:=.var 1) (body:=bd_is_signs_1 d) (c:=[]) (f:=fun c=>V.str [c]) (fun c=>if okC x c=true then Option.none else some ()) (fun _=>V.bool false) (fun st=>∃ z,st=⟨[some (.str x),z],obs⟩) (fun _ st=>∃ vs,st=⟨vs,obs⟩) (fun _ _=>.nil _) x (fun c hc st hS=>by
   obtain⟨z,rfl⟩:=hS
   unfold okC
   by_cases hm:c∈letters
   ·have n1:∀ st,cmpV .NotIn (.str [c]) (.str letters) st=.ok false st:=nin_str (decide_eq_false fun q=>q hm)
    unfold letters at n1
    rw[decide_eq_true hm]
    by_cases hk:x.count c≤1
    ·rw[decide_eq_true hk]
     exact .inl ⟨rfl,_,rb (a:=()) rfl (r_one (r_iff (r_orf (r_cmp rfl rfl (n1 _)) (r_orf (r_cmp (r_meth1 rfl rfl rfl (cnt_str _ _ _)) rfl (r_gti (decide_eq_false (Int.not_lt.mpr (Int.ofNat_le.mpr hk))))) rfl)) rfl)),_,rfl⟩
    ·rw[decide_eq_false hk]
     exact .inr ⟨(),rfl,_,rb (a:=()) rfl (r_one (r_ift (r_orf (r_cmp rfl rfl (n1 _)) (r_ort (r_cmp (r_meth1 rfl rfl rfl (cnt_str _ _ _)) rfl (r_gti (decide_eq_true (Int.ofNat_lt.mpr (Nat.lt_of_not_le hk))))))) (r_one (r_ret rfl)))),_,rfl⟩
   ·have n1:∀ st,cmpV .NotIn (.str [c]) (.str letters) st=.ok true st:=nin_str (decide_eq_true hm)
    unfold letters at n1
    rw[decide_eq_false hm]
    exact .inr ⟨(),rfl,_,rb (a:=()) rfl (r_one (r_ift (r_ort (r_cmp rfl rfl (n1 _))) (r_one (r_ret rfl)))),_,rfl⟩) ⟨[some (.str x),Option.none],obs⟩ ⟨_,rfl⟩
  have l13:=fun obs=>len13 hl (vars:=[some (.str x),Option.none]) (obs:=obs) rfl (decide_eq_true h)
  rcases key with ⟨k1,st',h1,z,rfl⟩ | ⟨_,k1,st',h1,vs,rfl⟩
  ·have e:x.all (okC x)=true:=List.all_eq_true.mpr fun c hc=>by
    have:=List.findSome?_eq_none_iff.mp k1 c hc
    cases q:okC x c with
    | true=>rfl
    | false=>rw[q] at this;cases this
   rw[e]
   exact run_pure (fl:=.ret (.bool true)) rfl (r_seq (r_iff (r_orf (r_nf (r_evB (r_app2 rfl rfl rfl))) (r_orf (l13 _) rfl)) rfl) <| r_seq (r_for rfl h1) (r_one (r_ret rfl))) rfl
  ·have e:x.all (okC x)=false:=by
    obtain⟨c,hc,hq⟩:=List.exists_of_findSome?_eq_some k1
    refine Bool.eq_false_iff.mpr fun z=>?_
    rw[List.all_eq_true.mp z c hc] at hq
    cases hq
   rw[e]
   exact run_pure (fl:=.ret (.bool false)) rfl (r_seq (r_iff (r_orf (r_nf (r_evB (r_app2 rfl rfl rfl))) (r_orf (l13 _) rfl)) rfl) (r_stop (r_for rfl h1))) rfl
 ·rw[signsB_len h]
  exact run_pure (fl:=.ret (.bool false)) (vars':=[some (.str x),Option.none]) rfl (r_stop (r_ift (r_orf (r_nf (r_evB (r_app2 rfl rfl rfl))) (r_ort (len13 hl rfl (decide_eq_false h)))) (r_one (r_ret rfl)))) rfl
theorem is_signs_kind (d:Nat){v:V}{k:String}(h:Kv v k)(hk:isiK k "str" = some false) (st:St):cfOf p1 (d+1) (.fn (nm "is_signs")) [v] st=.ok (.bool false) st:=by
 obtain⟨vars,obs⟩:=st
 rw[cf_is_signs]
 exact run_pure (fl:=.ret (.bool false)) (vars':=[some v,Option.none]) rfl (r_stop (r_ift (r_ort (r_nt (r_evB (r_app2 rfl rfl (h.isi hk _))))) (r_one (r_ret rfl)))) rfl
theorem own_signs_kind (d:Nat){v:V}{k:String}(h:Kv v k)(hk:isiK k "str" = some false) (st:St):cfOf p1 (d+1) (.fn (nm "_law_is_signs")) [v] st=.ok (.bool false) st:=by
 obtain⟨vars,obs⟩:=st
 rw[cf__law_is_signs]
 exact run_pure (fl:=.ret (.bool false)) (vars':=[some v,Option.none]) rfl (r_stop (r_ift (r_ort (r_nt (r_evB (r_app2 rfl rfl (h.isi hk _))))) (r_one (r_ret rfl)))) rfl
theorem filt {α:Type}{f:α→V}(p:α→Bool):∀ l:List α,(l.filterMap fun c=>if p c=true then some (f c) else Option.none)=(l.filter p).map f
 | []=>rfl
 | c::l=>by
  rw[List.filterMap_cons,List.filter_cons]
  cases h:p c with
  | true=>rw[if_pos rfl,if_pos rfl,List.map_cons,← filt p l]
  | false=>rw[if_neg Bool.false_ne_true,if_neg Bool.false_ne_true];exact filt p l
theorem filter_len {α:Type}(p:α→Bool)(l:List α):(decide ((l.filter p).length=l.length))=l.all p:=by
 rw[Bool.eq_iff_iff,decide_eq_true_eq,List.all_eq_true,List.length_filter_eq_length_iff]
theorem sign_comp (b:Nat){vars:List (Option V)}{obs:List Ob}{src:M Src}{l:List Nat}{cond:M Bool}{p:Nat→Bool}{elt:M V}(he:elt=varM 2)(hv:vars.length=2)(hs:src ⟨vars,obs⟩=.ok ⟨l.map fun c=>V.str [c],[]⟩ ⟨vars,obs⟩)(hl:l.length≤1000)(hc:∀ c∈l,cond ⟨vars++[some (.str [c])],obs⟩=.ok (p c) ⟨vars++[some (.str [c])],obs⟩):compM 2 1 src (.var 2) cond elt ⟨vars,obs⟩=.ok (.flist ((l.filter p).map fun c=>V.str [c])) ⟨vars,obs⟩:=by
 subst he
 have h:=comp_map (b:=2) (n:=1) (vars:=vars) (obs:=obs) (src:=src) (t:=.var 2) (cond:=cond) (elt:=varM 2) (xs:=l) (f:=fun c=>V.str [c]) (c:=[]) hv hs hl (.nil _) (fun c=>if p c=true then some (V.str [c]) else Option.none) (fun c hm zs hz=>by
  match zs,hz with
  | [z1],_ =>
   have a1:asg (.var 2) (.str [c]) ⟨vars++[z1],obs⟩=.ok () ⟨vars++[some (.str [c])],obs⟩:=by
    rw[ev_asg_var,ev_setVar,if_pos (by rw[List.length_append,hv];exact Nat.lt_succ_self 2),List.set_append_right _ _ (Nat.le_of_eq hv),hv];rfl
   have k:=hc c hm
   refine⟨[some (.str [c])],rfl,a1,?_⟩
   cases q:p c with
   | true=>rw[q] at k;exact .inr ⟨_,if_pos rfl,k,r_var (nth_new hv)⟩
   | false=>rw[q] at k;exact .inl ⟨if_neg Bool.false_ne_true,k⟩)
 exact h.trans (congrArg (fun x=>Out.ok (V.flist x) _) (filt p l))
theorem own_signs_str (d:Nat){x:List Nat}(hl:x.length≤1000)(st:St):cfOf p1 (d+1) (.fn (nm "_law_is_signs")) [.str x] st=.ok (.bool (signsB x)) st:=by
 obtain⟨vars,obs⟩:=st
 rw[cf__law_is_signs]
 by_cases h:1≤x.length∧x.length≤3
 ·have l13:=fun obs=>len13 hl (vars:=[some (.str x),Option.none]) (obs:=obs) rfl (decide_eq_true h)
  have c1:=sign_comp 2 (vars:=[some (.str x),Option.none]) (obs:=obs) (src:=(varM 0).bind toSrc) (l:=x) (cond:=andM [cmpM (varM 2) [(.In,constM (.str letters))]]) (p:=fun c=>decide (c∈letters)) (elt:=bd__law_is_signs_1 d) rfl rfl rfl hl fun c _=>by
   cases q:decide (c∈letters) with
   | true=>exact r_andt (r_cmp rfl rfl (in_str q _)) rfl
   | false=>exact r_andf (r_cmp rfl rfl (in_str q _))
  unfold letters at c1
  obtain⟨y,hy⟩:∃ y,y=x.filter fun c=>decide (c∈letters):=⟨_,rfl⟩
  unfold letters at hy
  rw[← hy] at c1
  have yl:y.length≤1000:=Nat.le_trans (hy▸List.length_filter_le ..) hl
  have ly:∀ st,fLen [.flist (y.map fun c=>V.str [c])] st=.ok (.int y.length) st:=fun st=>(ev_len_flist _ _).trans (by rw[List.length_map];exact ev_lenM yl st)
  obtain⟨q,hq⟩:∃ q:Nat→Bool,q=fun c=>decide (x.count c=1):=⟨_,rfl⟩
  have c2:=sign_comp 2 (vars:=[some (.str x),some (.flist (y.map fun c=>V.str [c]))]) (obs:=obs) (src:=(varM 1).bind toSrc) (l:=y) (cond:=andM [cmpM (methM (pickS mCount) (varM 0) [varM 2]) [(.Eq,constM (.int 1))]]) (p:=q) (elt:=bd__law_is_signs_2 d) rfl rfl rfl yl fun c _=>by
   have e:((x.count c:Int)==1)=q c:=by
    rw[hq,Bool.eq_iff_iff,beq_iff_eq,decide_eq_true_eq]
    exact⟨fun h=>Int.ofNat.inj h,fun h=>congrArg Int.ofNat h⟩
   cases z:q c with
   | true=>exact r_andt (r_cmp (r_meth1 rfl rfl rfl (cnt_str _ _ _)) rfl (r_eqi (e.trans z))) rfl
   | false=>exact r_andf (r_cmp (r_meth1 rfl rfl rfl (cnt_str _ _ _)) rfl (r_eqi (e.trans z)))
  have zl:(y.filter q).length≤1000:=Nat.le_trans (List.length_filter_le ..) yl
  have lz:∀ st,fLen [.flist ((y.filter q).map fun c=>V.str [c])] st=.ok (.int (y.filter q).length) st:=fun st=>(ev_len_flist _ _).trans (by rw[List.length_map];exact ev_lenM zl st)
  have ie:∀ a b:Nat,((a:Int)==(b:Int))=decide (a=b):=fun a b=>by
   rw[Bool.eq_iff_iff,beq_iff_eq,decide_eq_true_eq]
   exact⟨fun h=>Int.ofNat.inj h,fun h=>congrArg Int.ofNat h⟩
  have e:signsB x=(decide (y.length=x.length)&&decide ((y.filter q).length=x.length)):=by
   rw[signsB_all h.1 h.2]
   cases z:decide (y.length=x.length) with
   | false =>
    have z':x.all (fun c=>decide (c∈letters))=false:=by rw[← filter_len];unfold letters;rw[← hy];exact z
    refine Bool.eq_false_iff.mpr fun w=>Bool.eq_false_iff.mp z' (List.all_eq_true.mpr fun c hc=>?_)
    exact (Bool.and_eq_true_iff.mp (List.all_eq_true.mp w c hc)).1
   | true =>
    have z':x.all (fun c=>decide (c∈letters))=true:=by rw[← filter_len];unfold letters;rw[← hy];exact z
    have ey:y=x:=by
     rw[hy]
     have:=List.filter_eq_self.mpr (List.all_eq_true.mp z')
     unfold letters at this
     exact this
    rw[Bool.true_and,ey,filter_len,Bool.eq_iff_iff,List.all_eq_true,List.all_eq_true]
    refine forall_congr' fun c=>forall_congr' fun hc=>?_
    unfold okC
    rw[List.all_eq_true.mp z' c hc,Bool.true_and,hq,decide_eq_true_eq,decide_eq_true_eq]
    have:=List.count_pos_iff.mpr hc
    exact⟨fun k=>Nat.le_antisymm k this,fun k=>Nat.le_of_eq k⟩
  rw[e]
  refine run_pure (fl:=.ret (.bool (decide (y.length=x.length)&&decide ((y.filter q).length=x.length)))) (vars':=[some (.str x),some (.flist (y.map fun c=>V.str [c]))]) rfl (r_seq (r_iff (r_orf (r_nf (r_evB (r_app2 rfl rfl rfl))) (r_orf (l13 _) rfl)) rfl) <| r_seq (r_asg c1 rfl rfl) (r_one (r_ret (r_boolV ?_)))) rfl
  have a1:=ie y.length x.length
  cases z:decide (y.length=x.length) with
  | false=>exact r_andf (r_evB (r_boolV (r_cmp (r_app1 rfl (ly _)) (r_app1 rfl (len_str hl _)) (r_eqi (a1.trans z)))))
  | true =>
   refine r_andt (r_evB (r_boolV (r_cmp (r_app1 rfl (ly _)) (r_app1 rfl (len_str hl _)) (r_eqi (a1.trans z))))) ?_
   have a2:=ie (y.filter q).length x.length
   rw[Bool.true_and]
   cases z2:decide ((y.filter q).length=x.length) with
   | false=>exact r_andf (r_evB (r_boolV (r_cmp (r_app1 c2 (lz _)) (r_app1 rfl (len_str hl _)) (r_eqi (a2.trans z2)))))
   | true=>exact r_andt (r_evB (r_boolV (r_cmp (r_app1 c2 (lz _)) (r_app1 rfl (len_str hl _)) (r_eqi (a2.trans z2))))) rfl
 ·rw[signsB_len h]
  exact run_pure (fl:=.ret (.bool false)) (vars':=[some (.str x),Option.none]) rfl (r_stop (r_ift (r_orf (r_nf (r_evB (r_app2 rfl rfl rfl))) (r_ort (len13 hl rfl (decide_eq_false h)))) (r_one (r_ret rfl)))) rfl
end Mine
set_option maxRecDepth 100000
namespace Mine
open PySem
theorem for_bad {t:Nat}{body:M Flow}{pre post:List (Option V)}{obs:List Ob}{x v:V}{bs:List V}{c:List (Nat×Ob)}(hc:ChkP c obs)(ht:t=pre.length)(hx:body ⟨pre++some x::post,obs⟩=.ok (.ret v) ⟨pre++some x::post,obs⟩):∀ (as:List V),(∀ y∈as,body ⟨pre++some y::post,obs⟩=.ok .next ⟨pre++some y::post,obs⟩)→∀ z,forItems (.var t) body c (as++x::bs) ⟨pre++z::post,obs⟩=.ok (.ret v) ⟨pre++some x::post,obs⟩:=by
 subst ht
 have set:∀ (y:V) (z:Option V),asg (.var pre.length) y ⟨pre++z::post,obs⟩=.ok () ⟨pre++some y::post,obs⟩:=fun y z=>by
  rw[ev_asg_var,ev_setVar,if_pos (by simp)];simp
 intro as
 induction as with
 | nil=>exact fun _ z=>rb (a:=()) (hc _) (rb (set x z) (rb hx rfl))
 | cons y as ih=>exact fun ha z=>rb (a:=()) (hc _) (rb (set y z) (rb (ha y (.head _)) (ih (fun w hw=>ha w (.tail _ hw)) _)))
section
variable {s:List Nat}{rows:List (List Nat)}{ends:List Bool}
theorem is_word_eq (d:Nat){w:List Nat}(h:∀ c∈w,c∈s)(st:St):cfOf p1 (d+1) (.fn (nm "is_word")) [.str s,.str w] st=.ok (.bool true) st:=by
 obtain⟨vars,obs⟩:=st
 obtain⟨z,hz⟩:=for_same (t:=2) (pre:=[some (.str s),some (.str w)]) (post:=[]) (obs:=obs) (items:=charsOf w) (body:=bd_is_word_1 d) (.nil _) rfl (fun x hx=>by
  unfold charsOf at hx
  obtain⟨c,hc,rfl⟩:=List.mem_map.mp hx
  exact r_one (r_iff (r_cmp rfl rfl (nin_str (decide_eq_false fun q=>q (h c hc)) _)) rfl)) none
 rw[cf_is_word]
 exact run_pure (fl:=.ret (.bool true)) (vars':=[some (.str s),some (.str w),z]) rfl (r_seq (r_iff (r_nf (r_evB (r_app2 rfl rfl rfl))) rfl) <| r_seq (r_for rfl hz) (r_one (r_ret rfl))) rfl
inductive NoW (s:List Nat):V→Prop
 | kind (v:V) (k:String) (h:Kv v k) (hk:isiK k "str" = some false):NoW s v
 | sign (w:List Nat) (h:∃ c∈w,c∉s):NoW s (.str w)
theorem first_not {s:List Nat}:∀ {w:List Nat},(∃ c∈w,c∉s)→∃ a c b,w=a++c::b∧c∉s∧∀ x∈a,x∈s
 | [],h=>by obtain⟨_,h,_⟩:=h;cases h
 | x::w,h=>by
  by_cases hx:x∈s
  ·obtain⟨c,hc,hn⟩:=h
   have:∃ c∈w,c∉s:=by
    rcases List.mem_cons.mp hc with rfl | hc
    ·exact absurd hx hn
    ·exact⟨c,hc,hn⟩
   obtain⟨a,c,b,rfl,h1,h2⟩:=first_not this
   exact⟨x::a,c,b,rfl,h1,fun y hy=>(List.mem_cons.mp hy).elim (fun e=>e▸hx) (h2 y)⟩
  ·exact⟨[],x,w,rfl,hx,fun _ h=>(nomatch h)⟩
theorem is_word_no (d:Nat){v:V}(h:NoW s v)(st:St):cfOf p1 (d+1) (.fn (nm "is_word")) [.str s,v] st=.ok (.bool false) st:=by
 obtain⟨vars,obs⟩:=st
 rw[cf_is_word]
 cases h with
 | kind _ k h hk=>exact run_pure (fl:=.ret (.bool false)) (vars':=[some (.str s),some v,none]) rfl (r_stop (r_ift (r_nt (r_evB (r_app2 rfl rfl (h.isi hk _)))) (r_one (r_ret rfl)))) rfl
 | sign w h =>
  obtain⟨a,c,b,rfl,h1,h2⟩:=first_not h
  have key:=for_bad (t:=2) (body:=bd_is_word_1 d) (pre:=[some (.str s),some (.str (a++c::b))]) (post:=[]) (obs:=obs) (x:=.str [c]) (v:=.bool false) (bs:=charsOf b) (c:=[]) (.nil _) rfl (r_one (r_ift (r_cmp rfl rfl (nin_str (decide_eq_true h1) _)) (r_one (r_ret rfl)))) (charsOf a) (fun y hy=>by
   unfold charsOf at hy
   obtain⟨x,hx,rfl⟩:=List.mem_map.mp hy
   exact r_one (r_iff (r_cmp rfl rfl (nin_str (decide_eq_false fun q=>q (h2 x hx)) _)) rfl)) none
  have e:charsOf a++V.str [c]::charsOf b=charsOf (a++c::b):=by unfold charsOf;rw[List.map_append];rfl
  rw[e] at key
  exact run_pure (fl:=.ret (.bool false)) rfl (r_seq (r_iff (r_nf (r_evB (r_app2 rfl rfl rfl))) rfl) (r_stop (r_for rfl key))) rfl
theorem has_goes:hasOf p1 (nm "Machine") (nm "goes")=true:=by decide +kernel
theorem has_takes:hasOf p1 (nm "Machine") (nm "takes")=true:=by decide +kernel
theorem pk_mach {x:Str}(d:Nat)(h:hasOf p1 (nm "Machine") x=true) (hx:(([nm "signs", nm "ways", nm "finals"].zip [V.str s,nll rows,bl ends]).lookup x).isNone=true) (st:St):pickO (wdOf p1 (cfOf p1 d) (chOf p1 d)) x (mach s rows ends) st=.ok (cfOf p1 d (.meth (nm "Machine") x)) st:=ev_pick_inst (by rw[hx];exact h) st
theorem goes_step (G:Good s rows ends){r c:Nat}(hr:r<rows.length)(hc:c∈s):(rows.getD r []).length=s.length∧(rows.getD r []).getD (idxC s c) 0<rows.length:=by
 have e:rows[r]?=some rows[r]:=List.getElem?_eq_getElem hr
 have hm:=List.getElem_mem hr
 rw[List.getD_eq_getElem?_getD,e]
 obtain⟨h1,h2⟩:=G.row _ hm
 refine⟨h1,?_⟩
 have hi:idxC s c<rows[r].length:=h1▸idxC_lt hc
 show rows[r].getD (idxC s c) 0<_
 rw[List.getD_eq_getElem?_getD,List.getElem?_eq_getElem hi]
 exact h2 _ (List.getElem_mem hi)
theorem goes_ok (d:Nat)(G:Good s rows ends){w:List Nat}(hw:∀ c∈w,c∈s)(obs:List Ob):∃ r:Nat,r<rows.length∧∀ vars,cfOf p1 (d+2) (.meth (nm "Machine") (nm "goes")) [mach s rows ends,.str w] ⟨vars,obs⟩=.ok (.int r) ⟨vars,obs⟩:=by
 have hl:rows.length≤1000:=Nat.le_trans G.most (by decide)
 obtain⟨st',h1,⟨z,rfl⟩,hr⟩:=for_acc (t:=.var 3) (body:=bd_Machine_goes_1 (d+1)) (c:=[]) (f:=fun c=>V.str [c]) (fun r c=>(rows.getD r []).getD (idxC s c) 0) (fun r st=>(∃ z,st=⟨[some (mach s rows ends),some (.str w),some (.int (r:Nat)),z],obs⟩)∧r<rows.length) (fun _ _ _=>.nil _) w 0 (fun c hc r st hS=>by
  obtain⟨⟨z,rfl⟩,hr⟩:=hS
  have hcs:=hw c hc
  obtain⟨k1,k2⟩:=goes_step G hr hcs
  exact⟨_,rb (a:=()) rfl (r_one (r_asg (r_sub (r_sub (r_attr rfl (at_ways _ _)) rfl (sub_nll hr hl _)) (r_meth1 (r_attr rfl (at_signs _ _)) rfl rfl (ev_index hcs _)) (sub_nl (by rw[k1];exact idxC_lt hcs) (by rw[k1];exact Nat.le_trans G.signs.three (by decide)) _)) rfl rfl)),⟨some (.str [c]),rfl⟩,k2⟩) _ ⟨⟨none,rfl⟩,G.one⟩
 refine⟨_,hr,fun vars=>?_⟩
 rw[cf_Machine_goes]
 exact run_pure (fl:=.ret (.int _)) rfl (r_seq (r_iff (r_nf (r_evB (r_app2 (r_attr rfl (at_signs _ _)) rfl (is_word_eq d hw _)))) rfl) <| r_seq (r_asg rfl rfl rfl) <| r_seq (r_for rfl h1) (r_one (r_ret rfl))) rfl
theorem takes_ok (d:Nat)(G:Good s rows ends){w:List Nat}(hw:∀ c∈w,c∈s)(obs:List Ob):∃ v,∀ vars,cfOf p1 (d+3) (.meth (nm "Machine") (nm "takes")) [mach s rows ends,.str w] ⟨vars,obs⟩=.ok v ⟨vars,obs⟩:=by
 obtain⟨r,hr,h⟩:=goes_ok d G hw obs
 refine⟨.bool (ends.getD r false),fun vars=>?_⟩
 rw[cf_Machine_takes]
 exact run_pure (fl:=.ret (.bool (ends.getD r false))) (vars':=[some (mach s rows ends),some (.str w)]) rfl (r_one (r_ret (r_sub (r_attr rfl (at_finals _ _)) (r_meth1 rfl (pk_mach _ has_goes rfl _) rfl (h _)) (sub_bl (by rw[G.ends];exact hr) (by rw[G.ends];exact Nat.le_trans G.most (by decide)) _)))) rfl
theorem rbx {α β:Type}{m:M α}{f:α→M β}{st st1:St}{c:Str}(h:m st=.exc c st1):M.bind m f st=.exc c st1:=by unfold M.bind;rw[h]
theorem r_seqx {m:M Flow}{l:List (M Flow)}{st st1:St}{c:Str}(h:m st=.exc c st1):seqS (m::l) st=.exc c st1:=rbx h
theorem run_exc {sf:List Ob→List Ob→V→Option (V×List Ob)}{np n:Nat}{body:M Flow}{args:List V}{vars vars':List (Option V)}{obs:List Ob}{c:Str}(hl:args.length=np)(hb:body ⟨args.map some++List.replicate (n-np) none,obs⟩=.exc c ⟨vars',obs⟩):runFnS sf np n body args ⟨vars,obs⟩=.exc c ⟨vars,obs⟩:=by
 unfold runFnS
 rw[if_pos hl,hb]
 have hk:keepL obs obs=some obs:=if_pos List.take_length
 dsimp only
 rw[hk]
theorem goes_no (d:Nat){w:V}(hw:NoW s w)(st:St):cfOf p1 (d+2) (.meth (nm "Machine") (nm "goes")) [mach s rows ends,w] st=.exc (nm "BadWord") st:=by
 obtain⟨vars,obs⟩:=st
 rw[cf_Machine_goes]
 exact run_exc rfl (r_seqx (r_ift (r_nt (r_evB (r_app2 (r_attr rfl (at_signs _ _)) rfl (is_word_no d hw _)))) (r_seqx rfl)))
theorem takes_no (d:Nat){w:V}(hw:NoW s w)(st:St):cfOf p1 (d+3) (.meth (nm "Machine") (nm "takes")) [mach s rows ends,w] st=.exc (nm "BadWord") st:=by
 obtain⟨vars,obs⟩:=st
 rw[cf_Machine_takes]
 exact run_exc rfl (r_seqx (rbx (rb (r_attr rfl (at_finals _ _)) (rbx (r_meth1 rfl (pk_mach _ has_goes rfl _) rfl (goes_no d hw _))))))
end
end Mine
set_option maxRecDepth 100000
namespace Mine
open PySem
inductive NoR (n:Nat):V→Prop
 | kind (v:V) (k:String) (h:Kv v k) (hk:isiK k "int" = some false):NoR n v
 | bool (b:Bool):NoR n (.bool b)
 | neg:NoR n (.int (-1))
 | big (i:Int) (h:(n:Int)≤i):NoR n (.int i)
theorem is_room_no (d:Nat){n:Nat}{v:V}(h:NoR n v)(st:St):cfOf p1 (d+1) (.fn (nm "is_room")) [v,.int n] st=.ok (.bool false) st:=by
 obtain⟨vars,obs⟩:=st
 rw[cf_is_room]
 refine run_pure (fl:=.ret (.bool false)) (vars':=[some v,some (.int n)]) rfl (r_one (r_ret (r_boolV ?_))) rfl
 cases h with
 | kind _ k h hk=>exact r_andf (r_evB (r_app2 rfl rfl (h.isi hk _)))
 | bool b=>exact r_andt (r_evB (r_app2 rfl rfl rfl)) (r_andf (r_evB (r_boolV (r_nf (r_evB (r_app2 rfl rfl rfl))))))
 | neg=>exact r_andt (r_evB (r_app2 rfl rfl rfl)) (r_andt (r_evB (r_boolV (r_nt (r_evB (r_app2 rfl rfl rfl))))) (r_andf (r_evB (r_boolV (r_cmp2f rfl rfl (r_lei rfl))))))
 | big i hi=>exact r_andt (r_evB (r_app2 rfl rfl rfl)) (r_andt (r_evB (r_boolV (r_nt (r_evB (r_app2 rfl rfl rfl))))) (r_andf (r_evB (r_boolV (r_cmp2 rfl rfl (r_lei (decide_eq_true (Int.le_trans (Int.natCast_nonneg n) hi))) rfl (r_lti (decide_eq_false (Int.not_lt.mpr hi))))))))
inductive NoL (k n:Nat):V→Prop
 | kind (v:V) (t:String) (h:Kv v t) (hk:isiK t "list" = some false):NoL k n v
 | len (xs:List V) (hl:xs.length≤1000) (h:xs.length≠k):NoL k n (.flist xs)
 | room (a:List Nat) (x:V) (b:List V) (hl:(intsV a++x::b).length=k) (ha:∀ i∈a,i<n) (hx:NoR n x):NoL k n (.flist (intsV a++x::b))
theorem len_fl {xs:List V}(hl:xs.length≤1000)(st:St):fLen [.flist xs] st=.ok (.int xs.length) st:=(ev_len_flist _ _).trans (ev_lenM hl st)
theorem ne_len {a b:Nat}(h:a≠b):(!((a:Int)==(b:Int)))=true:=by
 have e:((a:Int)==(b:Int))=false:=beq_eq_false_iff_ne.mpr fun e=>h (Int.ofNat.inj e)
 rw[e];rfl
theorem is_row_no (d:Nat){s:List Nat}{n:Nat}(hs:s.length≤3){v:V}(h:NoL s.length n v)(st:St):cfOf p1 (d+2) (.fn (nm "is_row")) [v,.str s,.int n] st=.ok (.bool false) st:=by
 obtain⟨vars,obs⟩:=st
 have hl':s.length≤1000:=Nat.le_trans hs (by decide)
 rw[cf_is_row]
 cases h with
 | kind _ k h hk=>exact run_pure (fl:=.ret (.bool false)) (vars':=[some v,some (.str s),some (.int n),none]) rfl (r_stop (r_ift (r_ort (r_nt (r_evB (r_app2 rfl rfl (h.isi hk _))))) (r_one (r_ret rfl)))) rfl
 | len xs hl h=>exact run_pure (fl:=.ret (.bool false)) (vars':=[some (.flist xs),some (.str s),some (.int n),none]) rfl (r_stop (r_ift (r_orf (r_nf (r_evB (r_app2 rfl rfl rfl))) (r_ort (r_cmp (r_app1 rfl (len_fl hl _)) (r_app1 rfl (len_str hl' _)) (r_nei (ne_len h))))) (r_one (r_ret rfl)))) rfl
 | room a x b hl ha hx =>
  have lx:(intsV a++x::b).length≤1000:=by rw[hl];exact hl'
  have key:=for_bad (t:=3) (body:=bd_is_row_1 (d+1)) (pre:=[some (.flist (intsV a++x::b)),some (.str s),some (.int n)]) (post:=[]) (obs:=obs) (x:=x) (v:=.bool false) (bs:=b) (c:=[]) (.nil _) rfl (r_one (r_ift (r_nt (r_evB (r_app2 rfl rfl (is_room_no d hx _)))) (r_one (r_ret rfl)))) (intsV a) (fun y hy=>by
   obtain⟨i,hi,rfl⟩:=List.mem_map.mp hy
   exact r_one (r_iff (r_nf (r_evB (r_app2 rfl rfl (is_room_eq d (ha i hi) _)))) rfl)) none
  have e:(!(((intsV a++x::b).length:Int)==(s.length:Int)))=false:=by rw[hl,beq_self_eq_true];rfl
  exact run_pure (fl:=.ret (.bool false)) rfl (r_seq (r_iff (r_orf (r_nf (r_evB (r_app2 rfl rfl rfl))) (r_orf (r_cmp (r_app1 rfl (len_fl lx _)) (r_app1 rfl (len_str hl' _)) (r_nei e)) rfl)) rfl) (r_stop (r_for rfl key))) rfl
inductive NoS:V→Prop
 | kind (v:V) (k:String) (h:Kv v k) (hk:isiK k "str" = some false):NoS v
 | str (x:List Nat) (hl:x.length≤1000) (h:signsB x=false):NoS (.str x)
theorem is_signs_no (d:Nat){v:V}(h:NoS v)(st:St):cfOf p1 (d+1) (.fn (nm "is_signs")) [v] st=.ok (.bool false) st:=by
 cases h with
 | kind _ k h hk=>exact is_signs_kind d h hk st
 | str x hl h=>rw[is_signs_str d hl,h]
inductive NoM (s:List Nat):V→V→V→Prop
 | signs (sv rv ev:V) (h:NoS sv):NoM s sv rv ev
 | rows (rv ev:V) (k:String) (h:Kv rv k) (hk:isiK k "list" = some false):NoM s (.str s) rv ev
 | ends (xs:List V) (ev:V) (k:String) (h:Kv ev k) (hk:isiK k "list" = some false):NoM s (.str s) (.flist xs) ev
 | many (xs ys:List V) (hx:xs.length≤1000) (h:xs.length=0∨20<xs.length):NoM s (.str s) (.flist xs) (.flist ys)
 | len (xs ys:List V) (h1:1≤xs.length) (h2:xs.length≤20) (hy:ys.length≤1000) (h:ys.length≠xs.length):NoM s (.str s) (.flist xs) (.flist ys)
 | row (a:List (List Nat)) (x:V) (b ys:List V) (n:Nat) (hn:(a.map nl++x::b).length=n) (h2:n≤20) (hy:ys.length=n) (ha:∀ w∈a,w.length=s.length∧∀ i∈w,i<n) (hx:NoL s.length n x):NoM s (.str s) (.flist (a.map nl++x::b)) (.flist ys)
 | end (rows:List (List Nat)) (a:List Bool) (x:V) (b:List V) (k:String) (h1:1≤rows.length) (h2:rows.length≤20) (hw:∀ w∈rows,w.length=s.length∧∀ i∈w,i<rows.length) (hl:(a.map V.bool++x::b).length=rows.length) (hx:Kv x k) (hk:isiK k "bool" = some false):NoM s (.str s) (nll rows) (.flist (a.map V.bool++x::b))
theorem len20 {xs:List V}(hl:xs.length≤1000){vars:List (Option V)}{obs:List Ob}(h1:vars[1]?=some (some (.flist xs))){b:Bool}(hb:decide (1≤xs.length∧xs.length≤20)=b):notM (cmpM (constM (.int 1)) [(.LtE,appM fLen [varM 1]),(.LtE,constM (.int 20))]) ⟨vars,obs⟩=.ok (!b) ⟨vars,obs⟩:=by
 subst hb
 have v1:=r_var (obs:=obs) h1
 by_cases h1:1≤xs.length
 ·have e1:(1:Int)≤xs.length:=Int.ofNat_le.mpr h1
  refine r_not (r_cmp2 rfl (r_app1 v1 (len_fl hl _)) (r_lei (decide_eq_true e1)) rfl (r_lei ?_))
  rw[Bool.eq_iff_iff,decide_eq_true_eq,decide_eq_true_eq]
  exact⟨fun h=>⟨h1,Int.ofNat_le.mp h⟩,fun h=>Int.ofNat_le.mpr h.2⟩
 ·have e1:¬ (1:Int)≤xs.length:=fun h=>h1 (Int.ofNat_le.mp h)
  rw[decide_eq_false fun h=>h1 h.1]
  exact r_nt (r_cmp2f rfl (r_app1 v1 (len_fl hl _)) (r_lei (decide_eq_false e1)))
theorem makes_no (d:Nat){s:List Nat}(hs:SignsP s){sv rv ev:V}(h:NoM s sv rv ev)(st:St):cfOf p1 (d+3) (.fn (nm "makes_machine")) [sv,rv,ev] st=.ok (.bool false) st:=by
 obtain⟨vars,obs⟩:=st
 have sg:=is_signs_eq (d+1) hs
 rw[cf_makes_machine]
 cases h with
 | signs _ _ _ h=>exact run_pure (fl:=.ret (.bool false)) (vars':=[some sv,some rv,some ev,none,none]) rfl (r_stop (r_ift (r_ort (r_nt (r_evB (r_app1 rfl (is_signs_no (d+1) h _))))) (r_one (r_ret rfl)))) rfl
 | rows _ _ k h hk=>exact run_pure (fl:=.ret (.bool false)) (vars':=[some (.str s),some rv,some ev,none,none]) rfl (r_stop (r_ift (r_orf (r_nf (r_evB (r_app1 rfl (sg _)))) (r_ort (r_nt (r_evB (r_app2 rfl rfl (h.isi hk _)))))) (r_one (r_ret rfl)))) rfl
 | ends xs _ k h hk=>exact run_pure (fl:=.ret (.bool false)) (vars':=[some (.str s),some (.flist xs),some ev,none,none]) rfl (r_stop (r_ift (r_orf (r_nf (r_evB (r_app1 rfl (sg _)))) (r_orf (r_nf (r_evB (r_app2 rfl rfl rfl))) (r_ort (r_nt (r_evB (r_app2 rfl rfl (h.isi hk _))))))) (r_one (r_ret rfl)))) rfl
 | many xs ys hx h =>
  have hb:decide (1≤xs.length∧xs.length≤20)=false:=decide_eq_false fun q=>h.elim (fun e=>absurd q.1 (by rw[e];decide)) fun e=>Nat.not_lt_of_le q.2 e
  exact run_pure (fl:=.ret (.bool false)) (vars':=[some (.str s),some (.flist xs),some (.flist ys),none,none]) rfl (r_seq (r_iff (r_orf (r_nf (r_evB (r_app1 rfl (sg _)))) (r_orf (r_nf (r_evB (r_app2 rfl rfl rfl))) (r_orf (r_nf (r_evB (r_app2 rfl rfl rfl))) rfl))) rfl) (r_stop (r_ift (r_ort (len20 hx rfl hb)) (r_one (r_ret rfl))))) rfl
 | len xs ys h1 h2 hy h =>
  exact run_pure (fl:=.ret (.bool false)) (vars':=[some (.str s),some (.flist xs),some (.flist ys),none,none]) rfl (r_seq (r_iff (r_orf (r_nf (r_evB (r_app1 rfl (sg _)))) (r_orf (r_nf (r_evB (r_app2 rfl rfl rfl))) (r_orf (r_nf (r_evB (r_app2 rfl rfl rfl))) rfl))) rfl) (r_stop (r_ift (r_orf (len20 (Nat.le_trans h2 (by decide)) rfl (decide_eq_true ⟨h1,h2⟩)) (r_ort (r_cmp (r_app1 rfl (len_fl hy _)) (r_app1 rfl (len_fl (Nat.le_trans h2 (by decide)) _)) (r_nei (ne_len h))))) (r_one (r_ret rfl))))) rfl
 | row a x b ys n hn h2 hy ha hx =>
  have l2:(a.map nl++x::b).length≤1000:=by rw[hn];exact Nat.le_trans h2 (by decide)
  have l1:1≤(a.map nl++x::b).length:=by rw[List.length_append];exact Nat.le_trans (Nat.succ_le_succ (Nat.zero_le _)) (Nat.le_add_left _ _)
  have ln:∀ st,fLen [.flist (a.map nl++x::b)] st=.ok (.int n) st:=fun st=>hn▸len_fl l2 st
  have ly:∀ st,fLen [.flist ys] st=.ok (.int n) st:=fun st=>hy▸len_fl (by rw[hy];exact Nat.le_trans h2 (by decide)) st
  have key:=for_bad (t:=3) (body:=bd_makes_machine_1 (d+2)) (pre:=[some (.str s),some (.flist (a.map nl++x::b)),some (.flist ys)]) (post:=[none]) (obs:=obs) (x:=x) (v:=.bool false) (bs:=b) (c:=[]) (.nil _) rfl (r_one (r_ift (r_nt (r_evB (r_app3 rfl rfl (r_app1 rfl (ln _)) (is_row_no d hs.three hx _)))) (r_one (r_ret rfl)))) (a.map nl) (fun y hy=>by
   obtain⟨w,hw,rfl⟩:=List.mem_map.mp hy
   exact r_one (r_iff (r_nf (r_evB (r_app3 rfl rfl (r_app1 rfl (ln _)) (is_row_eq d (DL.flist _ _) (ha w hw).1 hs.three (ha w hw).2)))) rfl)) none
  exact run_pure (fl:=.ret (.bool false)) rfl (r_seq (r_iff (r_orf (r_nf (r_evB (r_app1 rfl (sg _)))) (r_orf (r_nf (r_evB (r_app2 rfl rfl rfl))) (r_orf (r_nf (r_evB (r_app2 rfl rfl rfl))) rfl))) rfl) <| r_seq (r_iff (r_orf (len20 l2 rfl (decide_eq_true ⟨l1,by rw[hn];exact h2⟩)) (r_orf (r_cmp (r_app1 rfl (ly _)) (r_app1 rfl (ln _)) (r_nei (congrArg not (beq_self_eq_true _)))) rfl)) rfl) (r_stop (r_for rfl key))) rfl
 | «end» rows a x b k h1 h2 hw hl hx hk =>
  have r2:rows.length≤1000:=Nat.le_trans h2 (by decide)
  have rl:(rows.map nl).length=rows.length:=List.length_map ..
  have ln:∀ st,fLen [nll rows] st=.ok (.int rows.length) st:=len_nll r2
  have ly:∀ st,fLen [.flist (a.map V.bool++x::b)] st=.ok (.int rows.length) st:=fun st=>hl▸len_fl (by rw[hl];exact r2) st
  obtain⟨z,hz⟩:=for_same (t:=3) (pre:=[some (.str s),some (nll rows),some (.flist (a.map V.bool++x::b))]) (post:=[none]) (obs:=obs) (items:=rows.map nl) (body:=bd_makes_machine_1 (d+2)) (.nil _) rfl (fun y hy=>by
   obtain⟨w,hm,rfl⟩:=List.mem_map.mp hy
   exact r_one (r_iff (r_nf (r_evB (r_app3 rfl rfl (r_app1 rfl (ln _)) (is_row_eq d (DL.flist _ _) (hw w hm).1 hs.three (hw w hm).2)))) rfl)) none
  have key:=for_bad (t:=4) (body:=bd_makes_machine_2 (d+2)) (pre:=[some (.str s),some (nll rows),some (.flist (a.map V.bool++x::b)),z]) (post:=[]) (obs:=obs) (x:=x) (v:=.bool false) (bs:=b) (c:=[]) (.nil _) rfl (r_one (r_ift (r_nt (r_evB (r_app2 rfl rfl (hx.isi hk _)))) (r_one (r_ret rfl)))) (a.map V.bool) (fun y hy=>by
   obtain⟨w,_,rfl⟩:=List.mem_map.mp hy
   exact r_one (r_iff (r_nf (r_evB (r_app2 rfl rfl rfl))) rfl)) none
  exact run_pure (fl:=.ret (.bool false)) rfl (r_seq (r_iff (r_orf (r_nf (r_evB (r_app1 rfl (sg _)))) (r_orf (r_nf (r_evB (r_app2 rfl rfl rfl))) (r_orf (r_nf (r_evB (r_app2 rfl rfl rfl))) rfl))) rfl) <| r_seq (r_iff (r_orf (len20 (xs:=rows.map nl) (by rw[rl];exact r2) rfl (decide_eq_true ⟨by rw[rl];exact h1,by rw[rl];exact h2⟩)) (r_orf (r_cmp (r_app1 rfl (ly _)) (r_app1 rfl (ln _)) (r_nei (congrArg not (beq_self_eq_true _)))) rfl)) rfl) <| r_seq (r_for rfl hz) (r_stop (r_for rfl key))) rfl
theorem new_no (d:Nat){s:List Nat}(hs:SignsP s){sv rv ev:V}(h:NoM s sv rv ev)(st:St):newC (wdOf p1 (cfOf p1 (d+4)) (chOf p1 (d+4))) (nm "Machine") [sv,rv,ev] st=.exc (nm "BadMachine") st:=by
 obtain⟨vars,obs⟩:=st
 have mk:=makes_no d hs h
 have hi:cfOf p1 (d+4) (.meth (nm "Machine") (nm "__init__")) [.ref (obs.length+1),sv,rv,ev] ⟨vars,obs++[.ns [],.inst (nm "Machine") obs.length]⟩=.exc (nm "BadMachine") ⟨vars,obs++[.ns [],.inst (nm "Machine") obs.length]⟩:=by
  rw[cf_Machine___init__]
  exact run_exc rfl (r_seqx (r_ift (r_nt (r_evB (r_app3 rfl rfl rfl (mk _)))) (r_seqx rfl)))
 have hz:(wdOf p1 (cfOf p1 (d+4)) (chOf p1 (d+4))).frz (nm "Machine")=true:=by rw[wd_frz];exact beq_self_eq_true _
 have hr:newR (wdOf p1 (cfOf p1 (d+4)) (chOf p1 (d+4))) (nm "Machine") [sv,rv,ev] ⟨vars,obs⟩=.exc (nm "BadMachine") ⟨vars,obs++[.ns [],.inst (nm "Machine") obs.length]⟩:=by
  unfold newR
  simp only[ev_bind,ev_alloc,Out.bind_ok,List.append_assoc,List.cons_append,List.nil_append,List.length_append,List.length_cons,List.length_nil,wd_cf,Nat.zero_add,hi]
  rfl
 have hk:keepL obs (obs++[.ns [],.inst (nm "Machine") obs.length])=some obs:=if_pos (List.take_left' rfl)
 unfold newC
 rw[if_pos hz]
 unfold newF
 rw[hr]
 simp only[hk]
end Mine
set_option maxRecDepth 100000
namespace Mine
open PySem
theorem r_try {b:M Flow}{ok:Str→Bool}{su:Str→M Flow}{st st1 st2:St}{c:Str}{f:Flow}(h:b st=.exc c st1)(hc:ok c=true)(k:su c st1=.ok f st2):tryM b ok su st=.ok f st2:=by
 unfold tryM
 rw[h]
 dsimp only
 rw[if_pos hc]
 unfold noX
 rw[k];rfl
theorem r_try0 {b:M Flow}{ok:Str→Bool}{su:Str→M Flow}{st st1:St}{f:Flow}(h:b st=.ok f st1):tryM b ok su st=.ok f st1:=by
 unfold tryM
 rw[h]
theorem r_as {i:Nat}{m:M Flow}{c:Str}{st st1 st2 st3:St}{f:Flow}(h1:setVar i (.exc c) st=.ok () st1)(h2:m st1=.ok f st2)(h3:clrVar i st2=.ok () st3):asM i m c st=.ok f st3:=rb h1 (rb h2 (rb h3 rfl))
noncomputable def subX (x d:Str):Bool:=subOf (basesOf p1) 6 x d
noncomputable def exO (x d:Str):Bool:=exnOf p1 x&&exnOf p1 d
theorem ise_own {x d:Str}(h:exO x d=true)(st:St):fIsE (wdH p1) [.exc x,.own d] st=.ok (.bool (subX x d)) st:=by
 have h:=Bool.and_eq_true_iff.mp h
 show (if exnOf p1 x=true∧exnOf p1 d=true then M.pure (V.bool (subOf (basesOf p1) 6 x d)) else stuck) st=_
 rw[if_pos ⟨h.1,h.2⟩];rfl
theorem ise_val {x:Str}(h:exnOf p1 x=true)(st:St):fIsE (wdH p1) [.exc x,.type "ValueError"] st=.ok (.bool (subX x (nm "ValueError"))) st:=by
 show (if exnOf p1 x=true ∧ "ValueError" = "ValueError" then M.pure (V.bool (subOf (basesOf p1) 6 x (nm "ValueError"))) else stuck) st=_
 rw[if_pos ⟨h,rfl⟩];rfl
noncomputable def tl7 (b1 b2 b3 b4 b5 b6 b7:Bool):List (List Nat×Bool):=[([115,105,103,110,115],b1),([109,97,99,104,105,110,101],b2),([119,111,114,100],b3),([97,110,115,119,101,114],b4),([114,111,111,109],b5),([116,101,120,116],b6),([98,97,115,101],!b7)]
noncomputable def pairV (p:List Nat×Bool):V:=.tuple [.str p.1,.bool p.2]
theorem r_pair {a b:M V}{w:List Nat}{x:Bool}{st:St}(h1:a st=.ok (.str w) st)(h2:b st=.ok (.bool x) st):tupM [a,b] st=.ok (pairV (w,x)) st:=r_tup (r_sq h1 (r_sq h2 rfl)) (ev_tupL (xs:=[.str w,.bool x]) (Nat.le_of_ble_eq_true rfl) st.vars st.obs)
theorem said_run (d:Nat){c:Str}{b1 b2 b3 b4 b5 b6 b7:Bool}(e1:∀ st,fIsE (wdH p1) [.exc c,.own (nm "BadSigns")] st=.ok (.bool b1) st) (e2:∀ st,fIsE (wdH p1) [.exc c,.own (nm "BadMachine")] st=.ok (.bool b2) st) (e3:∀ st,fIsE (wdH p1) [.exc c,.own (nm "BadWord")] st=.ok (.bool b3) st) (e4:∀ st,fIsE (wdH p1) [.exc c,.own (nm "BadAnswer")] st=.ok (.bool b4) st) (e5:∀ st,fIsE (wdH p1) [.exc c,.own (nm "BadRoom")] st=.ok (.bool b5) st) (e6:∀ st,fIsE (wdH p1) [.exc c,.own (nm "BadText")] st=.ok (.bool b6) st) (e7:∀ st,fIsE (wdH p1) [.exc c,.type "ValueError"] st=.ok (.bool b7) st) (st:St) :
  chOf p1 (d+1) (nm "_law_said") [.exc c] st=.ok (.flist (((tl7 b1 b2 b3 b4 b5 b6 b7).filter (·.2)).map fun p=>V.str p.1)) st:=by
 obtain⟨vars,obs⟩:=st
 have cm:=comp_map (b:=2) (n:=2) (vars:=[some (.exc c),some (.flist ((tl7 b1 b2 b3 b4 b5 b6 b7).map pairV))]) (obs:=obs) (src:=(varM 1).bind toSrcF) (t:=.tup [2,3]) (cond:=andM [evB (varM 3)]) (elt:=varM 2) (xs:=tl7 b1 b2 b3 b4 b5 b6 b7) (f:=pairV) (c:=[]) rfl rfl (Nat.le_of_ble_eq_true rfl) (.nil _) (fun p=>if p.2=true then some (V.str p.1) else Option.none) (fun p _ zs hz=>by
  obtain⟨w,b⟩:=p
  match zs,hz with
  | [z1,z2],_ =>
   refine⟨[some (.str w),some (.bool b)],rfl,rfl,?_⟩
   cases b with
   | true=>exact .inr ⟨_,if_pos rfl,r_andt (r_evB rfl) rfl,rfl⟩
   | false=>exact .inl ⟨if_neg Bool.false_ne_true,r_andf (r_evB rfl)⟩)
 rw[filt (fun p:List Nat×Bool=>p.2)] at cm
 rw[ch__law_said]
 have ad:∀ (x y z:List V) (st:St),x++y=z→decide (z.length≤1000)=true→binV .Add (.flist x) (.flist y) st=.ok (.flist z) st:=fun x y z st h hz=>by subst h;exact ev_allocL (of_decide_eq_true hz) st
 refine run_pure (fl:=.ret (.flist (((tl7 b1 b2 b3 b4 b5 b6 b7).filter (·.2)).map fun p=>V.str p.1))) (vars':=[some (.exc c),some (.flist ((tl7 b1 b2 b3 b4 b5 b6 b7).map pairV))]) rfl ?_ (lts_map _ fun _ _=>rfl)
 refine r_seq (r_asg (r_list (r_sq (r_pair rfl (r_app2 rfl rfl (e1 _))) <| r_sq (r_pair rfl (r_app2 rfl rfl (e2 _))) rfl) (alc _)) rfl rfl) ?_
 refine r_seq (r_asg (r_bin rfl (r_list (r_sq (r_pair rfl (r_app2 rfl rfl (e3 _))) <| r_sq (r_pair rfl (r_app2 rfl rfl (e4 _))) rfl) (alc _)) (ad _ _ _ _ rfl rfl)) rfl rfl) ?_
 refine r_seq (r_asg (r_bin rfl (r_list (r_sq (r_pair rfl (r_app2 rfl rfl (e5 _))) rfl) (alc _)) (ad _ _ _ _ rfl rfl)) rfl rfl) ?_
 refine r_seq (r_asg (r_bin rfl (r_list (r_sq (r_pair rfl (r_app2 rfl rfl (e6 _))) <| r_sq (r_pair rfl (r_boolV (r_not (r_evB (r_app2 rfl rfl (e7 _)))))) rfl) (alc _)) (ad _ _ _ _ rfl rfl)) rfl rfl) ?_
 exact r_one (r_ret cm)
noncomputable def saidL (c:Str):List (List Nat×Bool):=tl7 (subX c (nm "BadSigns")) (subX c (nm "BadMachine")) (subX c (nm "BadWord")) (subX c (nm "BadAnswer")) (subX c (nm "BadRoom")) (subX c (nm "BadText")) (subX c (nm "ValueError"))
noncomputable def okX (c:Str):Bool:=exnOf p1 c&&(["BadSigns", "BadMachine", "BadWord", "BadAnswer", "BadRoom", "BadText"].all fun x=>exnOf p1 (nm x))
theorem said_eq (d:Nat){c:Str}(h:okX c=true)(st:St):chOf p1 (d+1) (nm "_law_said") [.exc c] st=.ok (.flist (((saidL c).filter (·.2)).map fun p=>V.str p.1)) st:=by
 have h:=Bool.and_eq_true_iff.mp h
 have ex:∀ x:String,x∈["BadSigns", "BadMachine", "BadWord", "BadAnswer", "BadRoom", "BadText"]→∀ st,fIsE (wdH p1) [.exc c,.own (nm x)] st=.ok (.bool (subX c (nm x))) st:=fun x hx=>ise_own (Bool.and_eq_true_iff.mpr ⟨h.1,List.all_eq_true.mp h.2 x hx⟩)
 exact said_run d (ex "BadSigns" (.head _)) (ex "BadMachine" (.tail _ (.head _))) (ex "BadWord" (.tail _ (.tail _ (.head _)))) (ex "BadAnswer" (.tail _ (.tail _ (.tail _ (.head _))))) (ex "BadRoom" (.tail _ (.tail _ (.tail _ (.tail _ (.head _)))))) (ex "BadText" (.tail _ (.tail _ (.tail _ (.tail _ (.tail _ (.head _))))))) (ise_val h.1) st
noncomputable def saysB (c:Str)(w:List Nat):Bool:=okX c&&((exnOf p1 c&&subX c (nm "LearnError"))&&((saidL c).filter (·.2)).map (·.1)==[w])
theorem says_signs:saysB (nm "BadSigns") [115,105,103,110,115]=true:=by decide +kernel
theorem says_machine:saysB (nm "BadMachine") [109,97,99,104,105,110,101]=true:=by decide +kernel
theorem says_word:saysB (nm "BadWord") [119,111,114,100]=true:=by decide +kernel
theorem asked_no (d:Nat){a b e f g:V}{c:Str}{w:List Nat}(hc:saysB c w=true){obs t:List Ob}(hb:bd__law_asked_1 (d+1) ⟨[some a,some b,some e,some f,some g,none],obs⟩=.exc c ⟨[some a,some b,some e,some f,some g,none],obs++t⟩)(vars:List (Option V)):cfOf p1 (d+2) (.fn (nm "_law_asked")) [a,b,e,f,g] ⟨vars,obs⟩=.ok (.flist [.str w]) ⟨vars,obs⟩:=by
 have hc:=Bool.and_eq_true_iff.mp hc
 have hc2:=Bool.and_eq_true_iff.mp hc.2
 have sd:=said_eq d hc.1
 have ew:((saidL c).filter (·.2)).map (fun p=>V.str p.1)=[.str w]:=by
  have:=beq_iff_eq.mp hc2.2
  have k:=congrArg (List.map V.str) this
  rw[List.map_map] at k
  exact k
 rw[ew] at sd
 rw[cf__law_asked]
 exact run_ok (fl:=.ret (.flist [.str w])) (vars':=[some a,some b,some e,some f,some g,none]) (t:=t) rfl (r_stop (r_try hb hc2.1 (r_as (r_setV rfl rfl) (r_one (r_ret (r_app1 rfl (sd _)))) rfl))) (res_pure rfl)
theorem asked_ok (d:Nat){a b e f g:V}{obs t:List Ob}{vs:List (Option V)}(hb:bd__law_asked_1 (d+1) ⟨[some a,some b,some e,some f,some g,none],obs⟩=.ok .next ⟨vs,obs++t⟩)(vars:List (Option V)):cfOf p1 (d+2) (.fn (nm "_law_asked")) [a,b,e,f,g] ⟨vars,obs⟩=.ok (.flist []) ⟨vars,obs⟩:=by
 rw[cf__law_asked]
 exact run_ok (fl:=.ret (.flist [])) (t:=t) rfl (r_seq (r_try0 hb) (r_one (r_ret (r_list rfl (alc _))))) (res_pure rfl)
end Mine
set_option maxRecDepth 100000
namespace Mine
open PySem
noncomputable def wM:List Nat:=[109,97,99,104,105,110,101]
noncomputable def wS:List Nat:=[115,105,103,110,115]
noncomputable def wW:List Nat:=[119,111,114,100]
section
variable {s:List Nat}{o:List Ob}{vars:List (Option V)}
theorem fld_L:["signs", "told", "firsts", "tails", "now"].all (fun x=>fldOf p1 (nm "Learner") (nm x))=true:=by decide +kernel
theorem r_setL {cf:FnKey→List V→M V}{ch:Str→List V→M V}{x:String}{v:V}{fs fs':List (Str×V)}{r:List Ob}(hx:x∈["signs", "told", "firsts", "tails", "now"]) (hf:fs.length≤100) (hs:setField (nm x) v fs=fs'):setAttrV (wdOf p1 cf ch) (.ref (o.length+1)) (nm x) v ⟨vars,o++.ns fs::.inst (nm "Learner") o.length::r⟩=.ok () ⟨vars,o++.ns fs'::.inst (nm "Learner") o.length::r⟩:=by
 unfold setAttrV
 refine rb (by rw[ev_getOb,tl1]) ?_
 show (if fldOf p1 (nm "Learner") (nm x)=true then _ else stuck) _=_
 rw[if_pos (List.all_eq_true.mp fld_L x hx)]
 refine rb (by rw[ev_getOb,tl0]) ?_
 show (if fs.length≤100 then setOb o.length (.ns (setField (nm x) v fs)) else stuck) _=_
 rw[if_pos hf,hs,ev_setOb,if_pos (by rw[List.length_append];exact Nat.lt_add_of_pos_right (Nat.succ_pos _)),ts0]
noncomputable def lnO (b:Nat)(s:List Nat):List Ob:=[.ns [(nm "signs", .str s),(nm "told", .ref (b+2)),(nm "firsts", .ref (b+3)),(nm "tails", .ref (b+4)),(nm "now", .tuple [.str [119,111,114,100],.str []])],.inst (nm "Learner") b,.sdict 0 [],.list [.str []],.list [.str []]]
theorem initL_eq (d:Nat)(hs:SignsP s)(vars:List (Option V))(o:List Ob):cfOf p1 (d+2) (.meth (nm "Learner") (nm "__init__")) [.ref (o.length+1),.str s] ⟨vars,o++[.ns [],.inst (nm "Learner") o.length]⟩=.ok .none ⟨vars,o++lnO o.length s⟩:=by
 have e2:(o++[Ob.ns [(nm "signs", .str s)],.inst (nm "Learner") o.length]).length=o.length+2:=List.length_append
 have e3:∀ fs,(o++[Ob.ns fs,.inst (nm "Learner") o.length,.sdict 0 []]).length=o.length+3:=fun fs=>List.length_append
 have e4:∀ fs,(o++[Ob.ns fs,.inst (nm "Learner") o.length,.sdict 0 [],.list [.str []]]).length=o.length+4:=fun fs=>List.length_append
 have al:alloc (.sdict 0 []) ⟨[some (.ref (o.length+1)),some (.str s)],o++[.ns [(nm "signs", .str s)],.inst (nm "Learner") o.length]⟩=.ok (.ref (o.length+2)) ⟨[some (.ref (o.length+1)),some (.str s)],o++[.ns [(nm "signs", .str s)],.inst (nm "Learner") o.length,.sdict 0 []]⟩:=by
  rw[ev_alloc,e2,List.append_assoc];rfl
 have one:∀ st,allocL [V.str []] st=.ok (.flist [.str []]) st:=fun st=>ev_allocL (xs:=[V.str []]) (Nat.le_of_ble_eq_true rfl) st
 have two:∀ (a c:V) (st:St),tupL [a,c] st=.ok (.tuple [a,c]) st:=fun a c st=>ev_tupL (xs:=[a,c]) (Nat.le_of_ble_eq_true rfl) _ _
 rw[cf_Learner___init__]
 refine run_raw (fl:=.next) (vars':=[some (.ref (o.length+1)),some (.str s)]) rfl ?_
 exact r_seq (r_iff (r_nf (r_evB (r_app1 rfl (is_signs_eq d hs _)))) rfl) <| r_seq (r_setA rfl rfl (r_setL (by decide) (Nat.le_of_ble_eq_true rfl) rfl)) <| r_seq (r_setA al rfl (r_setL (by decide) (Nat.le_of_ble_eq_true rfl) rfl)) <| r_seq (r_setA (r_ownE (r_list rfl (one _)) (e3 _) (List.append_assoc ..)) rfl (r_setL (by decide) (Nat.le_of_ble_eq_true rfl) rfl)) <| r_seq (r_setA (r_ownE (r_list rfl (one _)) (e4 _) (List.append_assoc ..)) rfl (r_setL (by decide) (Nat.le_of_ble_eq_true rfl) rfl)) <| r_one (r_setA (r_tup rfl (two _ _ _)) rfl (r_setL (by decide) (Nat.le_of_ble_eq_true rfl) rfl))
theorem frz_L (cf:FnKey→List V→M V)(ch:Str→List V→M V):(wdOf p1 cf ch).frz (nm "Learner")=false:=by rw[wd_frz];decide
theorem newL_eq (d:Nat)(hs:SignsP s)(vars:List (Option V))(o:List Ob):newC (wdOf p1 (cfOf p1 (d+2)) (chOf p1 (d+2))) (nm "Learner") [.str s] ⟨vars,o⟩=.ok (.ref (o.length+1)) ⟨vars,o++lnO o.length s⟩:=by
 have h:=initL_eq d hs vars o
 unfold newC
 rw[frz_L]
 show newR _ _ _ _=_
 unfold newR
 simp only[ev_bind,ev_alloc,Out.bind_ok,List.append_assoc,List.cons_append,List.nil_append,List.length_append,List.length_cons,List.length_nil,wd_cf,Nat.zero_add,h]
 rfl
theorem newL_no (d:Nat){v:V}(hv:NoS v)(vars:List (Option V))(o:List Ob):newC (wdOf p1 (cfOf p1 (d+2)) (chOf p1 (d+2))) (nm "Learner") [v] ⟨vars,o⟩=.exc (nm "BadSigns") ⟨vars,o++[.ns [],.inst (nm "Learner") o.length]⟩:=by
 have h:cfOf p1 (d+2) (.meth (nm "Learner") (nm "__init__")) [.ref (o.length+1),v] ⟨vars,o++[.ns [],.inst (nm "Learner") o.length]⟩=.exc (nm "BadSigns") ⟨vars,o++[.ns [],.inst (nm "Learner") o.length]⟩:=by
  rw[cf_Learner___init__]
  exact run_exc rfl (r_seqx (r_ift (r_nt (r_evB (r_app1 rfl (is_signs_no d hv _)))) (r_seqx rfl)))
 unfold newC
 rw[frz_L]
 show newR _ _ _ _=_
 unfold newR
 simp only[ev_bind,ev_alloc,Out.bind_ok,List.append_assoc,List.cons_append,List.nil_append,List.length_append,List.length_cons,List.length_nil,wd_cf,Nat.zero_add,h]
 rfl
theorem mul_one (v:V){n:Nat}(hn:n≤1000)(st:St):binV .Mult (.flist [v]) (.int n) st=.ok (.flist (List.replicate n v)) st:=by
 have h:([v].length*(n:Int).toNat≤16777216∧-1000000≤(n:Int))∧(n:Int)≤1000000:=⟨⟨by rw[Int.toNat_natCast,List.length_singleton,Nat.one_mul];exact Nat.le_trans hn (by decide),Int.le_trans (by decide) (Int.natCast_nonneg n)⟩,Int.le_trans (Int.ofNat_le.mpr hn) (by decide)⟩
 have e:repL [v] (n:Int).toNat=List.replicate n v:=by
  unfold repL
  rw[Int.toNat_natCast,List.flatten_replicate_singleton]
 show (if ([v].length*(n:Int).toNat≤16777216∧-1000000≤(n:Int))∧(n:Int)≤1000000 then M.pure (V.flist (repL [v] (n:Int).toNat)) else stuck) st=_
 rw[if_pos h,e];rfl
theorem SignsP.str (hs:SignsP s):Dt.str.P s:=fun c hc=>Nat.lt_of_le_of_lt (hs.az c hc).2 (by decide)
theorem parting_no (d:Nat){x:List Nat}(hs:SignsP s)(hx:SignsP x)(h:s≠x){r r':List (List Nat)}{e e':List Bool}(st:St):cfOf p1 (d+1) (.fn (nm "parting")) [mach s r e,mach x r' e'] st=.exc (nm "BadMachine") st:=by
 obtain⟨vars,obs⟩:=st
 have ne:∀ st,cmpV .NotEq (.str s) (.str x) st=.ok true st:=fun st=>rb (ev_eqD Dt.str (by decide) hs.str hx.str st) (by rw[decide_eq_false h];rfl)
 rw[cf_parting]
 exact run_exc rfl (r_seqx (r_ift (r_cmp (r_attr rfl (at_signs _ _)) (r_attr rfl (at_signs _ _)) (ne _)) (r_seqx rfl)))
theorem no0 {d:Nat}{a b e f g:V}{c:Str}{w:List Nat}(hc:saysB c w=true){st:St}(hb:bd__law_asked_1 (d+1) ⟨[some a,some b,some e,some f,some g,none],st.obs⟩=.exc c ⟨[some a,some b,some e,some f,some g,none],st.obs⟩):cfOf p1 (d+2) (.fn (nm "_law_asked")) [a,b,e,f,g] st=.ok (.flist [.str w]) st :=
 asked_no d hc (t:=[]) (by rw[List.append_nil];exact hb) st.vars
variable {rows:List (List Nat)}{ends:List Bool}
theorem ask_mach (d:Nat)(hs:SignsP s){sv rv ev g:V}(h:NoM s sv rv ev)(st:St):cfOf p1 (d+5) (.fn (nm "_law_asked")) [.int 0,sv,rv,ev,g] st=.ok (.flist [.str wM]) st :=
 no0 (d:=d+3) says_machine (r_seqx (r_ift (r_cmp rfl rfl (r_eqi rfl)) (r_seqx (rbx (r_app3 rfl rfl rfl (new_no d hs h _))))))
theorem ask_signs (d:Nat){sv rv ev g:V}(h:NoS sv)(st:St):cfOf p1 (d+5) (.fn (nm "_law_asked")) [.int 1,sv,rv,ev,g] st=.ok (.flist [.str wS]) st :=
 asked_no (d+3) says_signs (t:=[.ns [],.inst (nm "Learner") st.obs.length]) (r_seqx (r_iff (r_cmp rfl rfl (r_eqi rfl)) (r_seqx (r_ift (r_cmp rfl rfl (r_eqi rfl)) (r_seqx (rbx (r_app1 rfl (newL_no (d+2) h _ _)))))))) st.vars
theorem ask_goes (d:Nat)(G:Good s rows ends){g:V}(h:NoW s g)(st:St):cfOf p1 (d+5) (.fn (nm "_law_asked")) [.int 2,.str s,nll rows,bl ends,g] st=.ok (.flist [.str wW]) st :=
 no0 (d:=d+3) says_word (r_seqx (r_iff (r_cmp rfl rfl (r_eqi rfl)) (r_seqx (r_iff (r_cmp rfl rfl (r_eqi rfl)) (r_seqx (r_ift (r_cmp rfl rfl (r_eqi rfl)) (r_seqx (rbx (r_meth1 (r_app3 rfl rfl rfl (new_eq d G _)) (pk_mach _ has_goes rfl _) rfl (goes_no (d+2) h _))))))))))
theorem ask_takes (d:Nat)(G:Good s rows ends){g:V}(h:NoW s g)(st:St):cfOf p1 (d+5) (.fn (nm "_law_asked")) [.int 3,.str s,nll rows,bl ends,g] st=.ok (.flist [.str wW]) st :=
 no0 (d:=d+3) says_word (r_seqx (r_iff (r_cmp rfl rfl (r_eqi rfl)) (r_seqx (r_iff (r_cmp rfl rfl (r_eqi rfl)) (r_seqx (r_iff (r_cmp rfl rfl (r_eqi rfl)) (r_seqx (r_ift (r_cmp rfl rfl (r_eqi rfl)) (r_seqx (rbx (r_meth1 (r_app3 rfl rfl rfl (new_eq d G _)) (pk_mach _ has_takes rfl _) rfl (takes_no (d+1) h _))))))))))))
theorem one_good {x:List Nat}(hx:SignsP x):Good x [List.replicate x.length 0] [true] where
 signs:=hx
 one:=Nat.le_refl _
 most:=Nat.le_of_ble_eq_true rfl
 ends:=rfl
 row:=fun w hw=>by
  cases List.mem_singleton.mp hw
  exact⟨List.length_replicate,fun i hi=>by rw[(List.mem_replicate.mp hi).2];exact Nat.zero_lt_one⟩
theorem ask_parting (d:Nat)(G:Good s rows ends){x:List Nat}(hx:SignsP x)(h:s≠x)(st:St):cfOf p1 (d+5) (.fn (nm "_law_asked")) [.int 4,.str s,nll rows,bl ends,.str x] st=.ok (.flist [.str wM]) st:=by
 have l3:x.length≤1000:=Nat.le_trans hx.three (by decide)
 have e:nll [List.replicate x.length 0]=.flist [.flist (List.replicate x.length (V.int 0))]:=by
  unfold nll nl
  rw[List.map_singleton,List.map_replicate];rfl
 have n2:=new_eq d (one_good hx)
 rw[e] at n2
 exact no0 (d:=d+3) says_machine (r_seqx (r_iff (r_cmp rfl rfl (r_eqi rfl)) (r_seqx (r_iff (r_cmp rfl rfl (r_eqi rfl)) (r_seqx (r_iff (r_cmp rfl rfl (r_eqi rfl)) (r_seqx (r_iff (r_cmp rfl rfl (r_eqi rfl)) (r_seqx (rbx (r_app2 (r_app3 rfl rfl rfl (new_eq d G _)) (r_app3 rfl (r_list (r_sq (r_bin (r_list rfl (alc _)) (r_app1 rfl (len_str l3 _)) (mul_one _ l3 _)) rfl) (alc (xs:=[_]) _)) (r_list rfl (alc (xs:=[_]) _)) (n2 _)) (parting_no (d+3) G.signs hx h _))))))))))))
theorem ask_fine (d:Nat)(G:Good s rows ends){w:List Nat}(hw:∀ c∈w,c∈s)(st:St):cfOf p1 (d+5) (.fn (nm "_law_asked")) [.int 3,.str s,nll rows,bl ends,.str w] st=.ok (.flist []) st:=by
 obtain⟨v,hv⟩:=takes_ok (d+1) G hw st.obs
 refine asked_ok (d+3) (vs:=[some (.int 3),some (.str s),some (nll rows),some (bl ends),some (.str w),none]) (t:=[]) ?_ st.vars
 rw[List.append_nil]
 exact r_one (r_iff (r_cmp rfl rfl (r_eqi rfl)) (r_one (r_iff (r_cmp rfl rfl (r_eqi rfl)) (r_one (r_iff (r_cmp rfl rfl (r_eqi rfl)) (r_one (r_ift (r_cmp rfl rfl (r_eqi rfl)) (r_one (r_expr (r_meth1 (r_app3 rfl rfl rfl (new_eq d G _)) (pk_mach _ has_takes rfl _) rfl (hv _)))))))))))
theorem ask_learner (d:Nat)(hs:SignsP s)(rv ev g:V)(st:St):cfOf p1 (d+5) (.fn (nm "_law_asked")) [.int 1,.str s,rv,ev,g] st=.ok (.flist []) st :=
 asked_ok (d+3) (t:=lnO st.obs.length s) (r_one (r_iff (r_cmp rfl rfl (r_eqi rfl)) (r_one (r_ift (r_cmp rfl rfl (r_eqi rfl)) (r_one (r_expr (r_app1 rfl (newL_eq (d+2) hs _ _)))))))) st.vars
end
end Mine
set_option maxRecDepth 100000
namespace Mine
open PySem
section
variable {s:List Nat}{o:List Ob}
noncomputable def slS (s:List Nat)(l u:Option Int):List Nat:=(Txt.slice ⟨s.toArray⟩ l u).cps.toList
theorem slS_len (s:List Nat)(l u:Option Int):(slS s l u).length≤s.length:=by
 have h:=Txt.slice_le ⟨s.toArray⟩ l u
 rw[str_len] at h
 unfold slS
 rw[Array.length_toList];exact h
theorem slc_str {l u:Option Int}(h:s.length≤1000)(st:St):sliceV (.str s) l u st=.ok (.str (slS s l u)) st:=congrFun (if_pos (le_lim h)) st
theorem add_str {a b:List Nat}(h:a.length+b.length≤1000)(st:St):binV .Add (.str a) (.str b) st=.ok (.str (a++b)) st:=r_adds (le_lim (by rw[List.length_append];exact h))
theorem sub_head {c:Nat}{r:List Nat}(st:St):subV (.str (c::r)) (.int 0) st=.ok (.str [c]) st:=rfl
noncomputable def upS (s:List Nat):List Nat:=(Txt.upper (mkS s)).cps.toList
theorem upp (h:s.length≤1000)(st:St):mUpper [.str s] st=.ok (.str (upS s)) st:=congrFun (if_pos h) st
theorem upS_len (s:List Nat):(upS s).length≤3*s.length:=by
 have h:=PyProof.Rows.len_upper (mkS s)
 unfold upS
 rw[Array.length_toList]
 have e:(mkS s).length=s.length:=str_len s
 rw[e] at h;exact h
noncomputable def pr (v:V):V×V:=(v,v)
structure Pk (n:Nat)(O:List Ob)(Od:V→Prop)(p:V×V):Prop where
 r:res n O 4 p.1=some p.2
 o:Od p.2
theorem pk {n:Nat}{O:List Ob}{Od:V→Prop}{v:V}(h:Od v)(hp:ltV 0 v=true:=by rfl):Pk n O Od (pr v):=⟨res_pure hp,h⟩
theorem pick_at {P:List (V×V)}{c:Int}{n:Nat}(hn:P.length=n)(h0:0<n)(hl:n≤1000){Q:V×V→Prop}(h:∀ p∈P,Q p):∃ (i:Nat) (p:V×V),Q p∧c % (n:Int)=i∧∀ st,subV (.flist (P.map (·.1))) (.int i) st=.ok p.1 st:=by
 subst hn
 obtain⟨i,e,hi⟩:=modN c h0
 exact⟨i,P[i],h _ (List.getElem_mem hi),e,fun st=>r_idx (idx_nat (by rw[List.getElem?_map,List.getElem?_eq_getElem hi];rfl) (by rw[List.length_map];exact hl))⟩
inductive Od:V→Prop
 | str (x:List Nat) (hl:x.length≤1000):Od (.str x)
 | kind (v:V) (k:String) (h:Kv v k) (hk:isiK k "str" = some false):Od v
noncomputable def P17 (n:Nat)(s:List Nat)(c:Nat):List (V×V):=[pr (.str []),pr (.str [97,98,99,100]),pr (.str (s++[c])),pr (.str (slS s none (some (-1))++slS s none (some (-1))++[66])),pr (.str [97,32,98]),pr (.str [49]),pr .none,pr (.int 5),pr (.flist [.str [97]]),pr (.tuple [.str [97],.str [98]])]++[(.ref n,.fdict [] []),pr (.bool true),pr (.str [45]),pr (.str [126]),pr (.str [97,97]),pr (.str (upS s)),pr (.str ([32]++slS s (some 1) none))]
theorem odd_signs (hs:SignsP s)(c:Int)(o:List Ob):∃ v,Od v∧∀ d vars,cfOf p1 (d+1) (.fn (nm "_law_odd_signs")) [.str s,.int c] ⟨vars,o⟩=.ok v ⟨vars,o⟩:=by
 have l3:=hs.three
 have l1:s.length≤1000:=Nat.le_trans l3 (by decide)
 obtain⟨x,r,rfl⟩:∃ x r,s=x::r:=by
  cases s with
  | nil=>exact absurd hs.one (by decide)
  | cons x r=>exact⟨x,r,rfl⟩
 have sl:=fun l u=>Nat.le_trans (slS_len (x::r) l u) l3
 have all:∀ p∈P17 o.length (x::r) x,Pk o.length (o++[.sdict 0 []]) Od p :=
  all_cons (pk (.str _ (by decide))) <| all_cons (pk (.str _ (by decide))) <| all_cons (pk (.str _ (by rw[List.length_append];exact Nat.le_trans (Nat.add_le_add_right l3 1) (by decide)))) <| all_cons (pk (.str _ (by rw[List.length_append,List.length_append];exact Nat.le_trans (Nat.add_le_add_right (Nat.add_le_add (sl _ _) (sl _ _)) _) (by decide)))) <| all_cons (pk (.str _ (by decide))) <| all_cons (pk (.str _ (by decide))) <| all_cons (pk (.kind _ _ .none rfl)) <| all_cons (pk (.kind _ _ (.int _) rfl)) <| all_cons (pk (.kind _ _ (.lst _) rfl)) <| all_cons (pk (.kind _ _ (.tup _) rfl)) <| all_cons ⟨res_dict (Nat.le_refl _) (tl0 ..) rfl,.kind _ _ (.dct _ _) rfl⟩ <| all_cons (pk (.kind _ _ (.bool _) rfl)) <| all_cons (pk (.str _ (by decide))) <| all_cons (pk (.str _ (by decide))) <| all_cons (pk (.str _ (by decide))) <| all_cons (pk (.str _ (Nat.le_trans (upS_len _) (Nat.le_trans (Nat.mul_le_mul_left 3 l3) (by decide))))) <| all_cons (pk (.str _ (by rw[List.length_append];exact Nat.le_trans (Nat.add_le_add_left (sl _ _) _) (by decide)))) all_nil
 obtain⟨i,p,hp,e,hsub⟩:=pick_at (P:=P17 o.length (x::r) x) (c:=c) (n:=17) rfl (by decide) (by decide) all
 refine⟨p.2,hp.o,fun d vars=>?_⟩
 have a1:=fun st=>add_str (a:=x::r) (b:=[x]) (Nat.le_trans (Nat.add_le_add_right l3 1) (by decide)) st
 have a2:=fun st=>add_str (a:=slS (x::r) none (some (-1))) (b:=slS (x::r) none (some (-1))) (Nat.le_trans (Nat.add_le_add (sl _ _) (sl _ _)) (by decide)) st
 have a3:=fun st=>add_str (a:=slS (x::r) none (some (-1))++slS (x::r) none (some (-1))) (b:=[66]) (by rw[List.length_append];exact Nat.le_trans (Nat.add_le_add_right (Nat.add_le_add (sl _ _) (sl _ _)) 1) (by decide)) st
 have a4:=fun st=>add_str (a:=[32]) (b:=slS (x::r) (some 1) none) (Nat.le_trans (Nat.add_le_add_left (sl _ _) 1) (by decide)) st
 have t2:∀ st,tupL [.str [97],.str [98]] st=.ok (.tuple [.str [97],.str [98]]) st:=fun st=>ev_tupL (xs:=[.str [97],.str [98]]) (Nat.le_of_ble_eq_true rfl) st.vars st.obs
 have m1:∀ st,sliceM (varM 0) none (some (negM (constM (.int 1)))) ⟨[some (.str (x::r)),some (.int c),none],st⟩=.ok (.str (slS (x::r) none (some (-1)))) ⟨[some (.str (x::r)),some (.int c),none],st⟩:=fun st=>r_slice rfl rfl (r_opt rfl) (slc_str l1 _)
 rw[cf__law_odd_signs]
 exact run_ok (fl:=.ret p.1) (t:=[.sdict 0 []]) rfl (r_seq (r_asg (r_list (r_sq rfl <| r_sq rfl <| r_sq (r_bin rfl (r_sub rfl rfl (sub_head _)) (a1 _)) <| r_sq (r_bin (r_bin (m1 _) (m1 _) (a2 _)) rfl (a3 _)) <| r_sq rfl <| r_sq rfl <| r_sq rfl <| r_sq rfl <| r_sq (r_list rfl (alc _)) <| r_sq (r_tup rfl (t2 _)) rfl) (alc (xs:=[_,_,_,_,_,_,_,_,_,_]) _)) rfl rfl) (r_one (r_ret (r_sub (r_bin rfl (r_list (r_sq rfl <| r_sq rfl <| r_sq rfl <| r_sq rfl <| r_sq rfl <| r_sq (r_meth0 rfl rfl (upp l1 _)) <| r_sq (r_bin rfl (r_slice rfl (r_opt rfl) rfl (slc_str l1 _)) (a4 _)) rfl) (alc (xs:=[_,_,_,_,_,_,_]) _)) (alc (xs:=List.map (fun p:V×V=>p.1) (P17 o.length (x::r) x)) _)) (r_bin rfl rfl (r_mod (by decide) e)) (hsub _))))) hp.r
noncomputable def abc29:List Nat:=[97,98,99,100,101,102,103,104,105,106,107,108,109,110,111,112,113,114,115,116,117,118,119,120,121,122,65,32,45]
noncomputable def oth (s:List Nat):List Nat:=abc29.filter fun c=>decide (c∉s)
theorem oth_pos (hs:SignsP s):0<(oth s).length:=by
 refine List.length_pos_of_mem (a:=45) (List.mem_filter.mpr ⟨by unfold abc29;decide,decide_eq_true fun h=>?_⟩)
 exact absurd (hs.az 45 h).1 (by decide)
theorem oth_len (s:List Nat):(oth s).length≤29:=List.length_filter_le ..
theorem oth_not {c:Nat}(h:c∈oth s):c∉s:=of_decide_eq_true (List.mem_filter.mp h).2
theorem oth_comp (d:Nat){vs:List (Option V)}(hv:vs.length=5)(h0:vs[0]?=some (some (.str s))):compM 5 1 ((constM (.str [97,98,99,100,101,102,103,104,105,106,107,108,109,110,111,112,113,114,115,116,117,118,119,120,121,122,65,32,45])).bind toSrc) (.var 5) (andM [cmpM (varM 5) [(.NotIn,varM 0)]]) (bd__law_odd_word_1 d) ⟨vs,o⟩=.ok (.flist ((oth s).map fun c=>V.str [c])) ⟨vs,o⟩:=by
 have hc:=comp_map (b:=5) (n:=1) (vars:=vs) (obs:=o) (src:=(constM (.str abc29)).bind toSrc) (t:=.var 5) (cond:=andM [cmpM (varM 5) [(.NotIn,varM 0)]]) (elt:=bd__law_odd_word_1 d) (xs:=abc29) (f:=fun c=>V.str [c]) (c:=[]) hv rfl (by unfold abc29;decide) (.nil _) (fun c=>if decide (c∉s)=true then some (V.str [c]) else Option.none) (fun c hc zs hz=>by
  match zs,hz with
  | [z1],_ =>
   have a1:asg (.var 5) (.str [c]) ⟨vs++[z1],o⟩=.ok () ⟨vs++[some (.str [c])],o⟩:=by
    rw[ev_asg_var,ev_setVar,if_pos (by rw[List.length_append,hv];exact Nat.lt_succ_self 5),List.set_append_right _ _ (Nat.le_of_eq hv),hv];rfl
   have v5:=r_var (obs:=o) (nth_new (v:=some (V.str [c])) hv)
   have v0:=r_var (obs:=o) (nth_pre (zs:=[some (V.str [c])]) h0)
   refine⟨[some (.str [c])],rfl,a1,?_⟩
   cases q:decide (c∉s) with
   | false=>exact .inl ⟨if_neg Bool.false_ne_true,r_andf (r_cmp v5 v0 (nin_str q _))⟩
   | true=>exact .inr ⟨_,if_pos rfl,r_andt (r_cmp v5 v0 (nin_str q _)) rfl,v5⟩)
 exact hc.trans (congrArg (fun x=>Out.ok (V.flist x) _) (filt (fun c=>decide (c∉s)) abc29))
theorem up_all:∀ k:Fin 26,Unicode.upperOf (97+k.1)=[65+k.1]:=by decide +kernel
theorem up_not (hs:SignsP s):∃ c∈upS s,c∉s:=by
 obtain⟨x,r,rfl⟩:∃ x r,s=x::r:=by
  cases s with
  | nil=>exact absurd hs.one (by decide)
  | cons x r=>exact⟨x,r,rfl⟩
 have hx:=hs.az x (.head _)
 have e:Unicode.upperOf x=[x-32]:=by
  have:=up_all ⟨x-97,Nat.sub_lt_left_of_lt_add hx.1 (Nat.lt_succ_of_le hx.2)⟩
  dsimp only at this
  rw[Nat.add_sub_of_le hx.1] at this
  rw[this]
  congr 1
  omega
 refine⟨x-32,?_,fun h=>?_⟩
 ·unfold upS Txt.upper placed mkS
  simp[e]
 ·have:=(hs.az _ h).1
  omega
theorem mul_list (x:List Nat){n:Int}(hn:n=3∨n=5):(Txt.mul ⟨x.toArray⟩ n).cps.toList=(List.replicate n.toNat x).flatten:=by
 have h1:¬ n<1:=by rcases hn with rfl | rfl <;> decide
 have h2:(n==1)=false:=by rcases hn with rfl | rfl <;> decide
 unfold Txt.mul
 rw[if_neg h1,h2,Bool.false_or]
 cases x with
 | nil =>
  rw[if_pos (by rfl)]
  rcases hn with rfl | rfl <;> rfl
 | cons c r =>
  rw[if_neg (by rw[str_len];simp)]
  rcases hn with rfl | rfl <;> simp[List.replicate]
theorem mul_str {x:List Nat}{n:Int}(hn:n=3∨n=5)(hl:x.length≤1000)(st:St):binV .Mult (.str x) (.int n) st=.ok (.str (List.replicate n.toNat x).flatten) st:=by
 rw[← mul_list x hn]
 exact congrFun (if_pos ⟨hn,hl⟩) st
noncomputable def m5 (s:List Nat):List Nat:=(List.replicate 5 (slS s none (some 1))).flatten
theorem m5_len (h:s.length≤3):(m5 s).length≤15:=by
 unfold m5
 rw[List.length_flatten,List.map_replicate,List.sum_replicate_nat]
 exact Nat.mul_le_mul_left 5 (Nat.le_trans (slS_len ..) h)
noncomputable def P10 (s:List Nat)(c:Nat):List (V×V):=[pr (.str [c]),pr (.str (s++[c])),pr (.str ([c]++s)),pr (.str (m5 s++[c]++s)),pr (.str (upS s)),pr .none,pr (.int 5)]++[pr (.flist (charsOf s)),pr (.bool true),pr (.tuple [])]
theorem odd_word (d:Nat)(hs:SignsP s)(c:Int)(o:List Ob):∃ v,NoW s v∧∀ vars,cfOf p1 (d+1) (.fn (nm "_law_odd_word")) [.str s,.int c] ⟨vars,o⟩=.ok v ⟨vars,o⟩:=by
 have l3:=hs.three
 have l1:s.length≤1000:=Nat.le_trans l3 (by decide)
 have l29:=Nat.le_trans (oth_len s) (by decide:29≤1000)
 obtain⟨j,ej,hj⟩:=modN (c / 64) (oth_pos hs)
 obtain⟨y,hy⟩:∃ y,y=(oth s)[j]:=⟨_,rfl⟩
 have yn:y∉s:=hy▸oth_not (List.getElem_mem hj)
 have ln:∀ st,fLen [.flist ((oth s).map fun c=>V.str [c])] st=.ok (.int (oth s).length) st:=fun st=>(ev_len_flist _ _).trans (by rw[List.length_map];exact ev_lenM l29 st)
 have ix:∀ st,subV (.flist ((oth s).map fun c=>V.str [c])) (.int j) st=.ok (.str [y]) st:=fun st=>r_idx (idx_nat (by rw[List.getElem?_map,List.getElem?_eq_getElem hj,hy];rfl) (by rw[List.length_map];exact l29))
 have cp:ltV 0 (.flist (charsOf s))=true:=lts_map _ fun _ _=>rfl
 have all:∀ p∈P10 s y,Pk o.length (o++[]) (NoW s) p :=
  all_cons (pk (.sign _ ⟨y,.head _,yn⟩)) <| all_cons (pk (.sign _ ⟨y,List.mem_append_right _ (.head _),yn⟩)) <| all_cons (pk (.sign _ ⟨y,.head _,yn⟩)) <| all_cons (pk (.sign _ ⟨y,List.mem_append_left _ (List.mem_append_right _ (.head _)),yn⟩)) <| all_cons (pk (.sign _ (up_not hs))) <| all_cons (pk (.kind _ _ .none rfl)) <| all_cons (pk (.kind _ _ (.int _) rfl)) <| all_cons (pk (.kind _ _ (.lst _) rfl) cp) <| all_cons (pk (.kind _ _ (.bool _) rfl)) <| all_cons (pk (.kind _ _ (.tup _) rfl)) all_nil
 obtain⟨i,p,hp,e,hsub⟩:=pick_at (P:=P10 s y) (c:=c) (n:=10) rfl (by decide) (by decide) all
 refine⟨p.2,hp.o,fun vars=>?_⟩
 have m15:=m5_len (s:=s) l3
 have a1:=fun st=>add_str (a:=s) (b:=[y]) (Nat.le_trans (Nat.add_le_add_right l3 1) (by decide)) st
 have a2:=fun st=>add_str (a:=[y]) (b:=s) (Nat.le_trans (Nat.add_le_add_left l3 1) (by decide)) st
 have a3:=fun st=>add_str (a:=m5 s) (b:=[y]) (Nat.le_trans (Nat.add_le_add_right m15 1) (by decide)) st
 have a4:=fun st=>add_str (a:=m5 s++[y]) (b:=s) (by rw[List.length_append];exact Nat.le_trans (Nat.add_le_add (Nat.add_le_add_right m15 1) l3) (by decide)) st
 have mu:∀ st,binV .Mult (.str (slS s none (some 1))) (.int 5) st=.ok (.str (m5 s)) st:=fun st=>mul_str (.inr rfl) (Nat.le_trans (slS_len ..) l1) st
 have ls:∀ st,fList [.str s] st=.ok (.flist (charsOf s)) st:=fun st=>ev_allocL (by unfold charsOf;rw[List.length_map];exact l1) st
 have t0:∀ st,tupL [] st=.ok (.tuple []) st:=fun st=>ev_tupL (xs:=[]) (Nat.le_of_ble_eq_true rfl) st.vars st.obs
 have oc:=fun a b d'=>oth_comp (s:=s) (o:=o) d (vs:=[some (.str s),some (.int c),a,b,d']) rfl rfl
 rw[cf__law_odd_word]
 exact run_ok (fl:=.ret p.1) (vars':=[some (.str s),some (.int c),some (.str [y]),some (.flist ((oth s).map fun c=>V.str [c])),some (.flist ([pr (.str [y]),pr (.str (s++[y])),pr (.str ([y]++s)),pr (.str (m5 s++[y]++s)),pr (.str (upS s)),pr .none,pr (.int 5)].map (·.1)))]) (t:=[]) rfl (by
  rw[List.append_nil]
  exact r_seq (r_asg (oc _ _ _) rfl rfl) <| r_seq (r_asg (r_sub rfl (r_bin (r_bin rfl rfl (r_div (by decide) rfl)) (r_app1 rfl (ln _)) (r_mod (Int.ofNat_lt.mpr (oth_pos hs)) ej)) (ix _)) rfl rfl) <| r_seq (r_asg (r_list (r_sq rfl <| r_sq (r_bin rfl rfl (a1 _)) <| r_sq (r_bin rfl rfl (a2 _)) <| r_sq (r_bin (r_bin (r_bin (r_slice rfl rfl (r_opt rfl) (slc_str l1 _)) rfl (mu _)) rfl (a3 _)) rfl (a4 _)) <| r_sq (r_meth0 rfl rfl (upp l1 _)) <| r_sq rfl <| r_sq rfl rfl) (alc (xs:=[_,_,_,_,_,_,_]) _)) rfl rfl) (r_one (r_ret (r_sub (r_bin rfl (r_list (r_sq (r_app1 rfl (ls _)) <| r_sq rfl <| r_sq (r_tup rfl (t0 _)) rfl) (alc (xs:=[_,_,_]) _)) (alc (xs:=List.map (fun p:V×V=>p.1) (P10 s y)) _)) (r_bin rfl rfl (r_mod (by decide) e)) (hsub _))))) hp.r
end
end Mine
set_option maxRecDepth 100000
namespace Mine
open PySem
section
variable {s:List Nat}{rows:List (List Nat)}{ends:List Bool}
theorem sl_to {α:Type}(xs:List α){k:Nat}(h:k≤xs.length):sliceL xs none (some (k:Int))=xs.take k:=by
 unfold sliceL
 simp only[Option.elim,clip_nat h,Nat.sub_zero,List.drop_zero]
theorem sl_from {α:Type}(xs:List α){k:Nat}(h:k≤xs.length):sliceL xs (some (k:Int)) none=xs.drop k:=by
 unfold sliceL
 simp only[Option.elim,clip_nat h]
 exact List.take_of_length_le (Nat.le_of_eq (List.length_drop ..))
theorem slc {xs ys:List V}{l u:Option Int}(h:xs.length≤1000)(e:sliceL xs l u=ys)(st:St):sliceV (.flist xs) l u st=.ok (.flist ys) st:=by
 subst e
 exact congrFun (if_pos (le_lim h)) st
noncomputable def put (xs:List V)(k:Nat)(v:V):List V:=xs.take k++[v]++xs.drop (k+1)
theorem put_eq (xs:List V)(k:Nat)(v:V):put xs k v=xs.take k++v::xs.drop (k+1):=by unfold put;rw[List.append_assoc];rfl
theorem put_len (xs:List V){k:Nat}(v:V)(h:k<xs.length):(put xs k v).length=xs.length:=by
 rw[put_eq,List.length_append,List.length_cons,List.length_take,List.length_drop,Nat.min_eq_left (Nat.le_of_lt h)]
 omega
theorem put_pure {xs:List V}{k:Nat}{v:V}(hx:ltVs 0 xs=true)(hv:ltV 0 v=true):ltVs 0 (put xs k v)=true:=by
 rw[put_eq]
 refine lts_all.mpr fun w hw=>?_
 rcases List.mem_append.mp hw with q | q
 ·exact lts_all.mp hx w (List.mem_of_mem_take q)
 ·rcases List.mem_cons.mp q with rfl | q
  ·exact hv
  ·exact lts_all.mp hx w (List.mem_of_mem_drop q)
theorem r_put {st:St}{x k v:M V}{xs:List V}{i:Nat}{w:V}(hx:x st=.ok (.flist xs) st)(hk:k st=.ok (.int i) st)(hv:v st=.ok w st)(hi:i<xs.length)(hl:xs.length≤1000) :
  binM .Add (binM .Add (sliceM x none (some k)) (listM [v])) (sliceM x (some (binM .Add k (constM (.int 1)))) none) st=.ok (.flist (put xs i w)) st:=by
 have l1:(xs.take i++[w]).length≤1000:=by rw[List.length_append,List.length_take,Nat.min_eq_left (Nat.le_of_lt hi)];exact Nat.le_trans hi hl
 have l2:(xs.take i++[w]++xs.drop (i+1)).length≤1000:=by
  have:=put_len xs w hi
  unfold put at this
  rw[this];exact hl
 exact r_bin (r_bin (r_slice hx rfl (r_opt hk) (slc hl (sl_to xs (Nat.le_of_lt hi)) _)) (r_list (r_sq hv rfl) (alc (xs:=[_]) _)) (ev_allocL l1 _)) (r_slice hx (r_opt (r_bin hk rfl (r_addi (c:=((i+1:Nat):Int)) rfl))) rfl (slc hl (sl_from xs hi) _)) (ev_allocL l2 _)
theorem bl_len (es:List Bool):(es.map V.bool).length=es.length:=List.length_map ..
noncomputable def E7 (es:List Bool):List (V×V):=[pr (.flist (es.map V.bool++[.bool true])),pr (.flist ((es.map V.bool).drop 1)),pr .none,pr (.tuple (es.map V.bool)),pr (.str [101,110,100,115]),pr (.int 7),pr (.flist [])]
theorem odd_ends (d:Nat)(G:Good s rows ends)(c:Int)(o:List Ob):∃ v,NoM s (.str s) (nll rows) v∧∀ vars,cfOf p1 (d+1) (.fn (nm "_law_odd_ends")) [bl ends,.int c] ⟨vars,o⟩=.ok v ⟨vars,o⟩:=by
 have hn:=G.ends
 have n1:=G.one
 have n20:=G.most
 have el:(ends.map V.bool).length=rows.length:=(bl_len ends).trans hn
 have e1:(ends.map V.bool).length≤1000:=by rw[el];exact Nat.le_trans n20 (by decide)
 have rl:(rows.map nl).length=rows.length:=List.length_map ..
 have r1:1≤(rows.map nl).length:=by rw[rl];exact n1
 have r2:(rows.map nl).length≤20:=by rw[rl];exact n20
 have len:∀ ys:List V,ys.length≤1000→ys.length≠rows.length→NoM s (.str s) (nll rows) (.flist ys):=fun ys h1 h2=>.len (rows.map nl) ys r1 r2 h1 (by rw[rl];exact h2)
 have oth:∀ {v:V} {k:String},Kv v k→isiK k "list" = some false→NoM s (.str s) (nll rows) v:=fun h hk=>.ends (rows.map nl) _ _ h hk
 obtain⟨a,ea,ha⟩:=modN (c / 16) (n:=(ends.map V.bool).length) (by rw[el];exact n1)
 obtain⟨j,y,hy,ej,hsy⟩:=pick_at (P:=[pr (.int 0),pr (.int 1),pr .none,pr (.str [84,114,117,101]),pr (.flist []),pr (.int 5)]) (c:=c / 256) (n:=6) rfl (by decide) (by decide) (Q:=fun p=>(∃ k,Kv p.1 k∧isiK k "bool" = some false)∧ltV 0 p.1=true)
  (all_cons ⟨⟨_,.int _,rfl⟩,rfl⟩ <| all_cons ⟨⟨_,.int _,rfl⟩,rfl⟩ <| all_cons ⟨⟨_,.none,rfl⟩,rfl⟩ <| all_cons ⟨⟨_,.str _,rfl⟩,rfl⟩ <| all_cons ⟨⟨_,.lst _,rfl⟩,rfl⟩ <| all_cons ⟨⟨_,.int _,rfl⟩,rfl⟩ all_nil)
 obtain⟨⟨k,hk,hkb⟩,yp⟩:=hy
 have bp:ltVs 0 (ends.map V.bool)=true:=lts_map _ fun _ _=>rfl
 have pe:put (ends.map V.bool) a y.1=(ends.take a).map V.bool++y.1::(ends.map V.bool).drop (a+1):=by rw[put_eq,List.map_take]
 have last:Pk o.length (o++[]) (NoM s (.str s) (nll rows)) (pr (.flist (put (ends.map V.bool) a y.1))):=pk (by
  rw[pe]
  exact .end rows (ends.take a) y.1 _ k n1 n20 G.row (by rw[← pe,put_len _ _ ha,el]) hk hkb) (put_pure bp yp)
 have all:∀ p∈E7 ends++List.replicate 9 (pr (.flist (put (ends.map V.bool) a y.1))),Pk o.length (o++[]) (NoM s (.str s) (nll rows)) p:=fun p hp=>by
  rcases List.mem_append.mp hp with q | q
  ·refine (all_cons (pk (len _ ?_ ?_) ?_) <| all_cons (pk (len _ ?_ ?_) ?_) <| all_cons (pk (oth .none rfl)) <| all_cons (pk (oth (.tup _) rfl) bp) <| all_cons (pk (oth (.str _) rfl)) <| all_cons (pk (oth (.int _) rfl)) <| all_cons (pk (len _ (by decide) (by intro h;rw[← h] at n1;exact absurd n1 (by decide)))) all_nil) p q
   ·rw[List.length_append,el];exact Nat.le_trans (Nat.add_le_add_right n20 1) (by decide)
   ·rw[List.length_append,el];exact Nat.succ_ne_self _
   ·exact lts_all.mpr fun w hw=>(List.mem_append.mp hw).elim (fun q=>lts_all.mp bp w q) fun q=>by cases List.mem_singleton.mp q;rfl
   ·rw[List.length_drop,el];exact Nat.le_trans (Nat.sub_le _ _) (Nat.le_trans n20 (by decide))
   ·rw[List.length_drop,el];omega
   ·exact lts_all.mpr fun w hw=>lts_all.mp bp w (List.mem_of_mem_drop hw)
  ·rw[(List.mem_replicate.mp q).2];exact last
 obtain⟨i,p,hp,e,hsub⟩:=pick_at (P:=E7 ends++List.replicate 9 (pr (.flist (put (ends.map V.bool) a y.1)))) (c:=c) (n:=16) rfl (by decide) (by decide) all
 refine⟨p.2,hp.o,fun vars=>?_⟩
 have l1:(ends.map V.bool++[V.bool true]).length≤1000:=by rw[List.length_append,el];exact Nat.le_trans (Nat.add_le_add_right n20 1) (by decide)
 have ln:∀ st,fLen [bl ends] st=.ok (.int (ends.map V.bool).length) st:=len_fl e1
 have tp:∀ st,fTuple [bl ends] st=.ok (.tuple (ends.map V.bool)) st:=fun st=>ev_tupL e1 st.vars st.obs
 have m9:∀ st,binV .Mult (.flist [.flist (put (ends.map V.bool) a y.1)]) (.int 9) st=.ok (.flist (List.replicate 9 (.flist (put (ends.map V.bool) a y.1)))) st:=mul_one _ (n:=9) (by decide)
 have fin:(E7 ends).map (·.1)++List.replicate 9 (V.flist (put (ends.map V.bool) a y.1))=(E7 ends++List.replicate 9 (pr (.flist (put (ends.map V.bool) a y.1)))).map (·.1):=by rw[List.map_append,List.map_replicate];rfl
 rw[cf__law_odd_ends]
 exact run_ok (fl:=.ret p.1) (vars':=[some (bl ends),some (.int c),some (.int a),some y.1,some (.flist ((E7 ends).map (·.1)))]) (t:=[]) rfl (by
  rw[List.append_nil]
  exact r_seq (r_asg (r_bin (r_bin rfl rfl (r_div (by decide) rfl)) (r_app1 rfl (ln _)) (r_mod (Int.ofNat_lt.mpr (by rw[el];exact n1)) ea)) rfl rfl) <| r_seq (r_asg (r_sub (r_list (r_sq rfl <| r_sq rfl <| r_sq rfl <| r_sq rfl <| r_sq (r_list rfl (alc _)) <| r_sq rfl rfl) (alc (xs:=[_,_,_,_,_,_]) _)) (r_bin (r_bin rfl rfl (r_div (by decide) rfl)) rfl (r_mod (by decide) ej)) (hsy _)) rfl rfl) <|
   r_seq (r_asg (r_list (r_sq (r_bin rfl (r_list rfl (alc (xs:=[_]) _)) (ev_allocL l1 _)) <| r_sq (r_slice rfl (r_opt rfl) rfl (slc e1 (sl_from _ (k:=1) (by rw[el];exact n1)) _)) <| r_sq rfl <| r_sq (r_app1 rfl (tp _)) <| r_sq rfl <| r_sq rfl <| r_sq (r_list rfl (alc _)) rfl) (alc (xs:=List.map (fun p:V×V=>p.1) (E7 ends)) _)) rfl rfl) <|
   r_one (r_ret (r_sub (r_bin rfl (r_bin (r_list (r_sq (r_put rfl rfl rfl ha e1) rfl) (alc (xs:=[_]) _)) rfl (m9 _)) ((congrArg (fun x=>allocL x _) fin).trans (ev_allocL (by rw[List.length_map];exact (by decide:16≤1000)) _))) (r_bin rfl rfl (r_mod (by decide) e)) (hsub _)))) hp.r
end
end Mine
set_option maxRecDepth 100000
namespace Mine
open PySem
section
variable {s:List Nat}{rows:List (List Nat)}{ends:List Bool}
theorem ints_len (w:List Nat):(intsV w).length=w.length:=List.length_map ..
theorem ints_pure (w:List Nat):ltVs 0 (intsV w)=true:=lts_map _ fun _ _=>rfl
theorem nls_pure (rs:List (List Nat)):ltVs 0 (rs.map nl)=true:=lts_map _ fun _ _=>nl_pure _
theorem pick_idx {P:List (V×V)}{c:Int}{n:Nat}(hn:P.length=n)(h0:0<n)(hl:n≤1000){Q:V×V→Prop}(h:∀ p∈P,Q p):∃ (i:Nat) (p:V×V),Q p∧c % (n:Int)=i∧idxL (P.map (·.1)) (i:Int)=some p.1:=by
 subst hn
 obtain⟨i,e,hi⟩:=modN c h0
 exact⟨i,P[i],h _ (List.getElem_mem hi),e,idx_nat (by rw[List.getElem?_map,List.getElem?_eq_getElem hi];rfl) (by rw[List.length_map];exact hl)⟩
noncomputable def lnL (w:List Nat)(a:Nat)(y:V):List V:=[.flist (intsV w++[.int 0]),.flist ((intsV w).drop 1),.tuple (intsV w),.none,.str [48]]++List.replicate 5 (.flist (put (intsV w) a y))
theorem lnL_all {w:List Nat}{a n:Nat}{y:V}(k1:1≤w.length)(k3:w.length≤3)(hw:∀ i∈w,i<n)(ha:a<w.length)(hy:NoR n y)(yp:ltV 0 y=true):∀ l∈lnL w a y,NoL w.length n l∧ltV 0 l=true:=fun l hl=>by
 have il:=ints_len w
 rcases List.mem_append.mp hl with q | q
 ·refine (all_cons ⟨.len _ ?_ ?_,?_⟩ <| all_cons ⟨.len _ ?_ ?_,?_⟩ <| all_cons ⟨.kind _ _ (.tup _) rfl,ints_pure w⟩ <| all_cons ⟨.kind _ _ .none rfl,rfl⟩ <| all_cons ⟨.kind _ _ (.str _) rfl,rfl⟩ all_nil:∀ l∈[V.flist (intsV w++[.int 0]),.flist ((intsV w).drop 1),.tuple (intsV w),.none,.str [48]],NoL w.length n l∧ltV 0 l=true) l q
  ·rw[List.length_append,il];exact Nat.le_trans (Nat.add_le_add_right k3 1) (by decide)
  ·rw[List.length_append,il];exact Nat.succ_ne_self _
  ·exact lts_all.mpr fun v hv=>(List.mem_append.mp hv).elim (fun z=>lts_all.mp (ints_pure w) v z) fun z=>by cases List.mem_singleton.mp z;rfl
  ·rw[List.length_drop,il];exact Nat.le_trans (Nat.sub_le _ _) (Nat.le_trans k3 (by decide))
  ·rw[List.length_drop,il];omega
  ·exact lts_all.mpr fun v hv=>lts_all.mp (ints_pure w) v (List.mem_of_mem_drop hv)
 ·rw[(List.mem_replicate.mp q).2]
  have pe:put (intsV w) a y=intsV (w.take a)++y::(intsV w).drop (a+1):=by rw[put_eq];unfold intsV;rw[List.map_take]
  have pl:(put (intsV w) a y).length=w.length:=by rw[put_len _ _ (by rw[il];exact ha),il]
  refine⟨?_,put_pure (ints_pure w) yp⟩
  rw[pe] at pl ⊢
  exact .room (w.take a) y _ pl (fun i hi=>hw i (List.mem_of_mem_take hi)) hy
theorem line_no (G:Good s rows ends){r:Nat}(hr:r<rows.length){l:V}(hl:NoL s.length rows.length l):NoM s (.str s) (.flist (put (rows.map nl) r l)) (bl ends):=by
 have rl:(rows.map nl).length=rows.length:=List.length_map ..
 have pe:put (rows.map nl) r l=(rows.take r).map nl++l::(rows.map nl).drop (r+1):=by rw[put_eq,List.map_take]
 have pl:(put (rows.map nl) r l).length=rows.length:=by rw[put_len _ _ (by rw[rl];exact hr),rl]
 rw[pe] at pl ⊢
 exact .row (rows.take r) l _ (ends.map V.bool) rows.length pl G.most (by rw[List.length_map];exact G.ends) (fun w hw=>G.row w (List.mem_of_mem_take hw)) hl
noncomputable def R6 (rows:List (List Nat)):List (V×V):=[pr (.flist []),pr (.flist ((List.range 21).map fun _=>nl (rows.getD 0 []))),pr .none,pr (.tuple (rows.map nl)),pr (.str [114,111,119,115]),pr (.int 5)]
noncomputable def orV (rv:V)(c:Int)(r n:Nat)(w:List Nat)(a:Nat)(y:V)(b:Nat)(L:List V)(z:Option V):List (Option V):=[some rv,some (.int c),some (.int r),some (.int n),some (nl w),some (.int a),some y,some (.ref b),some (.flist L),z]
theorem rows_loop (d:Nat){c:Int}{r n a:Nat}{w:List Nat}{y:V}(hr:r<rows.length)(hl:rows.length≤1000)(o:List Ob)(A L:List V)(hA:A.length≤100)(hL:L.length≤100):∃ z,forItems (.var 9) (bd__law_odd_rows_2 d) [] L ⟨orV (nll rows) c r n w a y o.length L none,o++[.list A]⟩=.ok .next ⟨orV (nll rows) c r n w a y o.length L z,o++[.list (A++L.map fun l=>.flist (put (rows.map nl) r l))]⟩:=by
 have rl:(rows.map nl).length=rows.length:=List.length_map ..
 obtain⟨st,h1,z,rfl⟩:=for_map (t:=.var 9) (body:=bd__law_odd_rows_2 d) (c:=[]) (f:=fun v:V=>v) (xs:=L) (fun j st=>∃ z,st=⟨orV (nll rows) c r n w a y o.length L z,o++[.list (A++(L.take j).map fun l=>.flist (put (rows.map nl) r l))]⟩) (fun _ _ _=>.nil _) (fun j x st hx hI=>by
  obtain⟨z,rfl⟩:=hI
  have hj:=(List.getElem?_eq_some_iff.mp hx).1
  have e:(A++(L.take j).map fun l=>V.flist (put (rows.map nl) r l))++[.flist (put (rows.map nl) r x)]=A++(L.take (j+1)).map fun l=>V.flist (put (rows.map nl) r l):=by
   rw[List.take_add_one,hx,Option.toList_some,List.map_append,List.append_assoc];rfl
  have l1:(A++(L.take j).map fun l=>V.flist (put (rows.map nl) r l)).length≤1000:=by
   rw[List.length_append,List.length_map,List.length_take]
   exact Nat.le_trans (Nat.add_le_add hA (Nat.le_trans (Nat.min_le_right _ _) hL)) (by decide)
  exact⟨_,rb (a:=()) rfl (r_one (r_push rfl (tl0 ..) (r_put (xs:=rows.map nl) rfl rfl rfl (by rw[rl];exact hr) (by rw[rl];exact hl)) l1 ((ts0 ..).trans (by rw[e])))),some x,rfl⟩) (st:=⟨orV (nll rows) c r n w a y o.length L none,o++[.list A]⟩) ⟨none,by rw[List.take_zero,List.map_nil,List.append_nil]⟩
 rw[List.map_id',List.take_length] at h1
 exact⟨z,h1⟩
theorem odd_rows (d:Nat)(G:Good s rows ends)(c:Int)(o:List Ob):∃ v,NoM s (.str s) v (bl ends)∧∀ vars,cfOf p1 (d+1) (.fn (nm "_law_odd_rows")) [nll rows,.int c] ⟨vars,o⟩=.ok v ⟨vars,o⟩:=by
 have n1:=G.one
 have n20:=G.most
 have nl1:rows.length≤1000:=Nat.le_trans n20 (by decide)
 obtain⟨r,er,hr⟩:=modN (c / 16) n1
 obtain⟨w,hwd⟩:∃ w,w=rows.getD r []:=⟨_,rfl⟩
 have wm:w∈rows:=by rw[hwd,List.getD_eq_getElem?_getD,List.getElem?_eq_getElem hr];exact List.getElem_mem hr
 obtain⟨wl,wi⟩:=G.row w wm
 have w1:1≤w.length:=by rw[wl];exact G.signs.one
 have w3:w.length≤3:=by rw[wl];exact G.signs.three
 have wk:w.length≤1000:=Nat.le_trans w3 (by decide)
 obtain⟨a,ea,ha⟩:=modN (c / 256) w1
 obtain⟨j,y,hy,ej,hsy⟩:=pick_at (P:=[pr (.int rows.length),pr (.int (-1)),pr (.bool true),pr (.str [48]),pr .none,pr (.flist [.int 0]),pr (.int (10 ^ 30)),pr (.bool false)]) (c:=c / 4096) (n:=8) rfl (by decide) (by decide) (Q:=fun p=>NoR rows.length p.1∧ltV 0 p.1=true)
  (all_cons ⟨.big _ (Int.le_refl _),rfl⟩ <| all_cons ⟨.neg,rfl⟩ <| all_cons ⟨.bool _,rfl⟩ <| all_cons ⟨.kind _ _ (.str _) rfl,rfl⟩ <| all_cons ⟨.kind _ _ .none rfl,rfl⟩ <| all_cons ⟨.kind _ _ (.lst _) rfl,rfl⟩ <| all_cons ⟨.big _ (Int.le_trans (Int.ofNat_le.mpr n20) (by decide)),rfl⟩ <| all_cons ⟨.bool _,rfl⟩ all_nil)
 have lines:=lnL_all w1 w3 wi ha hy.1 hy.2
 rw[wl] at lines
 have rk:∀ {v:V} {k:String},Kv v k→isiK k "list" = some false→NoM s (.str s) v (bl ends):=fun h hk=>.rows _ _ _ h hk
 have many:∀ xs:List V,xs.length≤1000→(xs.length=0∨20<xs.length)→NoM s (.str s) (.flist xs) (bl ends):=fun xs h1 h2=>.many xs (ends.map V.bool) h1 h2
 obtain⟨L,hL⟩:∃ L,L=lnL w a y.1:=⟨_,rfl⟩
 have L10:L.length=10:=by rw[hL];rfl
 have all:∀ p∈R6 rows++L.map (fun l=>pr (.flist (put (rows.map nl) r l))),∀ t,Pk o.length (o++t) (fun v=>NoM s (.str s) v (bl ends)) p:=fun p hp t=>by
  rcases List.mem_append.mp hp with q | q
  ·refine (all_cons (pk (many _ (by decide) (.inl rfl))) <| all_cons (pk (many _ (by rw[List.length_map,List.length_range];decide) (.inr (by rw[List.length_map,List.length_range];decide))) (lts_map _ fun _ _=>nl_pure _)) <| all_cons (pk (rk .none rfl)) <| all_cons (pk (rk (.tup _) rfl) (nls_pure rows)) <| all_cons (pk (rk (.str _) rfl)) <| all_cons (pk (rk (.int _) rfl)) all_nil:∀ p∈R6 rows,Pk o.length (o++t) (fun v=>NoM s (.str s) v (bl ends)) p) p q
  ·obtain⟨l,hl,rfl⟩:=List.mem_map.mp q
   rw[hL] at hl
   exact pk (line_no G hr (lines l hl).1) (put_pure (nls_pure rows) (lines l hl).2)
 obtain⟨i,p,hp,e,hix⟩:=pick_idx (P:=R6 rows++L.map (fun l=>pr (.flist (put (rows.map nl) r l)))) (c:=c) (n:=16) (by rw[List.length_append,List.length_map,L10];rfl) (by decide) (by decide) all
 rw[List.map_append,List.map_map] at hix
 refine⟨p.2,(hp []).o,fun vars=>?_⟩
 have ln:∀ st,fLen [nll rows] st=.ok (.int rows.length) st:=len_nll nl1
 have lw:∀ st,fLen [nl w] st=.ok (.int w.length) st:=len_nl wk
 have sr:∀ st,subV (nll rows) (.int r) st=.ok (nl w) st:=fun st=>(sub_nll hr nl1 st).trans (by rw[hwd])
 have s0:∀ st,subV (nll rows) (.int 0) st=.ok (nl (rows.getD 0 [])) st:=sub_nll (k:=0) n1 nl1
 have w0:(rows.getD 0 []).length≤1000:=by
  rw[List.getD_eq_getElem?_getD,List.getElem?_eq_getElem n1]
  exact G.wl _ (List.getElem_mem n1)
 have cp0:∀ st,fList [nl (rows.getD 0 [])] st=.ok (nl (rows.getD 0 [])) st:=fun st=>ev_allocL (by rw[List.length_map];exact w0) st
 have pw:∀ st,binV .Pow (.int 10) (.int 30) st=.ok (.int (10 ^ 30)) st:=fun st=>rfl
 have tp:∀ st,fTuple [nll rows] st=.ok (.tuple (rows.map nl)) st:=fun st=>ev_tupL (by rw[List.length_map];exact nl1) st.vars st.obs
 have tw:∀ st,fTuple [nl w] st=.ok (.tuple (intsV w)) st:=fun st=>ev_tupL (by rw[List.length_map];exact wk) st.vars st.obs
 have iw:=ints_len w
 have la:(intsV w++[V.int 0]).length≤1000:=by rw[List.length_append,iw];exact Nat.le_trans (Nat.add_le_add_right w3 1) (by decide)
 have m5:∀ v st,binV .Mult (.flist [v]) (.int 5) st=.ok (.flist (List.replicate 5 v)) st:=fun v=>mul_one v (n:=5) (by decide)
 obtain⟨z,lp⟩:=rows_loop d (c:=c) (n:=rows.length) (w:=w) (a:=a) (y:=y.1) hr nl1 o ((R6 rows).map (·.1)) L (Nat.le_of_ble_eq_true rfl) (by rw[L10];decide)
 have cm:=fun (vs:List (Option V)) (h10:vs.length=10) (h0:vs[0]?=some (some (nll rows)))=>comp1_map (b:=10) (vars:=vs) (obs:=o) (src:=(appM fRange [constM (.int 21)]).bind toSrc) (elt:=bd__law_odd_rows_1 d) (xs:=List.range 21) (f:=fun (k:Nat)=>V.int k) (c:=[]) h10 (r_range (n:=21) rfl (by decide)) (by decide) (.nil _) (fun _=>nl (rows.getD 0 [])) (fun k _=>r_app1 (r_sub (r_var (nth_pre h0)) rfl (s0 _)) (cp0 _))
 rw[cf__law_odd_rows]
 refine run_ok (fl:=.ret p.1) (vars':=orV (nll rows) c r rows.length w a y.1 o.length L z) (t:=[.list ((R6 rows).map (·.1)++L.map fun l=>.flist (put (rows.map nl) r l))]) rfl ?_ (hp _).r
 refine r_seq (r_asg (r_bin (r_bin rfl rfl (r_div (by decide) rfl)) (r_app1 rfl (ln _)) (r_mod (Int.ofNat_lt.mpr n1) er)) rfl rfl) ?_
 refine r_seq (r_asg (r_app1 rfl (ln _)) rfl rfl) ?_
 refine r_seq (r_asg (r_sub rfl rfl (sr _)) rfl rfl) ?_
 refine r_seq (r_asg (r_bin (r_bin rfl rfl (r_div (by decide) rfl)) (r_app1 rfl (lw _)) (r_mod (Int.ofNat_lt.mpr w1) ea)) rfl rfl) ?_
 refine r_seq (r_asg (r_sub (r_list (r_sq rfl <| r_sq rfl <| r_sq rfl <| r_sq rfl <| r_sq rfl <| r_sq (r_list rfl (alc _)) <| r_sq (r_bin rfl rfl (pw _)) <| r_sq rfl rfl) (alc (xs:=[_,_,_,_,_,_,_,_]) _)) (r_bin (r_bin rfl rfl (r_div (by decide) rfl)) rfl (r_mod (by decide) ej)) (hsy _)) rfl rfl) ?_
 refine r_seq (r_asg (r_own (r_list (r_sq (r_list rfl (alc _)) <| r_sq (cm _ rfl rfl) <| r_sq rfl <| r_sq (r_app1 rfl (tp _)) <| r_sq rfl <| r_sq rfl rfl) (alc (xs:=List.map (fun p:V×V=>p.1) (R6 rows)) _))) rfl rfl) ?_
 refine r_seq (r_asg (r_bin (r_list (r_sq (r_bin rfl (r_list rfl (alc (xs:=[_]) _)) (ev_allocL la _)) <| r_sq (r_slice rfl (r_opt rfl) rfl (slc (xs:=intsV w) (by rw[iw];exact wk) (sl_from _ (k:=1) (by rw[iw];exact w1)) _)) <| r_sq (r_app1 rfl (tw _)) <| r_sq rfl <| r_sq rfl rfl) (alc (xs:=[_,_,_,_,_]) _)) (r_bin (r_list (r_sq (r_put (xs:=intsV w) rfl rfl rfl (by rw[iw];exact ha) (by rw[iw];exact wk)) rfl) (alc (xs:=[_]) _)) rfl (m5 _ _)) (show binV .Add _ _ _=.ok (.flist L) _ by rw[hL];exact alc (xs:=lnL w a y.1) _)) rfl rfl) ?_
 refine r_seq (r_for rfl lp) ?_
 exact r_one (r_ret (r_sub rfl (r_bin rfl rfl (r_mod (by decide) e)) (r_idxR (tl0 ..) hix)))
end
end Mine
set_option maxRecDepth 100000
namespace Mine
open PySem
section
variable {s:List Nat}{rows:List (List Nat)}{ends:List Bool}
theorem od_signs {v:V}(h:Od v):∃ b:Bool,(∀ d st,cfOf p1 (d+1) (.fn (nm "is_signs")) [v] st=.ok (.bool b) st)∧(∀ d st,cfOf p1 (d+1) (.fn (nm "_law_is_signs")) [v] st=.ok (.bool b) st)∧(b=false→NoS v):=by
 cases h with
 | str x hl=>exact⟨signsB x,fun d st=>is_signs_str d hl st,fun d st=>own_signs_str d hl st,fun q=>.str x hl q⟩
 | kind _ k h hk=>exact⟨false,fun d st=>is_signs_kind d h hk st,fun d st=>own_signs_kind d h hk st,fun _=>.kind _ k h hk⟩
theorem eq_one {w:List Nat}(hw:∀ c∈w,c<1114112)(st:St):cmpV .Eq (.flist [.str w]) (.flist [.str w]) st=.ok true st:=by
 have h:=ev_eqD (Dt.list Dt.str) (by decide) (a:=[w]) (b:=[w]) (fun x hx=>by cases List.mem_singleton.mp hx;exact hw) (fun x hx=>by cases List.mem_singleton.mp hx;exact hw) st
 rw[decide_eq_true rfl] at h
 exact c_eq h
theorem ne_nil' (st:St):cmpV .NotEq (.flist []) (.flist []) st=.ok false st:=by
 have h:=ev_eqD (Dt.list Dt.str) (by decide) (a:=[]) (b:=[]) (fun _ h=>(nomatch h)) (fun _ h=>(nomatch h)) st
 rw[decide_eq_true rfl] at h
 exact r_ne h
theorem eM:∀ st,cmpV .Eq (.flist [.str wM]) (.flist [.str wM]) st=.ok true st:=eq_one (by unfold wM;decide)
theorem eS:∀ st,cmpV .Eq (.flist [.str wS]) (.flist [.str wS]) st=.ok true st:=eq_one (by unfold wS;decide)
theorem eW:∀ st,cmpV .Eq (.flist [.str wW]) (.flist [.str wW]) st=.ok true st:=eq_one (by unfold wW;decide)
noncomputable def rvS (s:List Nat):List Nat:=(Txt.sliceBy ⟨s.toArray⟩ none none (-1,0)).cps.toList
theorem rvS_len (s:List Nat):(rvS s).length≤s.length:=by
 have h:=Txt.sliceBy_le ⟨s.toArray⟩ none none (-1,0) (by decide)
 rw[str_len] at h
 unfold rvS
 rw[Array.length_toList];exact h
noncomputable def O5 (s:List Nat):List (V×V):=[pr (.str (rvS s)),pr (.str (slS s (some 1) none++slS s none (some 1))),pr (.str (slS s none (some (-1)))),pr (.str (s++[113])),pr (.str [120,121,122])]
theorem str_eq {a b:List Nat}(ha:∀ c∈a,c<1114112)(hb:∀ c∈b,c<1114112)(st:St):cmpV .Eq (.str a) (.str b) st=.ok (decide (a=b)) st:=c_eq (ev_eqD Dt.str (by decide) ha hb st)
theorem refused_eq (d:Nat)(G:Good s rows ends)(c:Int)(o:List Ob){v:V}(hv:∀ vars,cfOf p1 (d+5) (.fn (nm "_law_odd_signs")) [.str s,.int (c / 8)] ⟨vars,o⟩=.ok v ⟨vars,o⟩) (hn:NoS v) (vars:List (Option V)):cfOf p1 (d+6) (.fn (nm "_law_refused")) [.str s,nll rows,bl ends,.int c] ⟨vars,o⟩=.ok (.bool true) ⟨vars,o⟩:=by
 have hs:=G.signs
 have l3:=hs.three
 have l1:s.length≤1000:=Nat.le_trans l3 (by decide)
 obtain⟨k,ek,hk⟩:=modN c (n:=8) (by decide)
 have head:∀ {l:List (M Flow)} {r:Out Flow},seqS l ⟨[some (.str s),some (nll rows),some (bl ends),some (.int c),some v,some (.int k),none],o⟩=r→seqS (assignM (.var 4) (appM (cfOf p1 (d+5) (.fn (nm "_law_odd_signs"))) [varM 0,binM .FloorDiv (varM 3) (constM (.int 8))])::assignM (.var 5) (binM .Mod (varM 3) (constM (.int 8)))::l) ⟨[some (.str s),some (nll rows),some (bl ends),some (.int c),none,none,none],o⟩=r:=fun h =>
  r_seq (r_asg (r_app2 rfl (r_bin rfl rfl (r_div (by decide) rfl)) (hv _)) rfl rfl) <| r_seq (r_asg (r_bin rfl rfl (r_mod (by decide) ek)) rfl rfl) h
 rw[cf__law_refused]
 have app5:∀ {f:List V→M V} {a b e g h:M V} {x1 x2 x3 x4 x5:V} {st:St} {r:Out V},a st=.ok x1 st→b st=.ok x2 st→e st=.ok x3 st→g st=.ok x4 st→h st=.ok x5 st→f [x1,x2,x3,x4,x5] st=r→appM f [a,b,e,g,h] st=r:=fun h1 h2 h3 h4 h5 h6=>rb (r_sq h1 (r_sq h2 (r_sq h3 (r_sq h4 (r_sq h5 rfl))))) h6
 match k,hk with
 | 0,_=>exact run_pure (fl:=.ret (.bool true)) rfl (head (r_stop (r_ift (r_cmp rfl rfl (r_lti rfl)) (r_one (r_ret (r_boolV (r_cmp (app5 rfl rfl rfl rfl rfl (ask_mach d hs (.signs _ _ _ hn) _)) (r_list (r_sq (r_sub (r_list rfl (alc _)) rfl rfl) rfl) (alc _)) (eM _)))))))) rfl
 | 1,_=>exact run_pure (fl:=.ret (.bool true)) rfl (head (r_stop (r_ift (r_cmp rfl rfl (r_lti rfl)) (r_one (r_ret (r_boolV (r_cmp (app5 rfl rfl rfl rfl rfl (ask_signs d hn _)) (r_list (r_sq (r_sub (r_list rfl (alc _)) rfl rfl) rfl) (alc _)) (eS _)))))))) rfl
 | 2,_ =>
  obtain⟨w,h1,h2⟩:=odd_rows (d+4) G (c / 8) o
  exact run_pure (fl:=.ret (.bool true)) rfl (head (r_seq (r_iff (r_cmp rfl rfl (r_lti rfl)) rfl) (r_stop (r_ift (r_cmp rfl rfl (r_eqi rfl)) (r_one (r_ret (r_boolV (r_cmp (app5 rfl rfl (r_app2 rfl (r_bin rfl rfl (r_div (by decide) rfl)) (h2 _)) rfl rfl (ask_mach d hs h1 _)) (r_list rfl (alc _)) (eM _))))))))) rfl
 | 3,_ =>
  obtain⟨w,h1,h2⟩:=odd_ends (d+4) G (c / 8) o
  exact run_pure (fl:=.ret (.bool true)) rfl (head (r_seq (r_iff (r_cmp rfl rfl (r_lti rfl)) rfl) <| r_seq (r_iff (r_cmp rfl rfl (r_eqi rfl)) rfl) (r_stop (r_ift (r_cmp rfl rfl (r_eqi rfl)) (r_one (r_ret (r_boolV (r_cmp (app5 rfl rfl rfl (r_app2 rfl (r_bin rfl rfl (r_div (by decide) rfl)) (h2 _)) rfl (ask_mach d hs h1 _)) (r_list rfl (alc _)) (eM _))))))))) rfl
 | 4,_ =>
  obtain⟨w,h1,h2⟩:=odd_word (d+4) hs (c / 8) o
  exact run_pure (fl:=.ret (.bool true)) rfl (head (r_seq (r_iff (r_cmp rfl rfl (r_lti rfl)) rfl) <| r_seq (r_iff (r_cmp rfl rfl (r_eqi rfl)) rfl) <| r_seq (r_iff (r_cmp rfl rfl (r_eqi rfl)) rfl) (r_stop (r_ift (r_cmp rfl rfl (r_lti rfl)) (r_one (r_ret (r_boolV (r_cmp (app5 rfl rfl rfl rfl (r_app2 rfl (r_bin rfl rfl (r_div (by decide) rfl)) (h2 _)) (ask_goes d G h1 _)) (r_list rfl (alc _)) (eW _))))))))) rfl
 | 5,_ =>
  obtain⟨w,h1,h2⟩:=odd_word (d+4) hs (c / 8) o
  exact run_pure (fl:=.ret (.bool true)) rfl (head (r_seq (r_iff (r_cmp rfl rfl (r_lti rfl)) rfl) <| r_seq (r_iff (r_cmp rfl rfl (r_eqi rfl)) rfl) <| r_seq (r_iff (r_cmp rfl rfl (r_eqi rfl)) rfl) (r_stop (r_ift (r_cmp rfl rfl (r_lti rfl)) (r_one (r_ret (r_boolV (r_cmp (app5 rfl rfl rfl rfl (r_app2 rfl (r_bin rfl rfl (r_div (by decide) rfl)) (h2 _)) (ask_takes d G h1 _)) (r_list rfl (alc _)) (eW _))))))))) rfl
 | k+6,hk =>
  have sl:=fun l u=>Nat.le_trans (slS_len s l u) l3
  obtain⟨i,p,⟨x,rfl',xl⟩,e,hsub⟩:=pick_at (P:=O5 s) (c:=c / 8) (n:=5) rfl (by decide) (by decide) (Q:=fun p=>∃ x:List Nat,p.1=.str x∧x.length≤1000)
   (all_cons ⟨_,rfl,Nat.le_trans (rvS_len s) l1⟩ <| all_cons ⟨_,rfl,by rw[List.length_append];exact Nat.le_trans (Nat.add_le_add (sl _ _) (sl _ _)) (by decide)⟩ <| all_cons ⟨_,rfl,Nat.le_trans (sl _ _) (by decide)⟩ <| all_cons ⟨_,rfl,by rw[List.length_append];exact Nat.le_trans (Nat.add_le_add_right l3 1) (by decide)⟩ <| all_cons ⟨_,rfl,by decide⟩ all_nil)
  rw[rfl'] at hsub
  have rv:∀ st,revV (.str s) st=.ok (.str (rvS s)) st:=fun st=>congrFun (if_pos (le_lim l1)) st
  have a1:=fun st=>add_str (a:=slS s (some 1) none) (b:=slS s none (some 1)) (Nat.le_trans (Nat.add_le_add (sl _ _) (sl _ _)) (by decide)) st
  have a2:=fun st=>add_str (a:=s) (b:=[113]) (Nat.le_trans (Nat.add_le_add_right l3 1) (by decide)) st
  have k2:decide (((k+6:Nat):Int)<2)=false:=decide_eq_false (by omega)
  have k2':(((k+6:Nat):Int)==2)=false:=beq_eq_false_iff_ne.mpr (by omega)
  have k3:(((k+6:Nat):Int)==3)=false:=beq_eq_false_iff_ne.mpr (by omega)
  have k6:decide (((k+6:Nat):Int)<6)=false:=decide_eq_false (by omega)
  have tail:∀ {l:List (M Flow)} {r:Out Flow},seqS l ⟨[some (.str s),some (nll rows),some (bl ends),some (.int c),some v,some (.int ((k+6:Nat):Int)),some (.str x)],o⟩=r→seqS (assignM (.var 6) (subM (listM [revM (varM 0),binM .Add (sliceM (varM 0) (some (constM (.int 1))) none) (sliceM (varM 0) none (some (constM (.int 1)))),sliceM (varM 0) none (some (negM (constM (.int 1)))),binM .Add (varM 0) (constM (.str [113])),constM (.str [120,121,122])]) (binM .Mod (binM .FloorDiv (varM 3) (constM (.int 8))) (constM (.int 5))))::l) ⟨[some (.str s),some (nll rows),some (bl ends),some (.int c),some v,some (.int ((k+6:Nat):Int)),none],o⟩=r:=fun h =>
   r_seq (r_asg (r_sub (r_list (r_sq (rb rfl (rv _)) <| r_sq (r_bin (r_slice rfl (r_opt rfl) rfl (slc_str l1 _)) (r_slice rfl rfl (r_opt rfl) (slc_str l1 _)) (a1 _)) <| r_sq (r_slice rfl rfl (r_opt rfl) (slc_str l1 _)) <| r_sq (r_bin rfl rfl (a2 _)) <| r_sq rfl rfl) (alc (xs:=List.map (fun p:V×V=>p.1) (O5 s)) _)) (r_bin (r_bin rfl rfl (r_div (by decide) rfl)) rfl (r_mod (by decide) e)) (hsub _)) rfl rfl) h
  refine run_pure (fl:=.ret (.bool true)) (vars':=[some (.str s),some (nll rows),some (bl ends),some (.int c),some v,some (.int ((k+6:Nat):Int)),some (.str x)]) rfl (head (r_seq (r_iff (r_cmp rfl rfl (r_lti k2)) rfl) <| r_seq (r_iff (r_cmp rfl rfl (r_eqi k2')) rfl) <| r_seq (r_iff (r_cmp rfl rfl (r_eqi k3)) rfl) <| r_seq (r_iff (r_cmp rfl rfl (r_lti k6)) rfl) (tail ?_))) rfl
  have ow:=own_signs_str (d+4) xl
  cases q:signsB x with
  | false =>
   rw[q] at ow
   exact r_stop (r_ift (r_ort (r_nt (r_evB (r_app1 rfl (ow _))))) (r_one (r_ret rfl)))
  | true =>
   rw[q] at ow
   have hx:=signsB_ok q
   have se:=str_eq hx.str hs.str
   by_cases hxs:x=s
   ·rw[decide_eq_true hxs] at se
    exact r_stop (r_ift (r_orf (r_nf (r_evB (r_app1 rfl (ow _)))) (r_ort (r_cmp rfl rfl (se _)))) (r_one (r_ret rfl)))
   ·rw[decide_eq_false hxs] at se
    exact r_seq (r_iff (r_orf (r_nf (r_evB (r_app1 rfl (ow _)))) (r_orf (r_cmp rfl rfl (se _)) rfl)) rfl) (r_one (r_ret (r_boolV (r_cmp (app5 rfl rfl rfl rfl rfl (ask_parting d G hx (fun q=>hxs q.symm) _)) (r_list rfl (alc _)) (eM _)))))
end
end Mine
set_option maxRecDepth 100000
namespace Mine
open PySem
section
variable {s:List Nat}{rows:List (List Nat)}{ends:List Bool}{xs:List Int}
noncomputable def great (s:List Nat):List (List Nat):=(List.range 20).map fun r=>List.replicate s.length ((r+1) % 20)
theorem great_good (hs:SignsP s):Good s (great s) (List.replicate 20 true) where
 signs:=hs
 one:=Nat.le_of_ble_eq_true rfl
 most:=Nat.le_of_ble_eq_true rfl
 ends:=rfl
 row:=fun w hw=>by
  obtain⟨r,_,rfl⟩:=List.mem_map.mp hw
  exact⟨List.length_replicate,fun i hi=>by rw[(List.mem_replicate.mp hi).2];exact Nat.mod_lt _ (by decide)⟩
noncomputable def lwV (xs:List Int)(s:List Nat)(rows:List (List Nat))(ends:List Bool)(z:List (Option V)):List (Option V):=some (.alist (xs.map .int))::some (.str s)::some (nll rows)::some (bl ends)::some (nll (great s))::z
theorem good_word (d:Nat)(hs:SignsP s){c:Int}(hc:heavy 1048577 c){n:Nat}(hn:n≤12){vs:List (Option V)}{o:List Ob}{src:M Src}(h11:vs.length=11)(h1:vs[1]?=some (some (.str s)))(h6:vs[6]?=some (some (.int c)))(hsrc:src ⟨vs,o⟩=.ok ⟨(List.range n).map fun (k:Nat)=>V.int k,[]⟩ ⟨vs,o⟩) :
  ∃ w:List Nat,(∀ x∈w,x∈s)∧methM (pickS mJoin) (constM (.str [])) [compM 11 1 src (.var 11) (andM []) (bd_law_2 (d+1))] ⟨vs,o⟩=.ok (.str w) ⟨vs,o⟩:=by
 have l1:s.length≤1000:=Nat.le_trans hs.three (by decide)
 have n1:n≤1000:=Nat.le_trans hn (by decide)
 have hp:(0:Int)<s.length:=Int.ofNat_lt.mpr hs.one
 have cm:=comp1_map (b:=11) (vars:=vs) (obs:=o) (src:=src) (elt:=bd_law_2 (d+1)) (xs:=List.range n) (f:=fun (k:Nat)=>V.int k) (c:=[]) h11 hsrc (by rw[List.length_range];exact n1) (.nil _) (fun (j:Nat)=>V.str [s.getD (mixed c j / 16 % (s.length:Int)).toNat 0]) (fun j hj=>by
  have hj':j≤1000:=Nat.le_trans (Nat.le_of_lt (List.mem_range.mp hj)) n1
  have hm:=mixed_eq d c j ⟨vs++[some (V.int j)],o⟩ (heavy_mono hc (by decide)) ⟨Int.natCast_nonneg _,Int.ofNat_le.mpr hj'⟩
  obtain⟨m,em,hm'⟩:=modN (mixed c j / 16) hs.one
  have e2:(mixed c j / 16 % (s.length:Int)).toNat=m:=by rw[em];rfl
  rw[e2]
  have v1:=r_var (obs:=o) (nth_pre (zs:=[some (V.int (j:Int))]) h1)
  refine r_sub v1 (r_bin (r_bin (r_app2 (r_var (nth_pre h6)) (r_var (nth_new h11)) hm) rfl (r_div (by decide) rfl)) (r_app1 v1 (len_str l1 _)) (r_mod hp em)) ?_
  rw[ev_sub_str,idx_nat (List.getElem?_eq_getElem hm') l1,List.getD_eq_getElem?_getD,List.getElem?_eq_getElem hm'];rfl)
 refine⟨(List.range n).map fun (j:Nat)=>s.getD (mixed c j / 16 % (s.length:Int)).toNat 0,fun x hx=>?_,?_⟩
 ·obtain⟨j,_,rfl⟩:=List.mem_map.mp hx
  obtain⟨m,em,hm'⟩:=modN (mixed c j / 16) hs.one
  have e2:(mixed c j / 16 % (s.length:Int)).toNat=m:=by rw[em];rfl
  rw[e2,List.getD_eq_getElem?_getD,List.getElem?_eq_getElem hm']
  exact List.getElem_mem hm'
 ·have hj:=ev_join (s:=(List.range n).map fun (j:Nat)=>s.getD (mixed c j / 16 % (s.length:Int)).toNat 0) (by rw[List.length_map,List.length_range];exact n1)
  rw[List.map_map] at hj
  exact r_meth1 rfl rfl cm (hj _)
theorem eq_bool (b:Bool)(st:St):cmpV .NotEq (.bool b) (.bool b) st=.ok false st:=by
 have h:=ev_eqD Dt.bool (by decide) (a:=b) (b:=b) trivial trivial st
 rw[decide_eq_true rfl] at h
 exact r_ne h
theorem law_turn (d:Nat)(G:Good s rows ends){c:Int}(hc:heavy 1048577 c){k:Nat}(hk:k≤1000)(z:List (Option V))(hz:z.length=4):∃ z',z'.length=4∧bd_law_3 (d+6) ⟨lwV xs s rows ends (some (.int k)::some (.int c)::z),[]⟩=.ok .next ⟨lwV xs s rows ends (some (.int k)::some (.int c)::z'),[]⟩:=by
 have hs:=G.signs
 have mx:=fun st=>mixed_eq (d+5) c k st (heavy_mono hc (by decide)) ⟨Int.natCast_nonneg _,Int.ofNat_le.mpr hk⟩
 obtain⟨m,hm⟩:∃ m,m=mixed c k:=⟨_,rfl⟩
 rw[← hm] at mx
 obtain⟨v,ov,hv⟩:=odd_signs hs (m / 8) []
 obtain⟨u,nu,hu⟩:=odd_word (d+5) hs (m / 8) []
 obtain⟨b,b1,b2,b3⟩:=od_signs ov
 have b1:=b1 (d+5)
 have b2:=b2 (d+5)
 obtain⟨n,en,hn⟩:=modN (m / 64) (n:=12) (by decide)
 obtain⟨z1,z2,z3,z4,rfl⟩:∃ z1 z2 z3 z4,z=[z1,z2,z3,z4]:=by
  match z,hz with
  | [z1,z2,z3,z4],_=>exact⟨z1,z2,z3,z4,rfl⟩
 obtain⟨w,hw,gw⟩:=good_word (d+5) hs hc (Nat.le_of_lt hn) (vs:=lwV xs s rows ends [some (.int k),some (.int c),some (.int m),some v,some u,z4]) (o:=[]) (src:=(appM fRange [binM .Mod (binM .FloorDiv (varM 7) (constM (.int 64))) (constM (.int 12))]).bind toSrc) rfl rfl rfl (r_range (n:=n) (r_bin (r_bin rfl rfl (r_div (by decide) rfl)) rfl (r_mod (by decide) en)) (Nat.le_trans (Nat.le_of_lt hn) (by decide)))
 have w0:=fun st=>is_word_no (d+5) nu st
 have w1:=fun st=>is_word_eq (d+5) hw st
 refine⟨[some (.int m),some v,some u,some (.str w)],rfl,?_⟩
 have last:iteM (andM [notM (evB (appM (cfOf p1 (d+6) (.fn (nm "_law_is_signs"))) [varM 8])),notM (evB (appM (cfOf p1 (d+6) (.fn (nm "_law_refused"))) [varM 1,varM 2,varM 3,varM 7]))]) (seqS [retM (constM (.bool false))]) (seqS []) ⟨lwV xs s rows ends [some (.int k),some (.int c),some (.int m),some v,some u,some (.str w)],[]⟩=.ok .next ⟨lwV xs s rows ends [some (.int k),some (.int c),some (.int m),some v,some u,some (.str w)],[]⟩:=by
  cases b with
  | true=>exact r_iff (r_andf (r_nf (r_evB (r_app1 rfl (b2 _))))) rfl
  | false=>exact r_iff (r_andt (r_nt (r_evB (r_app1 rfl (b2 _)))) (r_andf (r_nf (r_evB (rb (r_sq rfl (r_sq rfl (r_sq rfl (r_sq rfl rfl)))) (refused_eq d G m [] (hv (d+4)) (b3 rfl) _)))))) rfl
 exact r_seq (r_asg (r_app2 rfl rfl (mx _)) rfl rfl) <| r_seq (r_asg (r_app2 rfl (r_bin rfl rfl (r_div (by decide) rfl)) (hv (d+5) _)) rfl rfl) <| r_seq (r_asg (r_app2 rfl (r_bin rfl rfl (r_div (by decide) rfl)) (hu _)) rfl rfl) <| r_seq (r_iff (r_orf (r_nf (r_evB (r_app2 (r_app1 rfl (b1 _)) rfl ((Kv.bool b).isi rfl _)))) (r_orf (r_cmp (r_app1 rfl (b1 _)) (r_app1 rfl (b2 _)) (eq_bool b _)) rfl)) rfl) <| r_seq (r_asg gw rfl rfl) <| r_seq (r_iff (r_orf (r_cmp (r_app2 rfl rfl (w0 _)) rfl rfl) (r_orf (r_cmp (r_app2 rfl rfl (w1 _)) rfl rfl) rfl)) rfl) (r_one last)
theorem slice_sub {l u:Option Int}{x:Int}(h:x∈sliceL xs l u):x∈xs:=by
 unfold sliceL at h
 exact List.mem_of_mem_drop (List.mem_of_mem_take h)
theorem slice_map {α β:Type}(f:α→β)(ys:List α)(l u:Option Int):sliceL (ys.map f) l u=(sliceL ys l u).map f:=by
 unfold sliceL
 rw[List.length_map,List.map_take,List.map_drop]
theorem slice_len {α:Type}(ys:List α)(l u:Option Int):(sliceL ys l u).length≤ys.length:=by
 unfold sliceL
 exact Nat.le_trans (List.length_take_le' ..) (by rw[List.length_drop];exact Nat.sub_le _ _)
theorem law02_ok (d:Nat)(hx:xs.length≤63)(hh:∀ x∈xs,heavy 1048577 x):cfOf p1 (d+7) (.fn (nm "law")) [.alist (xs.map .int)] ⟨[],[]⟩=.ok (.bool true) ⟨[],[]⟩:=by
 obtain⟨s,hs,S⟩:=signs_ok (d+5) (xs.getD 0 0)
 obtain⟨rows,ends,r1,r2,r3,r4,D⟩:=drawn_ok (d+4) hx hh (k:=s.length) (start:=1) (most:=8) ⟨hs.one,hs.three⟩ (by decide) ⟨by decide,by decide⟩
 have G:Good s rows ends:=⟨hs,r1,Nat.le_trans r2 (by decide),r3,r4⟩
 have l1:s.length≤1000:=Nat.le_trans hs.three (by decide)
 have c0:=fun st=>cell_eq (d+5) xs 0 st hx (by decide)
 have c10:=fun st=>cell_eq (d+5) xs 10 st hx (by decide)
 have ls:=fun st=>len_str l1 st
 obtain⟨ys,hys⟩:∃ ys,ys=xs.getD 10 0::sliceL xs (some 11) (some 22):=⟨_,rfl⟩
 have yl:ys.length≤100:=by rw[hys];exact Nat.le_trans (Nat.succ_le_succ (Nat.le_trans (slice_len ..) hx)) (by decide)
 have yh:∀ y∈ys,heavy 1048577 y:=fun y hy=>by
  rw[hys] at hy
  rcases List.mem_cons.mp hy with rfl | hy
  ·exact getD_heavy hh _
  ·exact hh y (slice_sub hy)
 have gm:=comp1_map (b:=11) (vars:=[some (.alist (xs.map .int)),some (.str s),some (nll rows),some (bl ends),none,none,none,none,none,none,none]) (obs:=[]) (src:=(appM fRange [constM (.int 20)]).bind toSrc) (elt:=bd_law_1 (d+6)) (xs:=List.range 20) (f:=fun (k:Nat)=>V.int k) (c:=[]) rfl (r_range (n:=20) rfl (by decide)) (by decide) (.nil _) (fun r=>nl (List.replicate s.length ((r+1) % 20))) (fun r _=>by
  have e:nl (List.replicate s.length ((r+1) % 20))=.flist (List.replicate s.length (V.int (((r+1) % 20:Nat):Int))):=by unfold nl;rw[List.map_replicate]
  rw[e]
  exact r_bin (r_list (r_sq (r_bin (r_bin rfl rfl (r_addi (c:=((r+1:Nat):Int)) rfl)) rfl (r_mod (by decide) (c:=(((r+1) % 20:Nat):Int)) rfl)) rfl) (alc (xs:=[_]) _)) (r_app1 rfl (ls _)) (mul_one _ l1 _))
 have eg:V.flist ((List.range 20).map fun r=>nl (List.replicate s.length ((r+1) % 20)))=nll (great s):=by unfold nll great;rw[List.map_map];rfl
 rw[eg] at gm
 have m3:∀ st,binV .Mult (.str s) (.int 3) st=.ok (.str (List.replicate 3 s).flatten) st:=mul_str (.inl rfl) l1
 have m20:∀ st,binV .Mult (.flist [.bool true]) (.int 20) st=.ok (bl (List.replicate 20 true)) st:=mul_one (.bool true) (n:=20) (by decide)
 have f3:=ask_fine (d+1) (great_good hs) (w:=(List.replicate 3 s).flatten) (fun c hc=>by
  obtain⟨l,hl,hc⟩:=List.mem_flatten.mp hc
  rw[(List.mem_replicate.mp hl).2] at hc;exact hc)
 have f1:=ask_learner (d+1) hs (nll rows) (bl ends) .none
 have app5:∀ {f:List V→M V} {a b e g h:M V} {x1 x2 x3 x4 x5:V} {st:St} {r:Out V},a st=.ok x1 st→b st=.ok x2 st→e st=.ok x3 st→g st=.ok x4 st→h st=.ok x5 st→f [x1,x2,x3,x4,x5] st=r→appM f [a,b,e,g,h] st=r:=fun h1 h2 h3 h4 h5 h6=>rb (r_sq h1 (r_sq h2 (r_sq h3 (r_sq h4 (r_sq h5 rfl))))) h6
 obtain⟨st',h1,a,b,z,rfl,hz⟩:=for_map (t:=.tup [5,6]) (body:=bd_law_3 (d+6)) (c:=[]) (f:=fun p:Int×Nat=>V.tuple [.int p.2,.int p.1]) (xs:=ys.zipIdx 0) (fun j st=>∃ a b z,st=⟨lwV xs s rows ends (a::b::z),[]⟩∧z.length=4) (fun _ _ _=>.nil _) (fun j p st hp hI=>by
  obtain⟨a,b,z,rfl,hz⟩:=hI
  obtain⟨y,k⟩:=p
  have hm:=List.mem_of_getElem? hp
  have hy:y∈ys:=List.fst_mem_of_mem_zipIdx hm
  have hk:k≤1000:=by
   have:=List.snd_lt_of_mem_zipIdx hm
   rw[Nat.add_zero] at this
   exact Nat.le_trans (Nat.le_of_lt this) (Nat.le_trans yl (by decide))
  obtain⟨z',hz',ht⟩:=law_turn (xs:=xs) d G (yh y hy) hk z hz
  exact⟨_,rb (a:=()) rfl ht,_,_,z',rfl,hz'⟩) (st:=⟨lwV xs s rows ends [none,none,none,none,none,none],[]⟩) ⟨none,none,[none,none,none,none],rfl,rfl⟩
 have src:((binM .Add (listM [appM (cfOf p1 (d+6) (.fn (nm "_law_cell_at"))) [varM 0,constM (.int 10)]]) (sliceM (varM 0) (some (constM (.int 11))) (some (constM (.int 22))))).bind enumV) ⟨lwV xs s rows ends [none,none,none,none,none,none],[]⟩=.ok ⟨(ys.zipIdx 0).map fun p:Int×Nat=>V.tuple [.int p.2,.int p.1],[]⟩ ⟨lwV xs s rows ends [none,none,none,none,none,none],[]⟩:=by
  have e:[V.int (xs.getD 10 0)]++sliceL (xs.map V.int) (some 11) (some 22)=ys.map V.int:=by rw[hys,slice_map];rfl
  have sl:∀ st,sliceV (.alist (xs.map V.int)) (some 11) (some 22) st=.ok (.flist (sliceL (xs.map V.int) (some 11) (some 22))) st:=fun st=>congrFun (if_pos (le_lim (by rw[List.length_map];exact Nat.le_trans hx (by decide)))) st
  have ad:∀ st,binV .Add (.flist [V.int (xs.getD 10 0)]) (.flist (sliceL (xs.map V.int) (some 11) (some 22))) st=.ok (.flist (ys.map V.int)) st:=fun st=>(ev_add_flist _ _ _).trans (by rw[e];exact ev_allocL (by rw[List.length_map];exact Nat.le_trans yl (by decide)) st)
  refine rb (r_bin (r_list (r_sq (r_app2 rfl rfl (c10 _)) rfl) (alc (xs:=[_]) _)) (r_slice rfl (r_opt rfl) (r_opt rfl) (sl _)) (ad _)) ?_
  rw[ev_enumV,enum_map]
 have sg:=fun st=>is_signs_eq (d+5) hs st
 have wd:=fun st=>is_word_eq (d+5) (s:=s) (w:=s++s) (fun c hc=>(List.mem_append.mp hc).elim id id) st
 have we:=fun st=>is_word_eq (d+5) (s:=s) (w:=[]) (fun c hc=>(nomatch hc)) st
 have ss:=fun st=>add_str (a:=s) (b:=s) (Nat.le_trans (Nat.add_le_add hs.three hs.three) (by decide)) st
 rw[cf_law]
 exact run_pure (fl:=.ret (.bool true)) (vars':=lwV xs s rows ends (a::b::z)) rfl (r_seq (r_asg (r_app1 (r_app2 rfl rfl (c0 _)) (S _)) rfl rfl) <| r_seq (r_asgT (rb (a:=[_,_,_,_]) (r_sq rfl (r_sq rfl (r_sq (r_app1 rfl (ls _)) (r_sq rfl rfl)))) (D _)) rfl) <| r_seq (r_asg gm rfl rfl) <| r_seq (r_iff (r_orf (r_cmp (app5 rfl rfl rfl (r_bin (r_list rfl (alc _)) rfl (m20 _)) (r_bin rfl rfl (m3 _)) (f3 _)) (r_list rfl (alc _)) (ne_nil' _)) (r_orf (r_cmp (app5 rfl rfl rfl rfl rfl (f1 _)) (r_list rfl (alc _)) (ne_nil' _)) rfl)) rfl) <| r_seq (r_for src h1) (r_one (r_ret (r_boolV (r_andt (r_evB (r_boolV (r_cmp (r_app1 rfl (sg _)) rfl rfl))) (r_andt (r_evB (r_boolV (r_cmp (r_app2 rfl (r_bin rfl rfl (ss _)) (wd _)) rfl rfl))) (r_andt (r_evB (r_boolV (r_cmp (r_app2 rfl rfl (we _)) rfl rfl))) rfl))))))) rfl
end
end Mine
namespace Mine
open PySem PySem.W PyProof.Rows
set_option maxRecDepth 100000
set_option maxHeartbeats 8000000
theorem said1 : OpenLaw.wellSaid PySem.Challenge.rw_uf020027_02 = true := by kernel_rfl
theorem ok1 : (chainsOk view1 && opensWell PySem.Challenge.rw_uf020027_02.row.prog && (frees PySem.Challenge.rw_uf020027_02.row.toRowW && PySem.Challenge.rw_uf020027_02.row.within.isEmpty)) = true := by kernel_rfl
theorem spec1 : ((basesOf p1).map (·.1)).all (fun c => !exnOf p1 c || specOf view1 c == some ("ValueError.__new__", bmV)) = true := by kernel_rfl
theorem own1 (c : Str) (h : exnOf p1 c = true) : specOf view1 c = some ("ValueError.__new__", bmV) := by
  have h' := h
  unfold exnOf at h'
  rw [Bool.and_eq_true] at h'
  have q := List.all_eq_true.mp spec1 c (by simpa using h'.1)
  rw [h] at q
  exact beq_iff_eq.mp (by simpa using q)
end Mine
open PySem PySem.W PyProof.Rows Mine
set_option maxRecDepth 100000 in
set_option maxHeartbeats 8000000 in
theorem PySem.Challenge.cw_uf020027_02_holds : PySem.Challenge.rw_uf020027_02.Holds := by
  w_on
  refine holds_law said1 fun said => ?_
  refine holds_open (r := PySem.Challenge.rw_uf020027_02.row) (q := view1) (loose := []) (Xt := xt1) (XP := XL view1 []) (Yf := Hook.obs (topHook p1)) (Ya := Hook.val (topHook p1)) (YP := Hook.says (topHook p1)) (N := 4500) left1 (Hook.of (topHook p1)) (Hook.keeps (topHook p1)) (fun s e => xl_of s (Bool.and_eq_true_iff.mp e).1) XL.keeps (by rfl) (by rfl) (by rfl) (fun s e => recFacts_of (Bool.and_eq_true_iff.mp e).2) (by rfl) said ok1 ⟨rfl, rfl, rfl, rfl, rfl, by decide +kernel⟩ ?hw ?hc
  case hw => w_witness2
  intro w s₀ s₁ mg mb G Y fa o pm cd doc dV kV ho hd hcd hD hmg hg args vals as hpre hlay hrd hwl hlo
  obtain ⟨K, KX, hT, hadr⟩ := Y
  refine Ground.open G ?_
  intro T B D TE TW
  clear hd hcd hD
  wrow_args hpre hlay hrd hwl hlo
  refine enter_call ?_
  rename_i xs _ _ hlay' _ _ _ _ _ _ _ hL _ _ _ hI _ hc _
  exact close_law hT hadr KX T hmg hg own1 hL hI (d := 6) (by decide) ⟨[], law02_ok 0 (by omega) (lay_log hlay')⟩ fun s' h1 h2 h3 => GoodW.toG ⟨.inl ⟨.bool true, .bool true, [], rfl, fun _ => rfl, .bool true, (by kernel_rfl!), fun _ => ⟨List.nodup_nil, fun a h => (nomatch h)⟩⟩, h1, h2, h3⟩
